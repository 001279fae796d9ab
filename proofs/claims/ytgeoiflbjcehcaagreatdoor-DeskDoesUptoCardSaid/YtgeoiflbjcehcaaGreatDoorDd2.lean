import Derived.Test.YtgeoiflbjcehcaaGreatDoorDd1
import Derived.OrdersHeld
import Derived.Test.YtgeoiflbjcehcaaGreatDoorProg
import Derived.KernelRfl
set_option maxHeartbeats 4000000
set_option maxRecDepth 2000
set_option linter.unusedVariables false
set_option linter.unusedSimpArgs false
namespace Go.Proofs.YtgeoiflbjcehcaaGreatDoor
namespace X
open Go
section
variable {P:Program} {N:Nat} {all:Array Oper} {rest:List Oper} {ρ:Env} {h:Heap} {K:lP}
theorem CR {c:Code} {Q:Exit→Act→World→Prop} (I:Nat→Act→World→Prop)
 (round:∀n a w,I n a w→c.wp P (Exit.then (fun a' w'=>∃m,m<n∧I m a' w') Q) a w):∀n a w,I n a w→(Code.loop c).wp P Q a w:=by
 intro n a w hI b k cs
 have key:∀n a w,I n a w→∃e a' w',Q e a' w'∧Arrives P (lone (b.at a (.code c::.inLoop c::k)) cs w) b k cs e a' w':=by
  intro n
  induction n using Nat.strongRecOn with
  |_ n ih=>
   intro a w hI;obtain⟨e,I4,I5,hq,CS⟩:=round n a w hI b (.inLoop c::k) cs
   cases e with
   |normal=>
    obtain⟨m,aV,VX⟩:=hq;obtain⟨Z6,Z7,Z8,VY,OR⟩:=ih m aV I4 I5 VX;exact⟨Z6,Z7,Z8,VY,.of_steps (Steps.trans CS (.one step_inLoop)) OR⟩
   |exit id=>exact⟨_,I4,I5,hq,.pass (x:=.inLoop c) rfl (fun _ _=>.inl (by simp)) CS⟩
   |goto l=>exact⟨_,I4,I5,hq,.pass (x:=.inLoop c) rfl (fun _ _=>.inl (by simp)) CS⟩
   |ret=>exact⟨_,I4,I5,hq,.pass (x:=.inLoop c) rfl (fun _ _=>.inl (by simp)) CS⟩
   |panic ch=>exact⟨_,I4,I5,hq,.pass (x:=.inLoop c) rfl (fun _ _=>.inl (by simp)) CS⟩
   |outgrown=>exact⟨_,I4,I5,hq,.pass (x:=.inLoop c) rfl (fun _ _=>.inl (by simp)) CS⟩
 obtain⟨e,a',w',hq,CS⟩:=key n a w hI;exact⟨e,a',w',hq,.of_steps (.one step_loop) CS⟩
@[reducible] def Vk (lo hi:Nat) (ρ δ:Env):Env:=fun s=>match Nat.ble lo s with
 |true=>(match Nat.ble s hi with|true=>δ s|false=>ρ s)
 |false=>ρ s
def dq:List (Nat×Nat)→Env→Env→Env
 |[],ρ,_=>ρ
 |(lo,hi)::l,ρ,δ=>Vk lo hi (dq l ρ δ) δ
def zb (L:List (Nat×Nat)) (s:Nat):Bool:=L.all fun p=>!(Nat.ble p.1 s&&Nat.ble s p.2)
def iy (L:List (Nat×Nat)) (ρ er:Env):Prop:=∀s,zb L s=true→er s=ρ s
theorem iy.refl (L:List (Nat×Nat)) (ρ:Env):iy L ρ ρ:=fun _ _=>rfl
theorem iy.dO {L:List (Nat×Nat)} {ρ er:Env} {d:Nat} {v:Value} (hk:iy L ρ er) (hd:zb L d=false):iy L ρ (dO er d v):=fun s hs=>by
 (have:s≠d:=fun e=>by subst e;rw[hd] at hs;cases hs);rw[fv _ _ _ _ this];exact hk s hs
theorem iy.jz {L:List (Nat×Nat)} {ρ er:Env} {d:Nat} {v:Value} (hk:iy L ρ er) (hd:zb L d=false):iy L ρ (X.jz er (some d) v):=iy.dO hk hd
theorem iy.VZ {L:List (Nat×Nat)} {ρ er:Env} {v:Value} (hk:iy L ρ er):iy L ρ (X.jz er none v):=hk
theorem KP {L:List (Nat×Nat)} {lo hi s:Nat} (hL:(L.any fun p=>Nat.ble p.1 lo&&Nat.ble hi p.2)=true) (h1:Nat.ble lo s=true) (h2:Nat.ble s hi=true):zb L s=false:=by
 simp only[List.any_eq_true,Bool.and_eq_true] at hL;obtain⟨p,hp,h3,h4⟩:=hL;have a:=Nat.le_of_ble_eq_true h1;have b:=Nat.le_of_ble_eq_true h2;have c:=Nat.le_of_ble_eq_true h3;have d:=Nat.le_of_ble_eq_true h4;unfold zb;simp only[List.all_eq_false];refine⟨p,hp,?_⟩;have e1:Nat.ble p.1 s=true:=Nat.ble_eq_true_of_le (by omega);have e2:Nat.ble s p.2=true:=Nat.ble_eq_true_of_le (by omega);simp[e1,e2]
theorem iy.Vk {L:List (Nat×Nat)} {ρ er δ:Env} {lo hi:Nat} (hk:iy L ρ er) (hd:(L.any fun p=>Nat.ble p.1 lo&&Nat.ble hi p.2)=true):iy L ρ (Vk lo hi er δ):=fun s hs=>by
 unfold X.Vk
 cases e1:Nat.ble lo s with
 |false=>exact hk s hs
 |true=>
  cases e2:Nat.ble s hi with
  |false=>exact hk s hs
  |true=>rw[KP hd e1 e2] at hs;cases hs
theorem Fp:∀{L:List (Nat×Nat)} {ρ er:Env},iy L ρ er→dq L ρ er=er:=by
 intro L
 have gen:∀(L:List (Nat×Nat)) (ρ er:Env) (s:Nat),dq L ρ er s=if zb L s=true then ρ s else er s:=by
  intro L
  induction L with
  |nil=>intro ρ er s;simp[dq,zb]
  |cons p L ih=>
   intro ρ er s;obtain⟨lo,hi⟩:=p;simp only[dq,X.Vk]
   cases e1:Nat.ble lo s with
   |false=>simp only[ih,zb,List.all_cons,e1,Bool.false_and,Bool.not_false,Bool.true_and];rfl
   |true=>
    cases e2:Nat.ble s hi with
    |false=>simp only[ih,zb,List.all_cons,e1,e2,Bool.and_false,Bool.not_false,Bool.true_and];rfl
    |true=>simp[zb,e1,e2]
 intro ρ er hk;funext s;rw[gen];split
 ·rename_i e;exact(hk s e).symm
 ·rfl
def Bi (ρ:Env):List (Nat×Value)→Prop
 |[]=>True
 |(d,v)::l=>ρ d=v∧Bi ρ l
theorem Bi.get {ρ:Env}:∀{l:List (Nat×Value)},Bi ρ l→∀p∈l,ρ p.1=p.2
 |[],_,_,hp=>by cases hp
 |(d,v)::l,⟨h1,h2⟩,p,hp=>by
  simp only[List.mem_cons] at hp;rcases hp with rfl|hp
  ·exact h1
  ·exact Bi.get h2 p hp
theorem V0 {c:Code} {σ:Type} (L:List (Nat×Nat)) (E:σ→List (Nat×Value)) (I:σ→Heap→Prop) (μ:σ→Nat) (x0:σ) (e0:Bi ρ (E x0)) (h0:I x0 h)
 (round:∀x δ h',I x h'→X P N c ((E x).foldl (fun r p=>dO r p.1 p.2) (dq L ρ δ)) h' (G0 (fun er VO=>iy L ρ er∧∃x',Bi er (E x')∧I x' VO∧μ x'<μ x) K)):X P N (.loop c) ρ h K:=by
 refine⟨fun w0 a w hs hh he=>?_⟩;refine CR (fun n a' w'=>a'.defers=a.defers∧gC w0 w'∧∃x er,μ x=n∧e9 N a' er∧iy L ρ er∧(∀p∈E x,er p.1=p.2)∧I x w'.heap) ?_ (μ x0) a w ⟨rfl,hs,x0,ρ,rfl,he,.refl _ _,e0.get,hh▸h0⟩;rintro n a' w' ⟨hd,Z9,x,er,rfl,V1,hk,hE,hI⟩
 have aac:(E x).foldl (fun r p=>X.dO r p.1 p.2) (dq L ρ er)=er:=by
  rw[Fp hk]
  have:∀(l:List (Nat×Value)),(∀p∈l,er p.1=p.2)→l.foldl (fun r p=>X.dO r p.1 p.2) er=er:=by
   intro l
   induction l with
   |nil=>intro _;rfl
   |cons p l ih=>
    intro hl
    have:X.dO er p.1 p.2=er:=by
     funext s;by_cases e:s=p.1
     ·rw[e,sH,hl p (by simp)]
     ·rw[fv _ _ _ _ e]
    rw[List.foldl_cons,this];exact ih fun q hq=>hl q (by simp[hq])
  exact this _ hE
 have hr:=round x er w'.heap hI;rw[aac] at hr;refine Code.wp_mono ?_ (hr.out w0 a' w' Z9 rfl V1);rintro e a'' w'' ⟨q1,q2,V2,q3,q4⟩;rw[hd] at q1
 cases e with
 |normal=>
  obtain⟨k1,x',k2,k3,k4⟩:=q4;exact⟨μ x',k4,q1,q2,x',V2,rfl,q3,k1,k2.get,k3⟩
 |_=>exact⟨q1,q2,V2,q3,q4⟩
def ob (P:Program) (ops:Array Oper) (Q:Exit→Act→World→Prop) (S:World→Prop) (z:List Nat):Nat→Array Bool→Act→World→Prop
 |0,listed,a,w=>Region.ready .any ops listed=[]∧Q .normal a w
 |fuel+1,listed,a,w=>
  (Region.ready .any ops listed=[]→Q .normal a w)∧
  ∀i∈Region.ready .any ops listed,wpOp P ops Q i (fun a' w'=>(z.contains i=true∨(S w→S w'))∧ob P ops Q S z fuel (listed.setIfInBounds i true) a' w') a w
theorem rJ {ops:Array Oper} {Q:Exit→Act→World→Prop} {S:World→Prop} {z:List Nat}:∀(fuel:Nat) (listed:Array Bool) (a:Act) (w:World),ob P ops Q S z fuel listed a w→wpAny P .any ops Q fuel listed a w
 |0,_,_,_,h=>h
 |fuel+1,_,_,_,h=>⟨h.1,fun i hi=>wpOp_mono (fun a' w' h'=>rJ fuel _ a' w' h'.2) (h.2 i hi)⟩
def uw (ops:Array Oper):Nat→Nat→Nat→Bool
 |0,_,_=>false
 |n+1,j,i=>match ops[j]? with
  |some o=>o.after.any fun e=>Region.binds .any e&&(e.on==i||uw ops n e.on i)
  |none=>false
def wX (ops:Array Oper) (z:List Nat) (i:Nat):Bool:=z.all fun j=>match ops[j]? with
 |some _=>uw ops 5 j i
 |none=>false
def kQ (ops:Array Oper) (listed:Array Bool):Prop:=∀j oj,ops[j]? =some oj→listed.getD j false=true→∀e∈oj.after,Region.binds .any e=true→listed.getD e.on false=true
theorem kQ.set {ops:Array Oper} {listed:Array Bool} (hc:kQ ops listed) {j:Nat} (hj:j∈Region.ready .any ops listed):kQ ops (listed.setIfInBounds j true):=by
 intro k ok hk hl e he hb;obtain⟨_,oj,I6,bu⟩:=mem_ready.1 hj;(have keep:listed.getD e.on false=true→(listed.setIfInBounds j true).getD e.on false=true:=fun h=>getD_set_true h);by_cases I7:j=k
 ·subst I7;rw[hk] at I6;simp only[Option.some.injEq] at I6;subst I6;exact keep (bu e he hb)
 ·rw[getD_set_ne false I7] at hl;exact keep (hc k ok hk hl e he hb)
theorem kQ.reach {ops:Array Oper} {listed:Array Bool} (hc:kQ ops listed) {i:Nat}:∀(n j:Nat) (oj:Oper),ops[j]? =some oj→(∀e∈oj.after,Region.binds .any e=true→listed.getD e.on false=true)→uw ops n j i=true→listed.getD i false=true
 |0,_,_,_,_,hr=>by simp[uw] at hr
 |n+1,j,oj,hj,bu,hr=>by
  simp only[uw,hj] at hr;obtain⟨k,hk,hb⟩:=Array.any_eq_true.1 hr;simp only[Bool.and_eq_true,Bool.or_eq_true,beq_iff_eq] at hb;have h1:=bu _ (Array.getElem_mem hk) hb.1;rcases hb.2 with h2|h2
  ·rw[←h2];exact h1
  ·cases ho:ops[(oj.after[k]).on]? with
   |none=>cases n<;>simp[uw,ho] at h2
   |some o'=>exact kQ.reach hc n _ o' ho (hc _ o' ho h1) h2
theorem sL {ops:Array Oper} {Q:Exit→Act→World→Prop} {S:World→Prop} {z:List Nat} {i:Nat} {oi:Oper} {v:Value} (hi:ops[i]? =some oi) (KQ:∀(j:Nat) (o:Oper) cs b,ops[j]? =some o→o.op≠.select cs b)
 (hQ:∀c a w,Q (.panic c) (a.put oi.dst v) w→Q (.panic c) a w) (hz:wX ops z i=true):
 ∀(fuel:Nat) (listed:Array Bool) (a:Act) (w:World),
  (∀j oj,ops[j]? =some oj→j≠i→listed.getD j true=false→(∀e∈oj.after,Region.binds .any e=true→e.on≠i)→oi.apart ops oj=true)→
  i∈Region.ready .any ops listed→kQ ops listed→YieldsIf P ops S oi v a→S w→
  ob P ops Q S z fuel (listed.setIfInBounds i true) (a.put oi.dst v) w→ob P ops Q S z (fuel+1) listed a w:=by
 intro fuel
 induction fuel with
 |zero=>
  intro listed a w _ hr _ hy hS H;refine⟨fun h=>(by rw[h] at hr;cases hr),fun j hj=>?_⟩;by_cases CT:j=i
  ·subst CT;exact hy.wpOp hi hS ⟨.inr (fun _=>hS),H⟩
  ·have:=ready_mono hj CT;rw[H.1] at this;cases this
 |succ fuel ih=>
  intro listed a w oX hr Y9 hy hS H;refine⟨fun h=>(by rw[h] at hr;cases hr),fun j hj=>?_⟩;by_cases CT:j=i
  ·subst CT;exact hy.wpOp hi hS ⟨.inr (fun _=>hS),H⟩
  ·have h1:=H.2 j (ready_mono hj CT);obtain⟨KR,oj,I6,bu⟩:=mem_ready.1 hj
   have wY:∀e∈oj.after,Region.binds .any e=true→e.on≠i:=fun e he hb heq=>by
    have h1:=bu e he hb;have h0:=(mem_ready.1 hr).1;rw[heq] at h1;rcases Nat.lt_or_ge i listed.size with h'|h'
    ·simp[h'] at h0 h1;rw[h0] at h1;cases h1
    ·simp[Array.getElem?_eq_none h'] at h1
   have hjz:¬z.contains j=true:=fun e=>by
    have Cu:=List.all_eq_true.1 hz j (by simpa using e);simp only[I6] at Cu;have h1:=kQ.reach Y9 5 j oj I6 (fun e he hb=>bu e he hb) Cu;have h0:=(mem_ready.1 hr).1;rcases Nat.lt_or_ge i listed.size with h'|h'
    ·simp[h'] at h0 h1;rw[h0] at h1;cases h1
    ·simp[Array.getElem?_eq_none h'] at h1
   have h2:=wpOp_putIf I6 (oX j oj I6 CT KR wY) (fun cs b=>KQ i oi cs b hi) (fun cs b=>KQ j oj cs b I6) hQ hy h1
   have Fq:∀k ok,ops[k]? =some ok→k≠i→(listed.setIfInBounds j true).getD k true=false→
    (∀e∈ok.after,Region.binds .any e=true→e.on≠i)→oi.apart ops ok=true:=fun k ok hk hki V3 zc=>by
    refine oX k ok hk hki ?_ zc;by_cases I7:j=k
    ·subst I7;exact KR
    ·rw[getD_set_ne true I7] at V3;exact V3
   refine wpOp_mono (fun a' w' h3=>?_) h2;obtain⟨h3y,h3s,h3w⟩:=h3;have V4:S w':=h3s.resolve_left hjz hS;refine⟨.inr (fun _=>V4),ih (listed.setIfInBounds j true) a' w' Fq (ready_mono hr (Ne.symm CT)) (Y9.set hj) h3y V4 ?_⟩;rw[Array.setIfInBounds_comm _ _ CT];exact h3w
theorem vw {ops:Array Oper} {Q:Exit→Act→World→Prop} {S:World→Prop} {z:List Nat} {i:Nat} {oi:Oper} {v:Value} (hi:ops[i]? =some oi) (KQ:∀(j:Nat) (o:Oper) cs b,ops[j]? =some o→o.op≠.select cs b)
 (hQ:∀c a w,Q (.panic c) (a.put oi.dst v) w→Q (.panic c) a w):
 ∀(fuel:Nat) (listed:Array Bool) (a:Act) (w:World),
  (∀j oj,ops[j]? =some oj→j≠i→listed.getD j true=false→(∀e∈oj.after,Region.binds .any e=true→e.on≠i)→oi.apart ops oj=true)→
  i∈Region.ready .any ops listed→kQ ops listed→YieldsIf P ops (fun _=>True) oi v a→
  ob P ops Q S z fuel (listed.setIfInBounds i true) (a.put oi.dst v) w→ob P ops Q S z (fuel+1) listed a w:=by
 intro fuel
 induction fuel with
 |zero=>
  intro listed a w _ hr _ hy H;refine⟨fun h=>(by rw[h] at hr;cases hr),fun j hj=>?_⟩;by_cases CT:j=i
  ·subst CT;exact hy.wpOp hi trivial ⟨.inr id,H⟩
  ·have:=ready_mono hj CT;rw[H.1] at this;cases this
 |succ fuel ih=>
  intro listed a w oX hr Y9 hy H;refine⟨fun h=>(by rw[h] at hr;cases hr),fun j hj=>?_⟩;by_cases CT:j=i
  ·subst CT;exact hy.wpOp hi trivial ⟨.inr id,H⟩
  ·have h1:=H.2 j (ready_mono hj CT);obtain⟨KR,oj,I6,bu⟩:=mem_ready.1 hj
   have wY:∀e∈oj.after,Region.binds .any e=true→e.on≠i:=fun e he hb heq=>by
    have h1:=bu e he hb;have h0:=(mem_ready.1 hr).1;rw[heq] at h1;rcases Nat.lt_or_ge i listed.size with h'|h'
    ·simp[h'] at h0 h1;rw[h0] at h1;cases h1
    ·simp[Array.getElem?_eq_none h'] at h1
   have h2:=wpOp_putIf I6 (oX j oj I6 CT KR wY) (fun cs b=>KQ i oi cs b hi) (fun cs b=>KQ j oj cs b I6) hQ hy h1
   have Fq:∀k ok,ops[k]? =some ok→k≠i→(listed.setIfInBounds j true).getD k true=false→
    (∀e∈ok.after,Region.binds .any e=true→e.on≠i)→oi.apart ops ok=true:=fun k ok hk hki V3 zc=>by
    refine oX k ok hk hki ?_ zc;by_cases I7:j=k
    ·subst I7;exact KR
    ·rw[getD_set_ne true I7] at V3;exact V3
   refine wpOp_mono (fun a' w' h3=>?_) h2;obtain⟨h3y,h3s,h3w⟩:=h3;refine⟨h3s,ih (listed.setIfInBounds j true) a' w' Fq (ready_mono hr (Ne.symm CT)) (Y9.set hj) h3y ?_⟩;rw[Array.setIfInBounds_comm _ _ CT];exact h3w
inductive Kd where
 |wr|rd|pu
def eh (ops:Array Oper) (z:List Nat):List (Nat×Kd)→Nat→Array Bool→Bool
 |[],_,listed=>(Region.ready .any ops listed).isEmpty
 |_::_,0,_=>false
 |(i,.pu)::pl,fuel+1,listed=>Region.free .any ops listed i&&(Region.ready .any ops listed).contains i&&eh ops z pl fuel (listed.setIfInBounds i true)
 |(i,.rd)::pl,fuel+1,listed=>Region.free .any ops listed i&&(Region.ready .any ops listed).contains i&&wX ops z i&&eh ops z pl fuel (listed.setIfInBounds i true)
 |(i,.wr)::pl,fuel+1,listed=>(Region.ready .any ops listed==[i])&&eh ops z pl fuel (listed.setIfInBounds i true)
def late (z:List Nat) (pl:List (Nat×Kd)):Bool:=pl.all fun p=>match p.2 with
 |.wr=>z.contains p.1
 |.rd=>false
 |.pu=>true
structure XP (P:Program) (N:Nat) (ops:Array Oper) (S:Heap→Prop) (z:List Nat) (pl:List (Nat×Kd)) (ρ:Env) (h:Heap) (K:lP):Prop where
 out:∀(fuel:Nat) (listed:Array Bool) (w0:World) (a:Act) (w:World),eh ops z pl fuel listed=true→Region.noSelect ops=true→kQ ops listed→gC w0 w→w.heap=h→e9 N a ρ→(late z pl=true∨S h)→ob P ops (ph w0 a.defers N K) (fun w=>S w.heap) z fuel listed a w
theorem XP.nil {ops:Array Oper} {S:Heap→Prop} {z:List Nat} (hk:K .normal ρ h):XP P N ops S z [] ρ h K:=by
 refine⟨fun fuel listed w0 a w hv hs fG rn hh he hS=>?_⟩;simp only[eh,List.isEmpty_iff] at hv;have hq:ph w0 a.defers N K .normal a w:=⟨rfl,rn,ρ,.of he,hh▸hk⟩
 cases fuel with
 |zero=>exact⟨hv,hq⟩
 |succ n=>exact⟨fun _=>hq,by rw[hv];intro i hi;cases hi⟩
theorem G2 {ops:Array Oper} {a:Act} (he:e9 N a ρ) {j t:Nat} (hj:(ops[j]?).bind (·.dst)=some t):(∀b,ρ t=.bool b→yielded ops a.tmps j=some b)∧(ρ t=undef→yielded ops a.tmps j=none):=by
 have:=he.get t;unfold yielded;rw[hj];refine⟨fun b hb=>?_,fun hb=>?_⟩
 ·rw[hb] at this
  cases hq:a.tmps[t]? with
  |none=>simp[hq,undef] at this
  |some u=>simp[hq] at this;subst this;simp[hq]
 ·rw[hb] at this
  cases hq:a.tmps[t]? with
  |none=>simp[hq]
  |some u=>simp[hq] at this;subst this;simp[hq,undef]
inductive Gd (ops:Array Oper) (ρ:Env):Option (Nat×Bool)→Bool→Prop where
 |free:Gd ops ρ none true
 |is {j t:Nat} {b c:Bool} (hj:(ops[j]?).bind (·.dst)=some t) (hb:ρ t=.bool c):Gd ops ρ (some (j,b)) (c==b)
 |un {j t:Nat} {b:Bool} (hj:(ops[j]?).bind (·.dst)=some t) (hb:ρ t=undef):Gd ops ρ (some (j,b)) false
theorem Gd.Oj {ops:Array Oper} {p:Prop} {inst:Decidable p} {j t:Nat} {b c r:Bool} (hj:(ops[j]?).bind (·.dst)=some t) (hb:ρ t=.bool (decide p)) (hp:decide p=c) (hr:(c==b)=r):Gd ops ρ (some (j,b)) r:=hr▸.is hj (hp▸hb)
theorem Gd.wanted {ops:Array Oper} {a:Act} (he:e9 N a ρ) {d:Option Tmp} {op:Op} {ty:TypeId} {pos:String} {af:Array Edge} {g:Option (Nat×Bool)} {r:Bool} (hg:Gd ops ρ g r):Region.wanted ⟨d,op,ty,pos,af,g⟩ (yielded ops a.tmps)=r:=by
 cases hg with
 |free=>rfl
 |is hj hb=>simp[Region.wanted,(G2 he hj).1 _ hb]
 |un hj hb=>simp[Region.wanted,(G2 he hj).2 hb]
theorem XP.V5 {ops:Array Oper} {S:Heap→Prop} {z:List Nat} {i d:Nat} {pl:List (Nat×Kd)} {op:Op} {ty:TypeId} {pos:String} {af:Array Edge} {g:Option (Nat×Bool)} {v:Value} (hi:ops[i]? =some ⟨some d,op,ty,pos,af,g⟩) (hd:Nat.blt d N=true)
 (hy:∀a,e9 N a ρ→YieldsIf P ops (fun w=>S w.heap) ⟨some d,op,ty,pos,af,g⟩ v a) (k:XP P N ops S z pl (dO ρ d v) h K):XP P N ops S z ((i,.rd)::pl) ρ h K:=by
 refine⟨fun fuel listed w0 a w hv hs fG rn hh he hS=>?_⟩;have KS:S h:=hS.resolve_left (by simp[late])
 cases fuel with
 |zero=>simp[eh] at hv
 |succ fuel=>
  simp only[eh,Bool.and_eq_true] at hv;have hk:=k.out fuel _ w0 (a.put (some d) v) w hv.2 hs (fG.set (by simpa using hv.1.1.2)) rn hh (he.put hd v) (.inr KS);exact sL hi (Region.noSelect_spec hs) (fun c a' w' hq=>hq) hv.1.2 fuel listed a w (Region.free_spec hi hv.1.1.1) (by simpa using hv.1.1.2) fG (hy a he) (by show S w.heap;rw[hh];exact KS) hk
theorem XP.rd {ops:Array Oper} {S:Heap→Prop} {z:List Nat} {i d:Nat} {pl:List (Nat×Kd)} {op:Op} {ty:TypeId} {pos:String} {af:Array Edge} {g:Option (Nat×Bool)} {v:Value} (hi:ops[i]? =some ⟨some d,op,ty,pos,af,g⟩) (hd:Nat.blt d N=true) (hg:Gd ops ρ g true) (hr:Rd P ρ S op ty v) (k:XP P N ops S z pl (dO ρ d v) h K):XP P N ops S z ((i,.rd)::pl) ρ h K:=
 XP.V5 hi hd (fun a he=>.inl ⟨hg.wanted he,fun w' OS=>by rw[he.eval];exact hr.out _ _ _ _ w' OS⟩) k
theorem XP.pu {ops:Array Oper} {S:Heap→Prop} {z:List Nat} {i d:Nat} {pl:List (Nat×Kd)} {op:Op} {ty:TypeId} {pos:String} {af:Array Edge} {g:Option (Nat×Bool)} {v:Value} (hi:ops[i]? =some ⟨some d,op,ty,pos,af,g⟩) (hd:Nat.blt d N=true)
 (hy:∀a,e9 N a ρ→YieldsIf P ops (fun _=>True) ⟨some d,op,ty,pos,af,g⟩ v a) (k:XP P N ops S z pl (dO ρ d v) h K):XP P N ops S z ((i,.pu)::pl) ρ h K:=by
 refine⟨fun fuel listed w0 a w hv hs fG rn hh he hS=>?_⟩
 cases fuel with
 |zero=>simp[eh] at hv
 |succ fuel=>
  simp only[eh,Bool.and_eq_true] at hv;have hk:=k.out fuel _ w0 (a.put (some d) v) w hv.2 hs (fG.set (by simpa using hv.1.2)) rn hh (he.put hd v) (hS.imp (fun hl=>by simpa[late] using hl) id);exact vw hi (Region.noSelect_spec hs) (fun c a' w' hq=>hq) fuel listed a w (Region.free_spec hi hv.1.1) (by simpa using hv.1.2) fG (hy a he) hk
theorem XP.puR {ops:Array Oper} {S:Heap→Prop} {z:List Nat} {i d:Nat} {pl:List (Nat×Kd)} {op:Op} {ty:TypeId} {pos:String} {af:Array Edge} {g:Option (Nat×Bool)} {v:Value} (hi:ops[i]? =some ⟨some d,op,ty,pos,af,g⟩) (hd:Nat.blt d N=true) (hg:Gd ops ρ g true) (hr:Rd P ρ (fun _=>True) op ty v) (k:XP P N ops S z pl (dO ρ d v) h K):XP P N ops S z ((i,.pu)::pl) ρ h K:=
 XP.pu hi hd (fun a he=>.inl ⟨hg.wanted he,fun w' _=>by rw[he.eval];exact hr.out _ _ _ _ w' trivial⟩) k
theorem XP.wZ {ops:Array Oper} {S:Heap→Prop} {z:List Nat} {i d:Nat} {pl:List (Nat×Kd)} {op:Op} {ty:TypeId} {pos:String} {af:Array Edge} {g:Option (Nat×Bool)} (hi:ops[i]? =some ⟨some d,op,ty,pos,af,g⟩) (hd:Nat.blt d N=true) (hg:Gd ops ρ g false) (k:XP P N ops S z pl (dO ρ d undef) h K):XP P N ops S z ((i,.pu)::pl) ρ h K:=
 XP.pu hi hd (fun a he=>.inr ⟨hg.wanted he,rfl⟩) k
theorem XP.off {ops:Array Oper} {S:Heap→Prop} {z:List Nat} {i d:Nat} {pl:List (Nat×Kd)} {op:Op} {ty:TypeId} {pos:String} {af:Array Edge} {g:Option (Nat×Bool)} (hi:ops[i]? =some ⟨some d,op,ty,pos,af,g⟩) (hd:Nat.blt d N=true) (hg:Gd ops ρ g false) (k:XP P N ops S z pl (dO ρ d undef) h K):XP P N ops S z ((i,.rd)::pl) ρ h K:=
 XP.V5 hi hd (fun a he=>.inr ⟨hg.wanted he,rfl⟩) k
theorem XP.wrG {ops:Array Oper} {S:Heap→Prop} {z:List Nat} {i:Nat} {d:Option Nat} {pl:List (Nat×Kd)} {op:Op} {ty:TypeId} {pos:String} {af:Array Edge} {g:Option (Nat×Bool)} {R:Value→Heap→Prop} {pk:List PanicEntry→Heap→Prop}
 (hi:ops[i]? =some ⟨d,op,ty,pos,af,g⟩) (hd:gu N d=true) (hg:Gd ops ρ g true) (hr:Wr P ρ h op ty R pk) (k:∀v h',R v h'→((z.contains i=true∧late z pl=true)∨S h')∧XP P N ops S z pl (jz ρ d v) h' K) (kp:∀c h',pk c h'→K (.panic c) ρ h'):XP P N ops S z ((i,.wr)::pl) ρ h K:=by
 refine⟨fun fuel listed w0 a w hv hs fG rn hh he hS=>?_⟩
 cases fuel with
 |zero=>simp[eh] at hv
 |succ fuel=>
  simp only[eh,Bool.and_eq_true] at hv;(have oY:Region.ready .any ops listed=[i]:=by simpa using hv.1);refine⟨fun h0=>(by rw[oY] at h0;cases h0),fun j hj=>?_⟩;rw[oY,List.mem_singleton] at hj;subst hj;unfold wpOp;simp only[hi,hg.wanted he,if_true];refine .inl (hr.out d pos af g a w _ _ he.eval hh (fun v w' h2 h3=>?_) (fun c w' h2 h3=>⟨rfl,rn.trans h2,ρ,trivial,kp c _ h3⟩));obtain⟨KS,hk⟩:=k v _ h3;have:=hk.out fuel _ w0 (a.put d v) w' hv.2 hs (fG.set (by rw[oY];simp)) (rn.trans h2) rfl (he.KL hd v) (KS.imp (·.2) id);rw[put_defers] at this;exact⟨KS.imp (·.1) (fun h _=>h),this⟩
theorem XP.wr {ops:Array Oper} {S:Heap→Prop} {z:List Nat} {i:Nat} {d:Option Nat} {pl:List (Nat×Kd)} {op:Op} {ty:TypeId} {pos:String} {af:Array Edge} {g:Option (Nat×Bool)} {R:Value→Heap→Prop} {pk:List PanicEntry→Heap→Prop}
 (hi:ops[i]? =some ⟨d,op,ty,pos,af,g⟩) (hd:gu N d=true) (hg:Gd ops ρ g true) (hr:Wr P ρ h op ty R pk) (k:∀v h',R v h'→S h'∧XP P N ops S z pl (jz ρ d v) h' K) (kp:∀c h',pk c h'→K (.panic c) ρ h'):XP P N ops S z ((i,.wr)::pl) ρ h K:=
 XP.wrG hi hd hg hr (fun v h' hR=>⟨.inr (k v h' hR).1,(k v h' hR).2⟩) kp
theorem XP.KT {ops:Array Oper} {S:Heap→Prop} {z:List Nat} {i:Nat} {d:Option Nat} {pl:List (Nat×Kd)} {op:Op} {ty:TypeId} {pos:String} {af:Array Edge} {g:Option (Nat×Bool)}
 (hi:ops[i]? =some ⟨d,op,ty,pos,af,g⟩) (hd:gu N d=true) (hg:Gd ops ρ g false) (k:XP P N ops S z pl (jz ρ d undef) h K):XP P N ops S z ((i,.wr)::pl) ρ h K:=by
 refine⟨fun fuel listed w0 a w hv hs fG rn hh he hS=>?_⟩
 cases fuel with
 |zero=>simp[eh] at hv
 |succ fuel=>
  simp only[eh,Bool.and_eq_true] at hv;(have oY:Region.ready .any ops listed=[i]:=by simpa using hv.1);refine⟨fun h0=>(by rw[oY] at h0;cases h0),fun j hj=>?_⟩;rw[oY,List.mem_singleton] at hj;subst hj;unfold wpOp;simp only[hi,hg.wanted he];have:=k.out fuel _ w0 (a.put d undef) w hv.2 hs (fG.set (by rw[oY];simp)) rn hh (he.KL hd _) (hS.imp (fun hl=>by simp only[late,List.all_cons,Bool.and_eq_true] at hl⊢;exact hl.2) id);rw[put_defers] at this;exact⟨hS.imp (fun hl=>by simp only[late,List.all_cons,Bool.and_eq_true] at hl;exact hl.1) (fun _ h=>h),this⟩
theorem draw {id:Nat} {ops:Array Oper} (hm:P.follows .mixedOrders=true) (S:Heap→Prop) (z:List Nat) (pl:List (Nat×Kd)) (hv:(eh ops z pl ops.size (Array.replicate ops.size false)&&Region.noSelect ops)=true) (hS:S h) (hx:XP P N ops S z pl ρ h K):X P N (.region id ops true) ρ h K:=by
 refine⟨fun w0 a w hs hh he=>?_⟩;simp only[Bool.and_eq_true] at hv;refine wp_region_any hm (rJ (S:=fun w=>S w.heap) (z:=z) _ _ _ _ ?_);exact hx.out ops.size _ w0 a _ hv.1 hv.2 (fun j oj _ hl=>by simp[Array.getElem?_replicate] at hl;split at hl<;>simp at hl) (hs.trans ⟨rfl,rfl,rfl⟩) hh he (.inr hS)
structure zd (h:Heap) (e:TypeId) (size:Nat) (v:Value) (n:Nat) (xs:List Value) (F:Nat→Prop):Prop where
 len:xs.length=n*size
 alt:((v=.slice none 0 0∧n=0)∨
  ∃g cap cur,v=.slice (some ⟨g,0,none⟩) n cap∧F g∧CO h g cur e∧n≤cap∧cap≤maxLen∧cap*size≤cur.length∧cur.take (n*size)=xs)
theorem zd.nil (h:Heap) (e:TypeId) (size:Nat) (F:Nat→Prop):zd h e size (.slice none 0 0) 0 [] F:=⟨by simp,.inl ⟨rfl,rfl⟩⟩
structure Fs (h h':Heap) (row:Option Nat):Prop where
 size:h.size≤h'.size
 get:∀k,k<h.size→some k≠row→h'[k]? =h[k]?
theorem Wr.append {T e:TypeId} {x y:Operand} {ty:TypeId} {r re:Ty} {v:Value} {n m c g o:Nat} {xs news:List Value} {F:Nat→Prop} (hT:aX P T=some r) (hk:r.k=.slice e) (hE:aX P e=some re) (hz:re.zero.length=re.size)
 (CU:zd h e re.size v n xs F) (hs:ev ρ x=v) (bG:Row h g o news) (hy:ev ρ y=.slice (some ⟨g,o,none⟩) m c) (hl:news.length=m*re.size) (h1:dT news) (hm:0<m) (ze:n+m≤maxLen) (hb:(n+m)*re.bytes≤140737488355328):
 Wr P ρ h (.call {callee:=.builtin .append,args:=#[x,y],argTypes:=#[T,T]}) ty (fun v' h'=>zd h' e re.size v' (n+m) (xs++news) (fun k=>F k∨h.size≤k)∧Fs h h' v.ownBlock∧(v'.ownBlock=v.ownBlock∨∃k,v'.ownBlock=some k∧h.size≤k)) qY:=by
 (refine Wr.run fun d pos af gd w hw=>?_);obtain⟨dd,i,z,e1,e2,-⟩:=aF hT;obtain⟨wW,i',z',sA,rI,mH,oa,Fo,Bh,E4⟩:=aF hE;rw[hk] at e2;(cases dd<;>simp[kindOf] at e2);rw[e2] at e1;clear e2;(have eL:∀j u,news[j]? =some u→w.cell? ((⟨g,o,none⟩:Addr).add j)=some u:=fun j u hu=>by rw[addr_add];exact(bG.Sk hu).cell hw);(have za:z'.cells.size=re.size:=by rw[←Array.length_toList,E4,hz]);(have Ss:n+m≤9223372036854775807:=by simp only[maxLen] at ze;omega);have hlen:(xs++news).length=(n+m)*re.size:=by rw[bq,CU.len,hl,Nat.add_mul]
 have grown:∀(w8:Nat),w8<n+m→∀(row:Option Nat),
  zd (w.drew.alloc (.cells (xs.toArray++news.toArray++Builtin.zeroCells z'.cells (grownCap w (n+m) w8 e-(n+m))) e)).heap e re.size
   (.slice (some ⟨w.heap.size,0,none⟩) (n+m) (grownCap w (n+m) w8 e)) (n+m) (xs++news) (fun k=>F k∨h.size≤k)∧
  Fs h (w.drew.alloc (.cells (xs.toArray++news.toArray++Builtin.zeroCells z'.cells (grownCap w (n+m) w8 e-(n+m))) e)).heap row:=by
  intro w8 ho row;have Fj:=grownCap_ge w (n+m) w8 e;have vy:grownCap w (n+m) w8 e≤maxLen:=grownCap_le_maxLen w (n+m) w8 e ze;refine⟨⟨hlen,.inr ⟨w.heap.size,_,(xs.toArray++news.toArray++Builtin.zeroCells z'.cells (grownCap w (n+m) w8 e-(n+m))).toList,rfl,.inr (by rw[←hw];exact bX _),?_,Fj,vy,?_,?_⟩⟩,⟨by rw[←hw];simp[World.alloc],fun k hk _=>by rw[←hw] at hk⊢;exact lg hk⟩⟩
  ·exact⟨by rw[Array.toArray_toList];exact lh rfl⟩
  ·simp only[Array.length_toList,Array.size_append,List.size_toArray,size_zeroCells,za,CU.len,hl,←Nat.add_mul];apply Nat.mul_le_mul_right;omega
  ·simp only[Array.toList_append,List.append_assoc];rw[←List.append_assoc,←hlen];exact List.take_left
 have rq:∀v' w',(Builtin.append_ #[T,T] ty #[v,.slice (some ⟨g,o,none⟩) m c]).run P w=.ok v' w'→(execOp (ev ρ) ⟨d,.call {callee:=.builtin .append,args:=#[x,y],argTypes:=#[T,T]},ty,pos,af,gd⟩).run P w=.ok (.value v') w':=fun v' w' hr=>by
  simp only[execOp,resolve,invoke,builtin,Sem.run_bind,Sem.run_pure,Result.andThen_ok,List.map_toArray,List.map_cons,List.map_nil,hs,hy,hr]
 (have ux:news.length=m*i'.size:=by rw[oa];exact hl);rcases CU.alt with ⟨rfl,rfl⟩|⟨gg,cap,cur,rfl,hF,hg,CV,vy,Cv,CW⟩
 ·have hx:xs=[]:=List.eq_nil_of_length_eq_zero (by simpa using CU.len);subst hx;have hr:=run_append_nil (P:=P) w T ty e i' z' e1 mH Bh ⟨g,o,none⟩ m c news ux eL (by omega) (by omega) (by rw[Fo];have:=hb;simp only[Nat.zero_add] at this;omega);have I8:=grown 0 (by omega) (Value.ownBlock (.slice none 0 0));simp only[Nat.zero_add,List.nil_append,Array.empty_append] at I8⊢;exact⟨_,_,rq _ _ hr,⟨rfl,rfl,rfl⟩,I8.1,I8.2,.inr ⟨_,rfl,by rw[←hw];exact bX _⟩⟩
 ·(have OT:w.heap[gg]? =some (.cells cur.toArray e (0,0)):=by rw[hw];exact hg.get);by_cases sM:n+m≤cap
  ·have gf:n*i'.size+news.length≤cur.toArray.size:=by
    have hq:(n+m)*re.size≤cap*re.size:=Nat.mul_le_mul_right _ sM;rw[hl,oa,←Nat.add_mul];simp;omega
   have hr:=run_append_room (P:=P) w T ty e i' e1 mH gg n cap cur.toArray OT ⟨g,o,none⟩ m c news ux eL h1 sM gf;refine⟨_,_,rq _ _ hr,⟨rfl,rfl,rfl⟩,⟨hlen,.inr ⟨gg,cap,cur.take (n*i'.size)++news++cur.drop (n*i'.size+news.length),rfl,.inl hF,?_,sM,vy,?_,?_⟩⟩,⟨by rw[←hw];simp,fun k _ hk=>?_⟩,.inl rfl⟩
   ·exact⟨setRow_heap w gg cur.toArray _ e _ OT⟩
   ·simp at gf;simp only[bq,List.length_take,List.length_drop];omega
   ·rw[oa] at*;rw[CW,←hlen];exact List.take_left
   ·rw[←hw];exact setRow_other w gg k _ (fun e=>hk (by simp[Value.ownBlock,e]))
  ·have holds:∀j u,xs[j]? =some u→w.cell? ((⟨gg,0,none⟩:Addr).add j)=some u:=fun j u hu=>by
    rw[addr_add];rw[←CW] at hu
    have hc:cur[j]? =some u:=by
     rw[List.getElem?_take] at hu;split at hu
     ·exact hu
     ·cases hu
    simp[World.cell?,OT,hc]
   have hr:=run_append_grow (P:=P) w T ty e i' z' e1 mH Bh ⟨gg,0,none⟩ n cap xs (by rw[oa];exact CU.len) holds ⟨g,o,none⟩ m c news ux eL (by omega) (by omega) (growslice_fits (by omega) (by rw[Fo];exact hb));have I8:=grown cap (by omega) (Value.ownBlock (.slice (some ⟨gg,0,none⟩) n cap));exact⟨_,_,rq _ _ hr,⟨rfl,rfl,rfl⟩,I8.1,I8.2,.inr ⟨_,rfl,by rw[←hw];exact bX _⟩⟩
theorem KU (l:List Value):∀(k o:Nat) (acc:Array Value),o+k+l.length≤acc.size→((l.zipIdx k).foldl (fun(a:Array Value) (p:Value×Nat)=>a.setIfInBounds (o+p.2) p.1) acc).toList=acc.toList.take (o+k)++l++acc.toList.drop (o+k+l.length):=by
 induction l with
 |nil=>intro k o acc hk;simp
 |cons c cs ih=>
  intro k o acc hk;simp only[bF] at hk;simp only[List.zipIdx_cons,List.foldl_cons];rw[ih (k+1) o _ (by simp;omega)];simp only[Array.toList_setIfInBounds,bF];have:=list_seg_step acc.toList (o+k) c cs (by simp;omega);simpa[Nat.add_assoc,Nat.add_comm 1] using this
def yY (place:Nat→Option (Nat×Nat)):List (Nat×Value)→List Value→Option (List Value)
 |[],z=>some z
 |(i,v)::ps,z=>match place i with
  |some (off,sz)=>if v.cells.size=sz∧off+sz≤z.length then yY place ps (aQ z off v.cells.toList) else none
  |none=>none
theorem sN (place:Nat→Option (Nat×Nat)):∀(ps:List (Nat×Value)) (z cs:List Value),yY place ps z=some cs→Instr.fill place z.toArray ps=some cs.toArray
 |[],z,cs,hb=>by simp only[yY,Option.some.injEq] at hb;subst hb;rfl
 |(i,v)::ps,z,cs,hb=>by
  simp only[yY] at hb;simp only[Instr.fill]
  cases hp:place i with
  |none=>rw[hp] at hb;cases hb
  |some q=>
   obtain⟨off,sz⟩:=q;rw[hp] at hb;simp only at hb⊢;split at hb
   ·rename_i hc;rw[ag (by simp;omega)]
    have e:Array.foldl (fun(cs:Array Value) (p:Value×Nat)=>cs.setIfInBounds (off+p.2) p.1) z.toArray v.cells.zipIdx=(aQ z off v.cells.toList).toArray:=by
     apply Array.ext';rw[←Array.foldl_toList];have:=KU v.cells.toList 0 off z.toArray (by simp;omega);simp only[Nat.add_zero,Array.toList_zipIdx] at this⊢;rw[this];rfl
    have ih:=sN place ps _ cs hb;rw[←e] at ih;exact ih
   ·cases hb
def places (tb:Nat→Option Ty) (fs:List (TypeId×Nat)):Option (List (Nat×Nat)):=fs.mapM fun p=>(tb p.1).map fun r=>(p.2,r.size)
theorem run_places {tb:Nat→Option Ty} (Cw:∀T r,tb T=some r→aX P T=some r) (w:World):∀(fs:List Field) (pl:List (Nat×Nat)),places tb (fs.map fun f=>(f.type,f.offset))=some pl→
 ((fs.mapM fun f=>do pure (f.offset,←sizeOf f.type):Sem (List (Nat×Nat)))).run P w=.ok pl w:=by
 intro fs
 induction fs with
 |nil=>intro pl hp;simp[places] at hp;subst hp;rfl
 |cons f fs ih=>
  intro pl hp;simp only[places,List.map_cons,List.mapM_cons,Option.bind_eq_bind,Option.pure_def,Option.bind_eq_some_iff,Option.some.injEq,Option.map_eq_some_iff] at hp;obtain⟨q,⟨r,hr,rfl⟩,pl',zf,rfl⟩:=hp;obtain⟨dd,i,z,e1,e2,e3,e4,-⟩:=aF (Cw _ _ hr);have hi:=ih pl' zf;(have gO:(sizeOf f.type).run P w=.ok r.size w:=by simp[sizeOf,typeInfo,e3,e4]);simp only[List.mapM_cons,Sem.run_bind,gO,Result.andThen_ok,Sem.run_pure,hi]
section
variable {S:Heap→Prop} {ty:TypeId}
theorem Rd.build {T:TypeId} {tb:Nat→Option Ty} {parts:List (Nat×Operand)} {ps:List (Nat×Value)} {r:Ty} {fs:List (TypeId×Nat)} {pl:List (Nat×Nat)} {cs:List Value} (Cw:∀T r,tb T=some r→aX P T=some r) (hT:tb T=some r) (hk:r.k=.struct fs) (zf:places tb fs=some pl)
 (hp:(parts.map fun p=>(p.1,ev ρ p.2))=ps) (hb:yY (pl[·]?) ps r.zero=some cs):Rd P ρ S (.build T parts.toArray) ty (.agg cs.toArray):=by
 (refine .pure fun d pos af gd w=>?_);obtain⟨dd,i,z,e1,e2,e3,e4,e5,e6,e7⟩:=aF (Cw _ _ hT);rw[hk] at e2;(cases dd<;>simp[kindOf] at e2);rename_i fields;subst e2;(have hz:z.cells=r.zero.toArray:=by rw[←e7]);have hf:=sN _ ps r.zero cs hb;have Sv:Array.map (fun(i,x)=>(i,ev ρ x)) parts.toArray=ps.toArray:=by rw[←hp];simp
 have hm:((fields.mapM fun f=>do Pure.pure (f.offset,←sizeOf f.type):Sem (Array (Nat×Nat)))).run P w=.ok pl.toArray w:=by
  have:=run_places Cw w fields.toList pl zf;rw[Array.mapM_eq_mapM_toList,Sem.run_map,this];rfl
 simp only[execOp,Instr.build,Sem.run_bind,zeroValue,typeInfo];simp only[Sem.run_bind,run_program,Result.andThen_ok,e3,Sem.run_pure,e6,run_underlying e1,Sv,hz];simp only[Sem.run_bind,hm,Result.andThen_ok];(have aaj:(fun x:Nat=>pl.toArray[x]?)=(fun x:Nat=>pl[x]?):=by funext x;simp);simp[aaj,hf]
theorem Rd.Bj {T:TypeId} {tb:Nat→Option Ty} {parts:List (Nat×Operand)} {ps:List (Nat×Value)} {r re:Ty} {n e:Nat} {cs:List Value} (Cw:∀T r,tb T=some r→aX P T=some r) (hT:tb T=some r) (hk:r.k=.array n e) (hE:tb e=some re)
 (hp:(parts.map fun p=>(p.1,ev ρ p.2))=ps) (hb:yY (fun i=>some (i*re.size,re.size)) ps r.zero=some cs):Rd P ρ S (.build T parts.toArray) ty (.agg cs.toArray):=by
 (refine .pure fun d pos af gd w=>?_);obtain⟨dd,i,z,e1,e2,e3,e4,e5,e6,e7⟩:=aF (Cw _ _ hT);obtain⟨wW,i',z',sA,rI,mH,oa,-⟩:=aF (Cw _ _ hE);rw[hk] at e2;(cases dd<;>simp[kindOf] at e2);have he:=e2.2;(have hz:z.cells=r.zero.toArray:=by rw[←e7]);have hf:=sN _ ps r.zero cs hb;(have Sv:Array.map (fun(i,x)=>(i,ev ρ x)) parts.toArray=ps.toArray:=by rw[←hp];simp);(have gO:∀E,E=e→(sizeOf E).run P w=.ok re.size w:=by rintro _ rfl;simp[sizeOf,typeInfo,mH,oa]);simp only[execOp,Instr.build,Sem.run_bind,zeroValue,typeInfo];simp only[Sem.run_bind,run_program,Result.andThen_ok,e3,Sem.run_pure,e6,run_underlying e1,Sv,hz];rw[gO _ he];simp[hf]
theorem Wr.buildSlice {T e len n:Nat} {tb:Nat→Option Ty} {parts:List (Nat×Operand)} {ps:List (Nat×Value)} {r re:Ty} {cs:List Value} (Cw:∀T r,tb T=some r→aX P T=some r) (hT:tb T=some r) (hk:r.k=.slice e) (hE:tb e=some re) (hn:h.size=n) (hz:re.zero.length=re.size)
 (rn:Nat.ble (len*re.size) 16777216=true) (hp:(parts.map fun p=>(p.1,ev ρ p.2))=ps) (hb:yY (fun i=>some (i*re.size,re.size)) ps ((List.range (len*re.size)).map fun k=>re.zero.getD (k%re.size) undef)=some cs):
 Wr P ρ h (.buildSlice T len parts.toArray) ty (fun v' h'=>v'=.slice (some ⟨n,0,none⟩) len len∧h'=h.push (.cells cs.toArray e (0,0))) qY:=by
 subst hn;(refine Wr.run fun d pos af gd w hw=>?_);obtain⟨dd,i,z,e1,e2,-⟩:=aF (Cw _ _ hT);obtain⟨wW,i',z',sA,rI,mH,oa,Fo,Bh,E4⟩:=aF (Cw _ _ hE);have afu:=Nat.le_of_ble_eq_true rn;rw[hk] at e2;(cases dd<;>simp[kindOf] at e2);rw[e2] at e1;clear e2;(have za:z'.cells.size=re.size:=by rw[←Array.length_toList,E4,hz]);(have Sv:Array.map (fun(i,x)=>(i,ev ρ x)) parts.toArray=ps.toArray:=by rw[←hp];simp);have hf:=sN _ ps _ cs hb
 have hzero:∀zz:Array Value,(zz=z'.cells∨len*re.size=0)→(Array.range (len*re.size)).map (fun k=>zz[k%zz.size]!)=((List.range (len*re.size)).map fun k=>re.zero.getD (k%re.size) undef).toArray:=by
  intro zz hzz;apply Array.ext';rcases hzz with rfl|h0
  ·simp only[Array.toList_map,Array.toList_range,za];apply List.map_congr_left;intro k hk
   have aV:k%re.size<re.size:=Nat.mod_lt _ (by
    rcases Nat.eq_zero_or_pos re.size with h0|h0
    ·rw[h0,Nat.mul_zero] at hk;simp at hk
    ·exact h0)
   rw[←E4];(have sO:k%re.size<z'.cells.size:=by rw[za];exact aV);simp[getElem!_pos,sO,ey]
  ·rw[h0];simp
 refine⟨_,w.alloc (.cells cs.toArray e (0,0)),?_,⟨rfl,rfl,rfl⟩,rfl,by rw[←hw];rfl⟩;simp only[execOp,Instr.buildSlice,Sem.run_bind,run_underlying e1,Result.andThen_ok,Sv,sizeOf,typeInfo,run_program,mH,oa,Sem.run_pure,zeroValue,Bh];rw[ag (by omega)];by_cases h0:len*re.size=0
 ·have V6:=hf;rw[←hzero #[] (.inr h0)] at V6;rw[aq h0];simp only[Sem.run_bind,Sem.run_pure,Result.andThen_ok];rw[V6];simp[newRow,hw]
 ·have V6:=hf;rw[←hzero z'.cells (.inl rfl)] at V6;rw[ag h0];simp only[Sem.run_bind,Sem.run_pure,Result.andThen_ok,run_program,mH,Bh];rw[V6];simp[newRow,hw]
theorem Rd.KV {T:TypeId} {x:Operand} {r re:Ty} {n e g o:Nat} (hT:aX P T=some r) (hk:r.k=.array n e) (hE:aX P e=some re) (hx:ev ρ x=.pointer (some ⟨g,o,none⟩)):Rd P ρ S (.slice T x none none none) ty (.slice (some ⟨g,o,none⟩) n n):=by
 (refine .pure fun d pos af gd w=>?_);obtain⟨dd,i,z,e1,e2,-⟩:=aF hT;obtain⟨wW,i',z',sA,rI,mH,oa,-⟩:=aF hE;rw[hk] at e2;(cases dd<;>simp[kindOf] at e2);obtain⟨rfl,rfl⟩:=e2;simp[execOp,Instr.sliceAt,run_underlying e1,hx,Instr.sureAddr,Instr.sliceBounds,sizeOf,typeInfo,mH,addr_add]
theorem Rd.qx {T:TypeId} {x:Operand} {lo hi mx:Option Operand} {r re:Ty} {e len cap l hh m:Nat} {a:Option Addr} (hT:aX P T=some r) (hk:r.k=.slice e) (hE:aX P e=some re) (hx:ev ρ x=.slice a len cap)
 (hb:∀w,(Instr.sliceBounds true len cap (lo.map (ev ρ)) (hi.map (ev ρ)) (mx.map (ev ρ))).run P w=.ok (l,hh,m) w):Rd P ρ S (.slice T x lo hi mx) ty (.slice (if m=l then a else a.map (·.add (l*re.size))) (hh-l) (m-l)):=by
 (refine .pure fun d pos af gd w=>?_);obtain⟨dd,i,z,e1,e2,-⟩:=aF hT;obtain⟨wW,i',z',sA,rI,mH,oa,-⟩:=aF hE;rw[hk] at e2;(cases dd<;>simp[kindOf] at e2);rw[e2] at e1;(have hs:(sizeOf e).run P w=.ok re.size w:=by simp[sizeOf,typeInfo,mH,oa]);simp only[execOp,Instr.sliceAt,Sem.run_bind,run_underlying e1,Result.andThen_ok,hx,Instr.slice,hb w,hs,Sem.run_pure]
theorem sP {y:Nat} {c:BoundsCode} {kk:IntKind} {i:Int} (h0:0≤i) (h1:i≤y) (w:World):(Instr.sliceBound (.int kk i) y c).run P w=.ok i.toNat w:=by
 simp[Instr.sliceBound,asIntOf,h0,h1]
theorem Rd.sliceFrom {T:TypeId} {x y:Operand} {r re:Ty} {e len cap g o:Nat} {i:Int} {kk:IntKind} (hT:aX P T=some r) (hk:r.k=.slice e) (hE:aX P e=some re) (hx:ev ρ x=.slice (some ⟨g,o,none⟩) len cap) (hy:ev ρ y=.int kk i) (hi:0≤i∧i≤len) (hc:i.toNat<cap):Rd P ρ S (.slice T x (some y) none none) ty (.slice (some ⟨g,o+i.toNat*re.size,none⟩) (len-i.toNat) (cap-i.toNat)):=by
 have h:=Rd.qx (P:=P) (ρ:=ρ) (S:=S) (ty:=ty) (lo:=some y) (hi:=none) (mx:=none) (l:=i.toNat) (hh:=len) (m:=cap) hT hk hE hx (fun w=>by simp[Instr.sliceBounds,hy,sP hi.1 hi.2]);rw[ag (by omega)] at h;simpa[addr_add] using h
theorem Rd.sliceTo {T:TypeId} {x y:Operand} {r re:Ty} {e len cap:Nat} {a:Option Addr} {i:Int} {kk:IntKind} (hT:aX P T=some r) (hk:r.k=.slice e) (hE:aX P e=some re) (hx:ev ρ x=.slice a len cap) (hy:ev ρ y=.int kk i) (hi:0≤i∧i≤cap):Rd P ρ S (.slice T x none (some y) none) ty (.slice a i.toNat cap):=by
 have h:=Rd.qx (P:=P) (ρ:=ρ) (S:=S) (ty:=ty) (lo:=none) (hi:=some y) (mx:=none) (l:=0) (hh:=i.toNat) (m:=cap) hT hk hE hx (fun w=>by simp[Instr.sliceBounds,hy,sP hi.1 hi.2]);(have e1:(if cap=0 then a else a.map fun x=>x.add (0*re.size))=a:=by split<;>simp[Addr.add]);rw[e1] at h;simpa using h
theorem wb {T:TypeId} {r:Ty} {e:TypeId} {a:Option Addr} {n c:Nat} (hT:aX P T=some r) (hk:r.k=.slice e) (w:World):(Op.equal T (.slice a n c) (.slice none 0 0)).run P w=.ok a.isNone w:=by
 obtain⟨dd,i,z,e1,e2,-⟩:=aF hT;rw[hk] at e2;(cases dd<;>simp[kindOf] at e2);show (Op.equalIn (9999+1) T _ _).run P w=_;rw[Op.equalIn];simp only[Sem.run_bind,run_underlying e1,Result.andThen_ok];cases a<;>rfl
theorem Rd.uy {T T':TypeId} {x:Operand} {r:Ty} {e:TypeId} {a:Option Addr} {n c:Nat} (hT:aX P T=some r) (hk:r.k=.slice e) (hx:ev ρ x=.slice a n c):Rd P ρ S (.binOp .eql T x (.const (.slice none 0 0)) T') ty (.bool a.isNone):=by
 (refine .pure fun d pos af gd w=>?_);have h1:=wb (P:=P) (T:=T) (a:=a) (n:=n) (c:=c) hT hk w;simp only[execOp,eqGuard,hx,ev,binOp,Sem.run_bind];simp[h1]
end
end
end X
namespace X
open Go
structure St (A:Nat→Prop) (h:Heap) (t:Nat→Nat) (h':Heap) (t':Nat→Nat):Prop where
 size:h.size≤h'.size
 tag:∀k,k<h.size→t' k=t k
 get:∀k,k<h.size→¬A (t k)→h'[k]? =h[k]?
theorem St.trans {A:Nat→Prop} {a b c:Heap} {t t' t'':Nat→Nat} (x:St A a t b t') (y:St A b t' c t''):St A a t c t'':=
 ⟨Nat.le_trans x.size y.size,fun k hk=>(y.tag k (Nat.lt_of_lt_of_le hk x.size)).trans (x.tag k hk),fun k hk hn=>(y.get k (Nat.lt_of_lt_of_le hk x.size) (by rw[x.tag k hk];exact hn)).trans (x.get k hk hn)⟩
theorem Ks.st {A:Nat→Prop} {a b:Heap} {t t':Nat→Nat} (x:St A a t b t') {g o:Nat} {v:Value} (hA:¬A (t g)) (hc:Ks a g o v):Ks b g o v:=by
 have hl:=hc.lt;obtain⟨l,T,fr,h1,h2⟩:=hc;exact⟨l,T,fr,(x.get g hl hA).trans h1,h2⟩
theorem Row.st {A:Nat→Prop} {a b:Heap} {t t':Nat→Nat} (x:St A a t b t') {g o:Nat} {vs:List Value} (hA:¬A (t g)) (hc:Row a g o vs):Row b g o vs:=by
 have hl:=hc.lt;obtain⟨l,T,fr,h1,h2⟩:=hc;exact⟨l,T,fr,(x.get g hl hA).trans h1,h2⟩
theorem CO.st {A:Nat→Prop} {a b:Heap} {t t':Nat→Nat} (x:St A a t b t') {g:Nat} {l:List Value} {T:TypeId} (hA:¬A (t g)) (hc:CO a g l T):CO b g l T:=⟨(x.get g hc.lt hA).trans hc.get⟩
theorem zd.st {A:Nat→Prop} {a b:Heap} {t t':Nat→Nat} (x:St A a t b t') {e:TypeId} {size:Nat} {v:Value} {n:Nat} {xs:List Value} {F F':Nat→Prop} (hA:∀g,F g→¬A (t g)) (hF:∀g,g<a.size→F g→F' g) (hc:zd a e size v n xs F):zd b e size v n xs F':=by
 obtain⟨h1,h2|⟨g,cap,cur,r1,r2,r3,r4⟩⟩:=hc
 ·exact⟨h1,.inl h2⟩
 ·exact⟨h1,.inr ⟨g,cap,cur,r1,hF g r3.lt r2,r3.st x (hA g r2),r4⟩⟩
theorem zd.V7 {a:Heap} {e:TypeId} {size:Nat} {v:Value} {n:Nat} {xs:List Value} {F F':Nat→Prop} (hF:∀g,g<a.size→F g→F' g) (hc:zd a e size v n xs F):zd a e size v n xs F':=by
 obtain⟨h1,h2|⟨g,cap,cur,r1,r2,r3,r4⟩⟩:=hc
 ·exact⟨h1,.inl h2⟩
 ·exact⟨h1,.inr ⟨g,cap,cur,r1,hF g r3.lt r2,r3,r4⟩⟩
theorem zd.shape {a:Heap} {e:TypeId} {size:Nat} {v:Value} {n:Nat} {xs:List Value} {F:Nat→Prop} (hc:zd a e size v n xs F):∃p c,v=.slice p n c:=by
 obtain⟨h1,⟨h2,h3⟩|⟨g,cap,cur,r1,r2⟩⟩:=hc
 ·exact⟨none,0,by rw[h2,h3]⟩
 ·exact⟨_,_,r1⟩
theorem Fs.trans {a b c:Heap} {row:Option Nat} (x:Fs a b row) (y:Fs b c row):Fs a c row:=⟨Nat.le_trans x.size y.size,fun k hk hn=>(y.get k (Nat.lt_of_lt_of_le hk x.size) hn).trans (x.get k hk hn)⟩
theorem Fs.set {a b:Heap} {g:Nat} (x:Fs a b (some g)) (l:List Value) (T:TypeId):Fs a (mW b g l T) (some g):=⟨by rw[I0];exact x.size,fun k hk hn=>by rw[vu (fun e=>hn (by rw[e]))];exact x.get k hk hn⟩
theorem Fs.st {a b:Heap} {g i:Nat} {t:Nat→Nat} (x:Fs a b (some g)) (ht:t g=i):St (· =i) a t b t:=⟨x.size,fun _ _=>rfl,fun k hk hn=>x.get k hk fun e=>hn (by simp at e;subst e;exact ht)⟩
def t0:Nat→Nat:=fun _=>0
theorem Row.sub {h:Heap} {g o:Nat} {vs us:List Value} (hr:Row h g o vs) {j:Nat} (hu:(vs.drop j).take us.length=us):Row h g (o+j) us:=by
 obtain⟨l,T,fr,h1,h2⟩:=hr;refine⟨l,T,fr,h1,?_⟩
 have:us.length≤vs.length-j:=by
  have:=congrArg List.length hu;simp at this;omega
 rw[←h2] at hu;rw[List.drop_take,List.take_take,List.drop_drop] at hu
 rwa [Nat.min_eq_left this] at hu
theorem pC {α:Type} (f:α→List Value) (s:Nat):∀(l:List α),(∀x∈l,(f x).length=s)→∀(k:Nat) (x:α),l[k]? =some x→((l.flatMap f).drop (k*s)).take (f x).length=f x
 |[],_,k,x,hk=>by simp at hk
 |a::l,hl,0,x,hk=>by
  simp at hk;subst hk;simp
 |a::l,hl,k+1,x,hk=>by
  have ih:=pC f s l (fun y hy=>hl y (by simp[hy])) k x (by simpa using hk);have ha:=hl a (by simp);simp only[List.flatMap_cons];rw[Nat.succ_mul,Nat.add_comm,←ha,←List.drop_drop,List.drop_left];rw[ha];exact ih
theorem pD {α:Type} (f:α→List Value) (s:Nat):∀(l:List α),(∀x∈l,(f x).length=s)→(l.flatMap f).length=l.length*s
 |[],_=>by simp
 |a::l,hl=>by simp[pD f s l (fun y hy=>hl y (by simp[hy])),hl a (by simp),Nat.succ_mul];omega
abbrev ints (l:List Int):List Value:=l.map (Value.int .i64)
def wv (l:List Int):Value:=.agg (ints l).toArray
theorem lQ (l:List Int):(wv l).cells=(ints l).toArray:=rfl
theorem j8 (l:List Value):(Value.agg l.toArray).cells=l.toArray:=rfl
theorem ei (l:List Int):dT (ints l):=by intro v hv;simp at hv;obtain⟨n,_,rfl⟩:=hv;rfl
abbrev ptr (b:Nat):Value:=.pointer (some ⟨b,0,none⟩)
abbrev i64 (n:Int):Value:=.int .i64 n
end X
namespace X
open Go
@[reducible] def tP (n:Nat):Ty:=⟨.pointer n,1,8,[.pointer none]⟩
@[reducible] def tS (n:Nat):Ty:=⟨.slice n,1,24,[.slice none 0 0]⟩
@[reducible] def tI (k:IntKind) (b:Nat):Ty:=⟨.int k,1,b,[.int k 0]⟩
@[reducible] def lf (T k:Nat) (t:Ty):Option Ty:=match Nat.beq T k with|true=>some t|false=>none
@[reducible] def nd (T k:Nat) (a b:Option Ty):Option Ty:=match Nat.blt T k with|true=>a|false=>b
@[reducible] def mF:Ty:=⟨.func,1,8,[.nilFunc]⟩
@[reducible] def ty4:Ty:=⟨.bool,1,1,[.bool false]⟩
@[reducible] def ty7:Ty:=⟨.struct [(2,0),(3,1),(4,2),(6,3)],4,24,[.int .i64 0,.int .i64 0,.bool false,.int .u8 0]⟩
@[reducible] def ty9:Ty:=⟨.string,1,16,[.string ByteArray.empty]⟩
@[reducible] def V8:Ty:=⟨.struct [(9,0),(12,1)],2,24,[.string ByteArray.empty,.int .u64 0]⟩
@[reducible] def V9:Ty:=⟨.struct [(17,0)],1,8,[.pointer none]⟩
@[reducible] def Sw:Ty:=⟨.iface,1,16,[.nilIface]⟩
@[reducible] def Wa:Ty:=⟨.struct [(9,0),(22,1),(28,2),(29,3)],4,72,[.string ByteArray.empty,.slice none 0 0,.slice none 0 0,.pointer none]⟩
@[reducible] def OU:Ty:=⟨.struct [(3,0),(3,1)],2,16,[.int .i64 0,.int .i64 0]⟩
@[reducible] def Wb:Ty:=⟨.struct [(43,0),(44,1)],2,32,[.pointer none,.slice none 0 0]⟩
@[reducible] def Wc:Ty:=⟨.struct [(46,0),(22,2),(28,3),(47,4)],5,88,[.pointer none,.slice none 0 0,.slice none 0 0,.slice none 0 0,.pointer none]⟩
@[reducible] def OV:Ty:=⟨.struct [(66,0),(67,1)],2,48,[.slice none 0 0,.slice none 0 0]⟩
@[reducible] def Sx:Ty:=⟨.struct [(3,0),(28,1),(28,2)],3,56,[.int .i64 0,.slice none 0 0,.slice none 0 0]⟩
@[reducible] def aal:Ty:=⟨.struct [(3,0),(3,1),(3,2),(80,3)],4,32,[.int .i64 0,.int .i64 0,.int .i64 0,.int .u64 0]⟩
@[reducible] def Wd:Ty:=⟨.struct [(3,0),(28,1),(3,2),(3,3),(3,4),(28,5)],6,80,[.int .i64 0,.slice none 0 0,.int .i64 0,.int .i64 0,.int .i64 0,.slice none 0 0]⟩
@[reducible] def QV:Ty:=⟨.struct [(100,0),(28,1),(99,2),(99,8),(28,14),(4,15)],16,240,[.slice none 0 0,.slice none 0 0,.int .i64 0,.slice none 0 0,.int .i64 0,.int .i64 0,.int .i64 0,.slice none 0 0,.int .i64 0,.slice none 0 0,.int .i64 0,.int .i64 0,.int .i64 0,.slice none 0 0,.slice none 0 0,.bool false]⟩
@[reducible] def QW:Ty:=⟨.struct [(120,0),(121,1),(122,2),(123,3),(28,4),(3,5)],6,80,[.pointer none,.pointer none,.pointer none,.slice none 0 0,.slice none 0 0,.int .i64 0]⟩
@[reducible] def Wf:Ty:=⟨.struct [(127,0),(3,1),(3,2),(34,3),(66,5)],6,80,[.slice none 0 0,.int .i64 0,.int .i64 0,.int .i64 0,.int .i64 0,.slice none 0 0]⟩
@[reducible] def Wg:Ty:=⟨.struct [(9,0),(3,1)],2,24,[.string ByteArray.empty,.int .i64 0]⟩
@[reducible] def CX:Ty:=⟨.struct [(3,0),(3,1),(2,2),(136,3)],4,48,[.int .i64 0,.int .i64 0,.int .i64 0,.slice none 0 0]⟩
@[reducible] def Wh:Ty:=⟨.struct [(3,0),(3,1),(138,2),(138,6),(67,10),(67,11)],12,160,[.int .i64 0,.int .i64 0,.int .i64 0,.int .i64 0,.int .i64 0,.slice none 0 0,.int .i64 0,.int .i64 0,.int .i64 0,.slice none 0 0,.slice none 0 0,.slice none 0 0]⟩
@[reducible] def KW:Ty:=⟨.struct [(3,0),(3,1),(3,2),(2,3)],4,32,[.int .i64 0,.int .i64 0,.int .i64 0,.int .i64 0]⟩
@[reducible] def Wi:Ty:=⟨.array 24 5,24,24,List.replicate 24 (.int .u8 0)⟩
@[reducible] def Wj:Ty:=⟨.struct [(28,0),(3,1)],2,32,[.slice none 0 0,.int .i64 0]⟩
@[reducible] def Wk:Ty:=⟨.struct [(69,0),(28,2),(28,3),(28,4),(3,5)],6,128,[.slice none 0 0,.slice none 0 0,.slice none 0 0,.slice none 0 0,.slice none 0 0,.int .i64 0]⟩
@[reducible] def Wl:Ty:=⟨.struct [(177,0),(123,1),(28,2),(122,3),(3,4),(4,5)],6,80,[.pointer none,.slice none 0 0,.slice none 0 0,.pointer none,.int .i64 0,.bool false]⟩
@[reducible] def QX:Ty:=⟨.struct [(3,0),(9,1),(4,2),(2,3)],4,40,[.int .i64 0,.string ByteArray.empty,.bool false,.int .i64 0]⟩
@[reducible] def Wm:Ty:=⟨.struct [(69,0),(3,2),(3,3)],4,64,[.slice none 0 0,.slice none 0 0,.int .i64 0,.int .i64 0]⟩
@[reducible] def Wn:Ty:=⟨.struct [(9,0),(9,1),(87,2)],3,48,[.string ByteArray.empty,.string ByteArray.empty,.nilIface]⟩
@[reducible] def Wo:Ty:=⟨.array 20 80,20,160,List.replicate 20 (.int .u64 0)⟩
@[reducible] def Wp:Ty:=⟨.array 65 5,65,65,List.replicate 65 (.int .u8 0)⟩
@[reducible] def Wq:Ty:=⟨.struct [(206,0),(3,1),(66,2)],3,56,[.slice none 0 0,.int .i64 0,.slice none 0 0]⟩
@[reducible] def Ws:Ty:=⟨.struct [(69,0),(123,2)],3,72,[.slice none 0 0,.slice none 0 0,.slice none 0 0]⟩
@[reducible] def KX:Ty:=⟨.array 8 2,8,64,[.int .i64 0,.int .i64 0,.int .i64 0,.int .i64 0,.int .i64 0,.int .i64 0,.int .i64 0,.int .i64 0]⟩
@[reducible] def Wt:Ty:=⟨.array 34 221,272,2176,List.replicate 272 (.int .i64 0)⟩
@[reducible] def KY:Ty:=⟨.struct [(222,0),(223,272)],273,2200,List.replicate 272 (.int .i64 0)++List.replicate 1 (.slice none 0 0)⟩
@[reducible] def Wu:Ty:=⟨.struct [(66,0),(3,1),(3,2)],3,40,[.slice none 0 0,.int .i64 0,.int .i64 0]⟩
@[reducible] def QY:Ty:=⟨.array 14 4,14,14,List.replicate 14 (.bool false)⟩
@[reducible] def Wv:Ty:=⟨.array 14 221,112,896,List.replicate 112 (.int .i64 0)⟩
@[reducible] def QZ:Ty:=⟨.struct [(228,0),(239,1),(239,15),(240,29)],141,936,List.replicate 1 (.pointer none)++List.replicate 28 (.bool false)++List.replicate 112 (.int .i64 0)⟩
@[reducible] def Ww:Ty:=⟨.array 256 5,256,256,List.replicate 256 (.int .u8 0)⟩
@[reducible] def Wx:Ty:=⟨.struct [(5,0),(5,1)],2,2,[.int .u8 0,.int .u8 0]⟩
@[reducible] def Wy:Ty:=⟨.array 16 250,32,32,List.replicate 32 (.int .u8 0)⟩
@[reducible] def Wz:Ty:=⟨.struct [(9,0)],1,16,[.string ByteArray.empty]⟩
@[reducible] def WA:Ty:=⟨.array 2 3,2,16,[.int .i64 0,.int .i64 0]⟩
@[reducible] def WB:Ty:=⟨.array 14 3,14,112,List.replicate 14 (.int .i64 0)⟩
@[reducible] def Q0:Ty:=⟨.struct [(2,0),(260,1),(261,3)],17,136,List.replicate 17 (.int .i64 0)⟩
@[reducible] def WC:Ty:=⟨.struct [(121,0),(263,1)],18,144,[.pointer none,.int .i64 0,.int .i64 0,.int .i64 0,.int .i64 0,.int .i64 0,.int .i64 0,.int .i64 0,.int .i64 0,.int .i64 0,.int .i64 0,.int .i64 0,.int .i64 0,.int .i64 0,.int .i64 0,.int .i64 0,.int .i64 0,.int .i64 0]⟩
@[reducible] def Q5:Ty:=⟨.struct [(3,0),(221,1)],9,72,[.int .i64 0,.int .i64 0,.int .i64 0,.int .i64 0,.int .i64 0,.int .i64 0,.int .i64 0,.int .i64 0,.int .i64 0]⟩
@[reducible] def WD:Ty:=⟨.array 32 5,32,32,List.replicate 32 (.int .u8 0)⟩
@[reducible] def WE:Ty:=⟨.array 64 5,64,64,List.replicate 64 (.int .u8 0)⟩
@[reducible] def KZ:Ty:=⟨.array 2 2,2,16,[.int .i64 0,.int .i64 0]⟩
@[reducible] def WG:Ty:=⟨.array 8 9,8,128,[.string ByteArray.empty,.string ByteArray.empty,.string ByteArray.empty,.string ByteArray.empty,.string ByteArray.empty,.string ByteArray.empty,.string ByteArray.empty,.string ByteArray.empty]⟩
@[reducible] def WH:Ty:=⟨.array 9 9,9,144,[.string ByteArray.empty,.string ByteArray.empty,.string ByteArray.empty,.string ByteArray.empty,.string ByteArray.empty,.string ByteArray.empty,.string ByteArray.empty,.string ByteArray.empty,.string ByteArray.empty]⟩
@[reducible] def WI:Ty:=⟨.array 9 3,9,72,[.int .i64 0,.int .i64 0,.int .i64 0,.int .i64 0,.int .i64 0,.int .i64 0,.int .i64 0,.int .i64 0,.int .i64 0]⟩
@[reducible] def WJ:Ty:=⟨.struct [(228,0),(3,1),(263,2),(299,19)],20,176,[.pointer none,.int .i64 0,.int .i64 0,.int .i64 0,.int .i64 0,.int .i64 0,.int .i64 0,.int .i64 0,.int .i64 0,.int .i64 0,.int .i64 0,.int .i64 0,.int .i64 0,.int .i64 0,.int .i64 0,.int .i64 0,.int .i64 0,.int .i64 0,.int .i64 0,.slice none 0 0]⟩
@[reducible] def WK:Ty:=⟨.struct [(17,0),(17,1),(17,2),(9,3)],4,40,[.pointer none,.pointer none,.pointer none,.string ByteArray.empty]⟩
@[reducible] def WL:Ty:=⟨.array 0 16,0,0,[]⟩
@[reducible] def WM:Ty:=⟨.struct [(314,0)],0,0,[]⟩
@[reducible] def WN:Ty:=⟨.struct [(12,0),(12,1),(147,2),(317,3),(5,4),(5,5),(318,6),(319,7),(62,8),(320,9),(321,10)],11,48,[.int .u64 0,.int .u64 0,.int .u32 0,.int .u8 0,.int .u8 0,.int .u8 0,.int .u8 0,.nilFunc,.pointer none,.int .i32 0,.int .i32 0]⟩
@[reducible] def Sy:Ty:=(tI .i64 8)
@[reducible] def OW:Ty:=(tI .i64 8)
@[reducible] def aam:Ty:=OU
@[reducible] def Ft:Ty:=Sx
@[reducible] def aan:Ty:=Sw
@[reducible] def Q6:Ty:=(tS 3)
@[reducible] def tab (T:Nat):Option Ty:=(nd T 116 (nd T 46 (nd T 23 (nd T 12 (nd T 6 (nd T 3 (nd T 2 (lf T 1 mF) (lf T 2 (tI .i64 8))) (nd T 4 (lf T 3 (tI .i64 8)) (nd T 5 (lf T 4 ty4) (lf T 5 (tI .u8 1))))) (nd T 9 (nd T 7 (lf T 6 (tI .u8 1)) (nd T 8 (lf T 7 ty7) (lf T 8 ty7))) (nd T 10 (lf T 9 ty9) (nd T 11 (lf T 10 ty9) (lf T 11 ty9))))) (nd T 17 (nd T 14 (nd T 13 (lf T 12 (tI .u64 8)) (lf T 13 V8)) (nd T 15 (lf T 14 V8) (nd T 16 (lf T 15 (tP 313)) (lf T 16 (tP 316))))) (nd T 20 (nd T 18 (lf T 17 (tP 323)) (nd T 19 (lf T 18 V9) (lf T 19 V9))) (nd T 21 (lf T 20 Sw) (nd T 22 (lf T 21 (tI .i32 4)) (lf T 22 (tS 9))))))) (nd T 34 (nd T 28 (nd T 25 (nd T 24 (lf T 23 mF) (lf T 24 mF)) (nd T 26 (lf T 25 (tP 49)) (nd T 27 (lf T 26 mF) (lf T 27 (tP 31))))) (nd T 31 (nd T 29 (lf T 28 (tS 2)) (nd T 30 (lf T 29 (tP 104)) (lf T 30 Wa))) (nd T 32 (lf T 31 Wa) (nd T 33 (lf T 32 (tS 22)) (lf T 33 OU))))) (nd T 40 (nd T 37 (nd T 36 (lf T 34 OU) (lf T 36 mF)) (nd T 38 (lf T 37 mF) (nd T 39 (lf T 38 mF) (lf T 39 mF)))) (nd T 43 (nd T 41 (lf T 40 (tI .u64 8)) (nd T 42 (lf T 41 mF) (lf T 42 mF))) (nd T 44 (lf T 43 (tP 46)) (nd T 45 (lf T 44 (tS 5)) (lf T 45 Wb))))))) (nd T 73 (nd T 57 (nd T 51 (nd T 48 (nd T 47 (lf T 46 Wb) (lf T 47 (tP 125))) (nd T 49 (lf T 48 Wc) (nd T 50 (lf T 49 Wc) (lf T 50 mF)))) (nd T 54 (nd T 52 (lf T 51 mF) (nd T 53 (lf T 52 mF) (lf T 53 mF))) (nd T 55 (lf T 54 mF) (nd T 56 (lf T 55 mF) (lf T 56 mF))))) (nd T 65 (nd T 60 (nd T 59 (lf T 57 mF) (lf T 59 mF)) (nd T 61 (lf T 60 mF) (nd T 62 (lf T 61 mF) (lf T 62 (tP 5))))) (nd T 69 (nd T 66 (lf T 65 mF) (nd T 67 (lf T 66 (tS 134)) (lf T 67 (tS 140)))) (nd T 71 (lf T 69 OV) (nd T 72 (lf T 71 mF) (lf T 72 mF)))))) (nd T 102 (nd T 87 (nd T 75 (nd T 74 (lf T 73 mF) (lf T 74 Sx)) (nd T 80 (lf T 75 Sx) (nd T 82 (lf T 80 (tI .u64 8)) (lf T 82 aal)))) (nd T 99 (nd T 97 (lf T 87 Sw) (nd T 98 (lf T 97 mF) (lf T 98 Wd))) (nd T 100 (lf T 99 Wd) (nd T 101 (lf T 100 (tS 145)) (lf T 101 mF))))) (nd T 108 (nd T 105 (nd T 103 (lf T 102 mF) (nd T 104 (lf T 103 QV) (lf T 104 QV))) (nd T 106 (lf T 105 mF) (nd T 107 (lf T 106 mF) (lf T 107 mF)))) (nd T 111 (nd T 109 (lf T 108 mF) (nd T 110 (lf T 109 mF) (lf T 110 mF))) (nd T 113 (lf T 111 mF) (nd T 114 (lf T 113 mF) (lf T 114 mF)))))))) (nd T 222 (nd T 160 (nd T 132 (nd T 122 (nd T 119 (nd T 118 (lf T 116 mF) (lf T 118 mF)) (nd T 120 (lf T 119 mF) (nd T 121 (lf T 120 (tP 179)) (lf T 121 (tP 225))))) (nd T 125 (nd T 123 (lf T 122 (tP 168)) (nd T 124 (lf T 123 (tS 219)) (lf T 124 QW))) (nd T 127 (lf T 125 QW) (nd T 130 (lf T 127 (tS 185)) (lf T 130 (tP 132)))))) (nd T 144 (nd T 136 (nd T 134 (lf T 132 Wf) (lf T 134 Wg)) (nd T 138 (lf T 136 (tS 138)) (nd T 140 (lf T 138 CX) (lf T 140 Wh)))) (nd T 153 (nd T 145 (lf T 144 KW) (nd T 147 (lf T 145 KW) (lf T 147 (tI .u32 4)))) (nd T 156 (lf T 153 (tI .i64 8)) (nd T 159 (lf T 156 (tP 200)) (lf T 159 Wi)))))) (nd T 200 (nd T 177 (nd T 170 (nd T 168 (lf T 160 mF) (lf T 168 Wj)) (nd T 172 (lf T 170 (tP 172)) (nd T 173 (lf T 172 Wk) (lf T 173 (tI .i64 8))))) (nd T 186 (nd T 179 (lf T 177 (tP 242)) (nd T 185 (lf T 179 Wl) (lf T 185 QX))) (nd T 192 (lf T 186 mF) (nd T 194 (lf T 192 (tP 194)) (lf T 194 Wm))))) (nd T 211 (nd T 204 (nd T 203 (lf T 200 Wn) (lf T 203 Wo)) (nd T 206 (lf T 204 Wp) (nd T 209 (lf T 206 (tS 257)) (lf T 209 OU)))) (nd T 217 (nd T 213 (lf T 211 (tP 213)) (nd T 215 (lf T 213 Wq) (lf T 215 (tP 217)))) (nd T 219 (lf T 217 Ws) (nd T 221 (lf T 219 KW) (lf T 221 KX))))))) (nd T 278 (nd T 248 (nd T 231 (nd T 225 (nd T 223 (lf T 222 Wt) (lf T 223 (tS 278))) (nd T 228 (lf T 225 KY) (nd T 229 (lf T 228 (tP 265)) (lf T 229 mF)))) (nd T 240 (nd T 233 (lf T 231 (tP 233)) (nd T 239 (lf T 233 Wu) (lf T 239 QY))) (nd T 241 (lf T 240 Wv) (nd T 242 (lf T 241 QZ) (lf T 242 QZ))))) (nd T 257 (nd T 251 (nd T 250 (lf T 248 Ww) (lf T 250 Wx)) (nd T 252 (lf T 251 Wy) (nd T 254 (lf T 252 (tP 254)) (lf T 254 Wz)))) (nd T 263 (nd T 260 (lf T 257 QX) (nd T 261 (lf T 260 WA) (lf T 261 WB))) (nd T 265 (lf T 263 Q0) (nd T 269 (lf T 265 WC) (lf T 269 mF)))))) (nd T 301 (nd T 290 (nd T 280 (nd T 279 (lf T 278 Q5) (lf T 279 WD)) (nd T 286 (lf T 280 WE) (nd T 287 (lf T 286 KZ) (lf T 287 (tS 292))))) (nd T 296 (nd T 292 (lf T 290 WG) (nd T 295 (lf T 292 Q5) (lf T 295 WH))) (nd T 298 (lf T 296 WI) (nd T 299 (lf T 298 (tP 301)) (lf T 299 (tS 3)))))) (nd T 317 (nd T 313 (nd T 306 (lf T 301 WJ) (nd T 307 (lf T 306 mF) (lf T 307 (tP 263)))) (nd T 314 (lf T 313 WK) (nd T 316 (lf T 314 WL) (lf T 316 WM)))) (nd T 320 (nd T 318 (lf T 317 (tI .u8 1)) (nd T 319 (lf T 318 (tI .u8 1)) (lf T 319 mF))) (nd T 321 (lf T 320 (tI .i32 4)) (nd T 323 (lf T 321 (tI .i32 4)) (lf T 323 WN)))))))))
def WO (P:Program) (T:Nat) (o:Option Ty):Prop:=∀r,o=some r→aX P T=some r
theorem lfs {P:Program} {T k:Nat} {t:Ty} (hk:aX P k=some t):WO P T (lf T k t):=fun r h=>by
 unfold lf at h;split at h
 ·rename_i e;rw[Nat.eq_of_beq_eq_true e,hk,h]
 ·cases h
theorem nds {P:Program} {T k:Nat} {a b:Option Ty} (ha:WO P T a) (hb:WO P T b):WO P T (nd T k a b):=fun r h=>by
 unfold nd at h;split at h
 ·exact ha r h
 ·exact hb r h
theorem ae {T:Nat} {r:Ty} (h0:tab T=some r):aX Tryz.prog T=some r:=by
 have h:WO Tryz.prog T (tab T):=by
  unfold tab;(repeat (first|exact lfs (by kernel_rfl)|apply nds))
 exact h r h0
end X
namespace X
open Go
section
variable {P:Program} {ρ:Env} {S:Heap→Prop} {ty:TypeId}
end
end X
namespace X
open Go
theorem pE {ρ:Env}:∀{l:List (Nat×Value)},Bi ρ l→l.foldl (fun r p=>dO r p.1 p.2) ρ=ρ
 |[],_=>rfl
 |(d,v)::l,h=>by
  have e:dO ρ d v=ρ:=funext fun s=>by
   by_cases hs:s=d
   ·subst hs;simp[dO,h.1]
   ·unfold dO;rw[show s.beq d=false from by cases hb:s.beq d with|true=>exact absurd (Nat.eq_of_beq_eq_true hb) hs|false=>rfl]
  show l.foldl (fun r p=>dO r p.1 p.2) (dO ρ d v)=ρ;rw[e];exact pE h.2
theorem gen {Q:Env→Prop} {ρ:Env} (E:List (Nat×Value)) (hE:Bi ρ E) (k:∀δ,Q (E.foldl (fun r p=>dO r p.1 p.2) δ)):Q ρ:=by
 have:=k ρ;rwa [pE hE] at this
end X
end Go.Proofs.YtgeoiflbjcehcaaGreatDoor
