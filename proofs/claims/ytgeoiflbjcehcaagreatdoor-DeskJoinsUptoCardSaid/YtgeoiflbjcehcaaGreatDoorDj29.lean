import Derived.Test.YtgeoiflbjcehcaaGreatDoorDj28
import Derived.Laws.Strings3
set_option maxHeartbeats 4000000
set_option maxRecDepth 2000
set_option linter.unusedVariables false
set_option linter.unusedSimpArgs false
namespace Go.Proofs.YtgeoiflbjcehcaaGreatDoor
open Go X
section
variable {C:List In} {inp:List Int}
theorem HE (k:Bool) (x:In) (b:Be):b.out<+:(aL inp k x b).out:=by
 obtain⟨⟨nx,st,rd,on,sta,ce⟩,ke,ou,wr⟩:=b;rw[aL];by_cases q0:x.op=1
 ·simp only[if_pos q0];first|exact List.prefix_rfl|(repeat' split)<;>first|exact List.prefix_rfl|exact List.prefix_append _ _
 by_cases q1:x.op=2
 ·simp only[if_neg q0,if_pos q1];first|exact List.prefix_rfl|(repeat' split)<;>first|exact List.prefix_rfl|exact List.prefix_append _ _
 by_cases q2:x.op=3
 ·simp only[if_neg q0,if_neg q1,if_pos q2];first|exact List.prefix_rfl|(repeat' split)<;>first|exact List.prefix_rfl|exact List.prefix_append _ _
 by_cases q3:4≤x.op∧x.op≤8
 ·simp only[if_neg q0,if_neg q1,if_neg q2,if_pos q3];first|exact List.prefix_rfl|(repeat' split)<;>first|exact List.prefix_rfl|exact List.prefix_append _ _
 by_cases q4:x.op=9
 ·simp only[if_neg q0,if_neg q1,if_neg q2,if_neg q3,if_pos q4];first|exact List.prefix_rfl|(repeat' split)<;>first|exact List.prefix_rfl|exact List.prefix_append _ _
 by_cases q5:x.op=10
 ·simp only[if_neg q0,if_neg q1,if_neg q2,if_neg q3,if_neg q4,if_pos q5];first|exact List.prefix_rfl|(repeat' split)<;>first|exact List.prefix_rfl|exact List.prefix_append _ _
 by_cases q6:x.op=11
 ·simp only[if_neg q0,if_neg q1,if_neg q2,if_neg q3,if_neg q4,if_neg q5,if_pos q6];first|exact List.prefix_rfl|(repeat' split)<;>first|exact List.prefix_rfl|exact List.prefix_append _ _
 by_cases q7:x.op=12
 ·simp only[if_neg q0,if_neg q1,if_neg q2,if_neg q3,if_neg q4,if_neg q5,if_neg q6,if_pos q7];first|exact List.prefix_rfl|(repeat' split)<;>first|exact List.prefix_rfl|exact List.prefix_append _ _
 by_cases q8:x.op=13
 ·simp only[if_neg q0,if_neg q1,if_neg q2,if_neg q3,if_neg q4,if_neg q5,if_neg q6,if_neg q7,if_pos q8];first|exact List.prefix_rfl|(repeat' split)<;>first|exact List.prefix_rfl|exact List.prefix_append _ _
 by_cases q9:x.op=14
 ·simp only[if_neg q0,if_neg q1,if_neg q2,if_neg q3,if_neg q4,if_neg q5,if_neg q6,if_neg q7,if_neg q8,if_pos q9];first|exact List.prefix_rfl|(repeat' split)<;>first|exact List.prefix_rfl|exact List.prefix_append _ _
 by_cases Zy:x.op=15
 ·simp only[if_neg q0,if_neg q1,if_neg q2,if_neg q3,if_neg q4,if_neg q5,if_neg q6,if_neg q7,if_neg q8,if_neg q9,if_pos Zy];first|exact List.prefix_rfl|(repeat' split)<;>first|exact List.prefix_rfl|exact List.prefix_append _ _
 by_cases q11:x.op=16
 ·simp only[if_neg q0,if_neg q1,if_neg q2,if_neg q3,if_neg q4,if_neg q5,if_neg q6,if_neg q7,if_neg q8,if_neg q9,if_neg Zy,if_pos q11];first|exact List.prefix_rfl|(repeat' split)<;>first|exact List.prefix_rfl|exact List.prefix_append _ _
 simp only[if_neg q0,if_neg q1,if_neg q2,if_neg q3,if_neg q4,if_neg q5,if_neg q6,if_neg q7,if_neg q8,if_neg q9,if_neg Zy,if_neg q11];exact List.prefix_rfl
end
theorem mM {α β:Type} {c:Prop} [Decidable c] (f:α→β) {a b a' b':α} (ha:f a=f a') (hb:f b=f b'):f (if c then a else b)=f (if c then a' else b'):=by
 by_cases h:c
 ·rw[if_pos h,if_pos h];exact ha
 ·rw[if_neg h,if_neg h];exact hb
theorem Si (inp:List Int) (k k':Bool) (x:In) (m a a':Mi) (o o':List Int) (w w':Bool):(aL inp k x ⟨m,a,o,w⟩).m=(aL inp k' x ⟨m,a',o',w'⟩).m:=by
 obtain⟨next,stack,rd,outn,st,cells⟩:=m;simp only[aL];refine mM Be.m rfl ?_;refine mM Be.m rfl ?_;refine mM Be.m ?_ ?_
 ·cases stack with
  |nil=>rfl
  |cons k s=>exact mM Be.m rfl rfl
 refine mM Be.m ?_ ?_
 ·rcases stack with _|⟨y,_|⟨z,s⟩⟩<;>rfl
 refine mM Be.m ?_ ?_
 ·cases stack<;>rfl
 refine mM Be.m ?_ ?_
 ·rcases stack with _|⟨y,_|⟨z,s⟩⟩
  ·rfl
  ·rfl
  ·exact mM Be.m rfl rfl
 refine mM Be.m ?_ ?_
 ·cases stack with
  |nil=>rfl
  |cons n s=>
   simp only;split<;>split<;>rfl
 refine mM Be.m (mM Be.m rfl rfl) ?_;refine mM Be.m ?_ ?_
 ·cases stack with
  |nil=>rfl
  |cons n s=>exact mM Be.m rfl rfl
 refine mM Be.m rfl ?_;refine mM Be.m ?_ ?_
 ·cases k<;>cases k'<;>rfl
 exact mM Be.m rfl rfl
theorem mH (inp:List Int) (k:Bool) (x:In) (m a:Mi) (o:List Int) (w:Bool) (pB:x.op≠11):(aL inp k x ⟨m,a,o,w⟩).out=o∧(aL inp k x ⟨m,a,o,w⟩).wrong=w∧(aL inp k x ⟨m,a,o,w⟩).m.outn=m.outn:=by
 obtain⟨next,stack,rd,outn,st,cells⟩:=m;show (fun b':Be=>b'.out=o∧b'.wrong=w∧b'.m.outn=outn) _;simp only[aL];refine dD (Q:=fun b':Be=>b'.out=o∧b'.wrong=w∧b'.m.outn=outn) ⟨rfl,rfl,rfl⟩ ?_;refine dD (Q:=fun b':Be=>b'.out=o∧b'.wrong=w∧b'.m.outn=outn) ⟨rfl,rfl,rfl⟩ ?_;refine dD (Q:=fun b':Be=>b'.out=o∧b'.wrong=w∧b'.m.outn=outn) ?_ ?_
 ·cases stack with
  |nil=>exact⟨rfl,rfl,rfl⟩
  |cons k s=>exact dD (Q:=fun b':Be=>b'.out=o∧b'.wrong=w∧b'.m.outn=outn) ⟨rfl,rfl,rfl⟩ ⟨rfl,rfl,rfl⟩
 refine dD (Q:=fun b':Be=>b'.out=o∧b'.wrong=w∧b'.m.outn=outn) ?_ ?_
 ·rcases stack with _|⟨y,_|⟨z,s⟩⟩<;>exact⟨rfl,rfl,rfl⟩
 refine dD (Q:=fun b':Be=>b'.out=o∧b'.wrong=w∧b'.m.outn=outn) ?_ ?_
 ·cases stack<;>exact⟨rfl,rfl,rfl⟩
 refine dD (Q:=fun b':Be=>b'.out=o∧b'.wrong=w∧b'.m.outn=outn) ?_ ?_
 ·rcases stack with _|⟨y,_|⟨z,s⟩⟩
  ·exact⟨rfl,rfl,rfl⟩
  ·exact⟨rfl,rfl,rfl⟩
  ·exact dD (Q:=fun b':Be=>b'.out=o∧b'.wrong=w∧b'.m.outn=outn) ⟨rfl,rfl,rfl⟩ ⟨rfl,rfl,rfl⟩
 rw[if_neg pB];refine dD (Q:=fun b':Be=>b'.out=o∧b'.wrong=w∧b'.m.outn=outn) (dD (Q:=fun b':Be=>b'.out=o∧b'.wrong=w∧b'.m.outn=outn) ⟨rfl,rfl,rfl⟩ ⟨rfl,rfl,rfl⟩) ?_;refine dD (Q:=fun b':Be=>b'.out=o∧b'.wrong=w∧b'.m.outn=outn) ?_ ?_
 ·cases stack with
  |nil=>exact⟨rfl,rfl,rfl⟩
  |cons k s=>exact dD (Q:=fun b':Be=>b'.out=o∧b'.wrong=w∧b'.m.outn=outn) ⟨rfl,rfl,rfl⟩ ⟨rfl,rfl,rfl⟩
 refine dD (Q:=fun b':Be=>b'.out=o∧b'.wrong=w∧b'.m.outn=outn) ⟨rfl,rfl,rfl⟩ ?_;refine dD (Q:=fun b':Be=>b'.out=o∧b'.wrong=w∧b'.m.outn=outn) ?_ ?_
 ·cases k<;>exact⟨rfl,rfl,rfl⟩
 exact dD (Q:=fun b':Be=>b'.out=o∧b'.wrong=w∧b'.m.outn=outn) ⟨rfl,rfl,rfl⟩ ⟨rfl,rfl,rfl⟩
theorem k8 (inp:List Int) (k:Bool) (x:In) (b:Be) (pB:x.op=11):aL inp k x b=match b.m.stack with
 |[]=>b
 |n::s=>
  if b.m.outn=b.out.length then {b with m:={b.m with stack:=s,outn:=b.m.outn+1},out:=b.out++[n]}
  else {b with m:={b.m with stack:=s,outn:=b.m.outn+1},wrong:=b.wrong||decide (b.out.getD b.m.outn 0≠n)}:=by
 obtain⟨op,a1,a2,a3⟩:=x;simp only at pB;subst pB;rfl
def Calm (c:Be):Prop:=c.m.outn=c.out.length∧c.wrong=false
theorem y5 (inp:List Int) (k:Bool) (x:In) {b c:Be} (hm:b.m=c.m) (hc:Calm c) (hw:b.wrong=false):
 Calm (aL inp false x c)∧(aL inp k x b).m=(aL inp false x c).m∧(aL inp k x b).wrong=false∨¬(b.out=c.out∨(aL inp false x c).out<+:b.out):=by
 obtain⟨m,a,o,w⟩:=b;obtain⟨m',a',o',w'⟩:=c;obtain⟨h1,h2⟩:=hc;simp only at hm h1 h2 hw;subst hm h2 hw;by_cases pB:x.op=11
 ·have e1:=k8 inp k x ⟨m,a,o,false⟩ pB;have e2:=k8 inp false x ⟨m,a',o',false⟩ pB;rw[e1,e2]
  cases hs:m.stack with
  |nil=>exact .inl ⟨⟨h1,rfl⟩,rfl,rfl⟩
  |cons n s=>
   simp only[hs,h1,if_true];by_cases ho:o=o'
   ·left;subst ho;refine⟨⟨by simp,rfl⟩,by simp,by simp⟩
   ·by_cases hp:(o'++[n])<+:o
    ·left;have hl:=hp.length_le;rw[List.length_append,List.length_singleton] at hl;have fW:¬(o'.length=o.length):=by omega
     have hg:o.getD o'.length 0=n:=by
      obtain⟨t,rfl⟩:=hp;simp
     refine⟨⟨by simp,rfl⟩,by rw[if_neg fW],by rw[if_neg fW,hg];simp⟩
    ·right;rintro(q|q)
     ·exact ho q
     ·exact hp q
 ·obtain⟨p1,p2,p3⟩:=mH inp k x m a o false pB;obtain⟨q1,q2,q3⟩:=mH inp false x m a' o' false pB;exact .inl ⟨⟨by rw[q3,q1,h1],q2⟩,Si inp k false x m a a' o o' false false,p2⟩
theorem rL (inp:List Int) (k:Bool) (x:In) {b c:Be} (hm:b.m=c.m) (hc:Calm c):
 (b.out=c.out→(aL inp k x b).out=(aL inp false x c).out)∧((aL inp false x c).out<+:b.out→(aL inp k x b).out=b.out):=by
 obtain⟨m,a,o,w⟩:=b;obtain⟨m',a',o',w'⟩:=c;obtain⟨h1,h2⟩:=hc;simp only at hm h1 h2;subst hm h2;by_cases pB:x.op=11
 ·have e1:=k8 inp k x ⟨m,a,o,w⟩ pB;have e2:=k8 inp false x ⟨m,a',o',false⟩ pB;rw[e1,e2]
  cases hs:m.stack with
  |nil=>exact⟨fun h=>h,fun _=>rfl⟩
  |cons n s=>
   simp only[hs,h1,if_true];refine⟨fun h=>?_,fun hp=>?_⟩
   ·subst h;rw[if_pos rfl]
   ·have hl:=hp.length_le;rw[List.length_append,List.length_singleton] at hl;rw[if_neg (by omega)]
 ·obtain⟨p1,p2,p3⟩:=mH inp k x m a o w pB;obtain⟨q1,q2,q3⟩:=mH inp false x m a' o' false pB;rw[p1,q1];exact⟨fun h=>h,fun _=>rfl⟩
section
variable {C:List In} {inp:List Int}
def tr (C:List In) (inp:List Int) (b:Be):Nat→Be
 |0=>b
 |n+1=>bz C inp false (tr C inp b n)
theorem HF (b:Be):∀(n j:Nat),(tr C inp b n).out<+:(tr C inp b (n+j)).out
 |n,0=>List.prefix_refl _
 |n,j+1=>by
  refine(HF b n j).trans ?_;show _<+:(bz C inp false (tr C inp b (n+j))).out;rw[bz];split
  ·rw[b5];split
   ·exact List.prefix_refl _
   ·exact HE false _ (bump _)
  ·exact List.prefix_refl _
theorem HG (b:Be) {n k:Nat} (h:n≤k):(tr C inp b n).out<+:(tr C inp b k).out:=by
 obtain⟨j,rfl⟩:=Nat.exists_eq_add_of_le h;exact HF b n j
structure Sj (T:Nat→Be) (n q N:Nat) (b:Be):Prop where
 m:b.m=(T n).m
 kept:b.kept=(T q).m
 out:b.out=(T N).out
 wrong:b.wrong=false
 nN:n≤N
 qN:q≤N
theorem pq {b c:Be} (k:Bool) (hm:b.m=c.m) (hc:Calm c) (hw:b.wrong=false) (ho:b.out=c.out∨(bz C inp false c).out<+:b.out):
 Calm (bz C inp false c)∧(bz C inp k b).m=(bz C inp false c).m∧(bz C inp k b).wrong=false∧(b.out=c.out→(bz C inp k b).out=(bz C inp false c).out)∧((bz C inp false c).out<+:b.out→(bz C inp k b).out=b.out):=by
 by_cases h0:c.m.st=0
 ·(have W6:b.m.st=0:=by rw[hm];exact h0);have e1:bz C inp k b=b5 C inp k b:=if_pos W6;have e2:bz C inp false c=b5 C inp false c:=if_pos h0;rw[e1];rw[e2] at ho⊢;(have s1:b5 C inp k b=match C[c.m.next]? with|none=>b|some x=>aL inp k x (bump b):=by rw[b5,hm];rfl);(have s2:b5 C inp false c=match C[c.m.next]? with|none=>c|some x=>aL inp false x (bump c):=rfl);rw[s1,s2];rw[s2] at ho
  cases hx:C[c.m.next]? with
  |none=>exact⟨hc,hm,hw,fun h=>h,fun _=>rfl⟩
  |some x=>
   rw[hx] at ho;simp only at ho⊢;(have hm':(bump b).m=(bump c).m:=by simp only[bump,hm]);have EP:Calm (bump c):=hc;obtain⟨r1,r2⟩:=rL inp k x hm' EP;rcases y5 inp k x hm' EP (show (bump b).wrong=false from hw) with ⟨q1,q2,q3⟩|q
   ·exact⟨q1,q2,q3,r1,r2⟩
   ·exact absurd ho q
 ·(have W6:¬(b.m.st=0):=by rw[hm];exact h0);have e1:bz C inp k b=b:=if_neg W6;have e2:bz C inp false c=c:=if_neg h0;rw[e1,e2];exact⟨hc,hm,hw,fun h=>h,fun _=>rfl⟩
theorem wJ {b:Be} (h:Calm b):∀n,Calm (tr C inp b n)
 |0=>h
 |n+1=>(pq (C:=C) (inp:=inp) false rfl (wJ h n) (wJ h n).2 (.inl rfl)).1
theorem Sj.next {b0 b:Be} {n q N:Nat} (h0:Calm b0) (h:Sj (tr C inp b0) n q N b) (hs:b.m.st=0):∃q',Sj (tr C inp b0) (n+1) q' (max N (n+1)) (bz C inp true b):=by
 obtain⟨hm,hk,ho,hw,hn,hq⟩:=h;have hc:=wJ (C:=C) (inp:=inp) h0 n
 have VL:b.out=(tr C inp b0 n).out∨(bz C inp false (tr C inp b0 n)).out<+:b.out:=by
  by_cases e:n=N
  ·left;rw[ho,e]
  ·right;rw[ho];exact HG b0 (n:=n+1) (by omega)
 obtain⟨-,g2,g3,g4,g5⟩:=pq (C:=C) (inp:=inp) true hm hc hw VL
 have VM:(bz C inp true b).out=(tr C inp b0 (max N (n+1))).out:=by
  by_cases e:n=N
  ·subst e;rw[g4 ho,Nat.max_eq_right (by omega)];rfl
  ·rw[g5 (by rw[ho];exact HG b0 (n:=n+1) (by omega)),ho,Nat.max_eq_left (by omega)]
 by_cases js:∃x,C[b.m.next]? =some x∧x.op=15
 ·obtain⟨x,hx,Zz⟩:=js;refine⟨n+1,g2,?_,VM,g3,by omega,by omega⟩;(have e:bz C inp true b={bump b with kept:=(bump b).m}:=by rw[bz,if_pos hs,tm hx Zz];rfl);rw[e] at g2;rw[e];exact g2
 ·refine⟨q,g2,?_,VM,g3,by omega,by omega⟩;rw[bz,if_pos hs,b5]
  cases hx:C[b.m.next]? with
  |none=>exact hk
  |some x=>exact(uV inp true x (bump b) (fun e=>js ⟨x,hx,e⟩)).trans hk
end
theorem qD {p:Pr} {inp:List Int} {L:Li} {k:Nat} (h:fp p inp L k) (hk:k≤1000000) (h0:L.b.kept.st=0):(cW (ak p) inp L).b.kept.st=0:=by
 show (bz (ak p) inp true L.b).kept.st=0;by_cases hs:L.b.m.st=0
 ·obtain⟨x,hx,-⟩:=h.iy.ok hk hs;rw[bz,if_pos hs];rcases (h.iy.inv.step (keep:=true) h.iy.ch hx).2.2.2 with e|⟨e,e0⟩
  ·rw[e];exact h0
  ·rw[e];exact e0
 ·rw[bz,if_neg hs];exact h0
theorem y6 {p:Pr} {inp:List Int}:∀(f:Nat) {L:Li} {k:Nat},fp p inp L k→k+f≤1000000→L.b.kept.st=0→(jv (ak p) inp f L).1.b.kept.st=0
 |0,_,_,_,_,h0=>h0
 |f+1,L,k,h,hk,h0=>by
  rw[jv];split
  ·exact y6 f (h.next (by omega)) (by omega) (qD h (by omega) h0)
  ·exact h0
theorem u9 {p:Pr} {inp:List Int} {K:Int} {bit:Bool}:∀(f:Nat) {L:Li} {k:Nat},fp p inp L k→k+f≤1000000→L.b.kept.st=0→(eU (ak p) inp K bit f L).1.b.kept.st=0
 |0,_,_,_,_,h0=>h0
 |f+1,L,k,h,hk,h0=>by
  rw[eU];split
  ·rw[fj];split
   ·exact qD h (by omega) h0
   ·exact h0
  ·split
   ·exact u9 f (h.next (by omega)) (by omega) (qD h (by omega) h0)
   ·exact h0
theorem LS {p:Pr} {inp:List Int} {L:Li} {k:Nat} (s:oV) (h:fp p inp L k) (hk:k+3000≤1000000) (h0:L.b.kept.st=0):(jB (ak p) inp s L).1.b.kept.st=0:=by
 rw[jB];split
 ·exact h0
 ·rename_i hf;have hf:bh s=0:=Classical.byContradiction hf
  have hn:s.kind≠2→s.n≤3000:=by
   intro uq;rw[bh] at hf;split at hf
   ·cases hf
   ·split at hf
    ·cases hf
    ·rename_i q;exact Classical.byContradiction fun z=>q (.inl ⟨uq,.inr (by omega)⟩)
  split
  ·have:=hn (by omega);exact y6 _ h (by omega) h0
  ·split
   ·have:=hn (by omega);exact u9 _ h (by omega) h0
   ·exact h0
section
variable (σ:PH) (g:Nat) (pc:Option Addr) (cc:Nat) (iv:Value) (p:Pr) (inp:List Int) (L:Li) (k:Nat) (Γ:List HP)
end
theorem aw.tail {Γ:List HP} {R:HP}:aw (R::Γ) Γ:=fun m ⟨_,_,_,b,_,_,e⟩=>b.mono e
theorem aw.left:∀{A B:List HP},aw (A++B) A
 |[],_=>aw.nil _
 |_::_,_=>aw.bP b6.head aw.left
theorem mY.le {σ:PH} {xv:Value} {lf:Option (Pr×List Int×Li)} {k l:Nat} {Γ:List HP} (h:mY σ xv lf k Γ) (hl:k≤l):mY σ xv lf l Γ:=by
 cases lf with
 |none=>exact h
 |some x=>
  obtain⟨p,inp,L⟩:=x;obtain⟨gx,db,pb,pc,cc,gn,e,h1,h2,h3,h4,h5⟩:=h;exact⟨gx,db,pb,pc,cc,gn,e,h1,h2,by omega,h4.le hl,h5⟩
theorem mY.mono {σ ag:PH} {xv:Value} {lf:Option (Pr×List Int×Li)} {k:Nat} {Γ:List HP} (h:mY σ xv lf k Γ) (hs:σ.sub ag):mY ag xv lf k Γ:=by
 cases lf with
 |none=>exact h
 |some x=>
  obtain⟨p,inp,L⟩:=x;obtain⟨gx,db,pb,pc,cc,gn,e,h1,h2,h3,h4,h5⟩:=h;exact⟨gx,db,pb,pc,cc,gn,e,h1.mono hs (fun _ _ h=>h),h2.mono hs,h3,h4,h5⟩
structure tE (l:List ByteArray):Prop where
 x:∀x∈l,x.size≤maxLen
 n:l.length≤1000000
 s:(rn l).size≤100000000
def ku (σ:PH) (gd:Nat) (d:jT) (acc:ByteArray) (k:Nat) (Γ:List HP):Prop:=∃pt ct pi ci xv b7,aV σ (.slice pi d.input.length ci) d.input∧(∀x∈d.input,aF x)∧mY σ xv d.tp k b7∧
 Γ=cM 49 gd [.slice pt d.text.length ct,.slice pi d.input.length ci,xv] acc::bn 9 1 (.slice pt d.text.length ct) d.text.length (d.text.map Value.string)::b7
def HI (w:ByteArray) (n:List Int):Nat:=if (w=oY∨w=jJ)∧n.length≠0 then 3000 else 0
def pw (s:ByteArray):Nat:=match eu s with
 |[]=>0
 |w::r=>if (w=oY∨w=jJ)∧r.length≠0 then 3000 else 0
theorem nL (d:jT) (p:Pr) (inp:List Int) (L:Li) (s:oV) (h:d.tp=some (p,inp,L)):(iz d p inp L s).1={d with tp:=some (p,inp,(jB (ak p) inp s L).1)}:=by
 rw[iz];split
 ·rename_i hf;(have e:(jB (ak p) inp s L).1=L:=by rw[jB,if_pos hf]);rw[e,←h]
 ·rfl
theorem C7 (n:Int):0≤lj n:=by simp[lj,IntKind.wrap,IntKind.bits,IntKind.signed];omega
theorem C8 (n:Int):lj n<18446744073709551616:=by simp[lj,IntKind.wrap,IntKind.bits,IntKind.signed];omega
theorem HJ (b:Be):aF (uh b):=by
 rw[uh];split
 ·exact⟨by decide,by decide⟩
 split
 ·exact⟨by decide,by decide⟩
 split
 ·exact rW _
 ·exact⟨by decide,by decide⟩
theorem qE {σ:PH} {gx db pb:Nat} {pc:Option Addr} {cc:Nat} {p:Pr} {inp:List Int} {L:Li} {k m:Nat} {gn:Int} {Γ:List HP} (s:oV) (hc:bO 4 yu σ (.slice pc (ak p).length cc) (ak p)) (hL:gK σ gx db pb pc cc (sizes p.vars).toNat p inp (jB (ak p) inp s L).1 gn Γ) (uW:gn≤(k+(jB (ak p) inp s L).2:Nat)) (cU:fp p inp L k) (hk:k+3000≤1000000) (hB:um L.b) (hS:jW p.body) (hi:∀x∈inp,aF x) (SW:L.b.kept.st=0) (hm:(jB (ak p) inp s L).2≤m):mY σ (ptr gx) (some (p,inp,(jB (ak p) inp s L).1)) (k+m) Γ:=
 ⟨gx,db,pb,pc,cc,gn,rfl,hc,hL,by omega,(qu s cU hk).1.le (by omega),VC (yQ hS) hi s hB,hS,hi,LS s cU hk SW⟩
theorem vb (d:jT):told (iJ d).2≤4000000:=by
 have h3:fE.size=2:=rfl;have Sg:=wI (s:=rn d.text);rw[iJ];split
 ·rename_i x hP;rw[hP] at Sg;have vD:=hZ Sg.1 fE;have zt:=hZ Sg.2 (dG fE x.1);show (dG (dG fE x.1) x.2).size+1+0≤_;change (dG fE x.1).size≤_ at vD;change (dG (dG fE x.1) x.2).size≤_ at zt;omega
 ·split
  ·have h1:=hZ (n:=1) ⟨by decide,by decide⟩ fE;show (dG fE 1).size+1+0≤_;omega
  ·show told [WY]≤_;decide
theorem qF (d:jT) {p:Pr} {inp:List Int} {L:Li} {k:Nat} (s:oV) (cU:fp p inp L k) (hk:k+3000≤1000000):told (iz d p inp L s).2≤4000000:=by
 have h3:fE.size=2:=rfl;have h4:Es.size=3:=rfl;rw[iz];split
 ·have h1:=hZ (nJ s) fE;show (dG fE (bh s)).size+1+0≤_;omega
 ·have h0:=(qu s cU hk).2.1;have h1:=hZ (n:=((jB (ak p) inp s L).2:Nat)) ⟨by omega,by omega⟩ Es;show (dG Es ((jB (ak p) inp s L).2:Nat)).size+1+0≤_;omega
theorem VN (σ:PH) (gd:Nat) (d:jT) (acc:ByteArray) (k:Nat) (w:ByteArray) (n:List Int) (pn:Option Addr) (cn:Nat) (Γ:List HP) (hD:ku σ gd d acc k Γ) (hx:tE d.text) (hn:aV σ (.slice pn n.length cn) n) (E4:∀x∈n,aF x) (hT:rP σ) (hE:lp σ) (hk:k+3000≤160000) (hb:acc.size+4000000≤1000000000):
 ae Tryz.prog 23 #[ptr gd,.string w,.slice pn n.length cn] σ Γ (aE fun v ag ah=>σ.sub ag∧((v=.bool true∧told (jV d w n).2≤4000000∧ku ag gd (jV d w n).1 (cZ acc (jV d w n).2) (k+HI w n) ah)∨(v=.bool false∧jV d w n=(d,[lZ])∧ku ag gd d acc k ah))):=by
 obtain⟨pt,ct,pi,ci,xv,b7,hi,qC,hL,rfl⟩:=hD;(have Zs:n.length≤maxLen:=by obtain⟨p0,c0,e,h1,h2⟩:=hn.shape;omega);simp only[maxLen] at Zs;have VO:=Sf σ gd pt ct (.slice pi d.input.length ci) xv acc d hx.x hx.n hx.s hi qC hT hE (by omega);(have Sk:=fun f hf=>LQ σ gd pt ct (.slice pi d.input.length ci) xv acc d f hf hx.x hx.n hx.s hi qC hT hE (by omega));refine ob Tryz.func23 ?_;refine a8 ?_;refine az.join (List.take_append_drop 7 _).symm [(8,14)] (fun _:Unit=>[(14,.bool (decide (w=Et∧(n.length:Int)=0)))]) (fun _ ag ah=>σ=ag∧ah=cM 49 gd [.slice pt d.text.length ct,.slice pi d.input.length ci,xv] acc::bn 9 1 (.slice pt d.text.length ct) d.text.length (d.text.map Value.string)::b7) ?_ ?_
 ·by_cases hw:w=Et
  ·rw[show decide (w=Et∧(n.length:Int)=0)=decide ((n.length:Int)=0) from by rw[decide_eq_decide];exact⟨And.right,fun h=>⟨hw,h⟩⟩];refine b3 ?_;refine zO rfl (Rd.eE rfl rfl) ?_;refine bt ?_;refine⟨cF,(),_,zM,?_,⟨rfl,rfl⟩⟩
   ·exact aw.refl _
  ·rw[show decide (w=Et∧(n.length:Int)=0)=false from decide_eq_false (fun h=>hw h.1)];refine b3 ?_;refine zO rfl (Rd.eE rfl rfl) ?_;refine bt ?_;refine⟨cF,(),_,zM,?_,⟨rfl,rfl⟩⟩
   ·exact aw.refl _
 rintro-δ _ _ ⟨rfl,rfl⟩;dsimp only[eb,List.foldl];refine bq ?_;by_cases h1:w=Et∧(n.length:Int)=0
 ·(have hA:jV d w n=({d with text:=[]},[]):=by rw[jV,if_pos ⟨h1.1,by omega⟩]);rw[hA];(first|refine XA.aY (R:=cM _ _ _ _) zL (cM.o) ?_|refine az.aY (R:=cM _ _ _ _) zL (cM.o) ?_|refine DA.aY (R:=cM _ _ _ _) zL (cM.o) ?_);rintro⟨u,q,cq⟩ hz;(first|refine XA.cl ?_|refine az.cl ?_|refine DA.cl ?_);refine XA.bG rfl (by first|rfl|exact decide_eq_true h1) ?_;refine dJ ?_;exact ao.ret (aG.one rfl rfl) (aw.fold (S:=cM 49 gd [.slice none 0 0,.slice pi d.input.length ci,xv] acc) (Θ:=[_,_]) (aw.refl _) (fun m hm=>⟨u,q,cq,hz,hm⟩) (aw.fy (e:=9) (size:=1) aw.tail)) ⟨.refl _,.inl ⟨rfl,Nat.zero_le _,none,0,pi,ci,xv,b7,hi,qC,hL.le (Nat.le_add_right _ _),rfl⟩⟩
 refine XA.aR rfl (by first|rfl|exact decide_eq_false h1) ?_;refine bq ?_;refine zO rfl (Rd.eE rfl rfl) ?_;refine bq ?_;by_cases h2:w=Hi
 ·(have hA:jV d w n=({d with input:=n},[]):=by rw[jV,if_neg (fun h=>h1 ⟨h.1,by omega⟩),if_pos h2]);rw[hA];(first|refine XA.aY (R:=cM _ _ _ _) zL (cM.o) ?_|refine az.aY (R:=cM _ _ _ _) zL (cM.o) ?_|refine DA.aY (R:=cM _ _ _ _) zL (cM.o) ?_);rintro⟨u,q,cq⟩ hz;(first|refine XA.cl ?_|refine az.cl ?_|refine DA.cl ?_);refine XA.bG rfl (by first|rfl|exact decide_eq_true h2) ?_;refine cr ?_;exact ao.ret (aG.one rfl rfl) (aw.fold (S:=cM 49 gd [.slice pt d.text.length ct,.slice pn n.length cn,xv] acc) (Θ:=[_,_]) (aw.refl _) (fun m hm=>⟨u,q,cq,hz,hm⟩) (aw.refl _)) ⟨.refl _,.inl ⟨rfl,Nat.zero_le _,pt,ct,pn,cn,xv,b7,hn,E4,hL.le (Nat.le_add_right _ _),rfl⟩⟩
 refine XA.aR rfl (by first|rfl|exact decide_eq_false h2) ?_;refine aN ?_;refine az.join (List.take_append_drop 7 _).symm [(26,32)] (fun _:Unit=>[(32,.bool (decide (w=uX∧(n.length:Int)=0)))]) (fun _ ag ah=>σ=ag∧ah=cM 49 gd [.slice pt d.text.length ct,.slice pi d.input.length ci,xv] acc::bn 9 1 (.slice pt d.text.length ct) d.text.length (d.text.map Value.string)::b7) ?_ ?_
 ·by_cases hw:w=uX
  ·rw[show decide (w=uX∧(n.length:Int)=0)=decide ((n.length:Int)=0) from by rw[decide_eq_decide];exact⟨And.right,fun h=>⟨hw,h⟩⟩];refine b3 ?_;refine zO rfl (Rd.eE rfl rfl) ?_;refine bt ?_;refine⟨cF,(),_,zM,?_,⟨rfl,rfl⟩⟩
   ·exact aw.refl _
  ·rw[show decide (w=uX∧(n.length:Int)=0)=false from decide_eq_false (fun h=>hw h.1)];refine b3 ?_;refine zO rfl (Rd.eE rfl rfl) ?_;refine bt ?_;refine⟨cF,(),_,zM,?_,⟨rfl,rfl⟩⟩
   ·exact aw.refl _
 rintro-δ _ _ ⟨rfl,rfl⟩;dsimp only[eb,List.foldl];refine bq ?_;by_cases h3:w=uX∧(n.length:Int)=0
 ·(have hA:jV d w n=iJ d:=by rw[jV,if_neg (fun h=>h1 ⟨h.1,by omega⟩),if_neg h2,if_pos ⟨h3.1,by omega⟩]);rw[hA];refine XA.bG rfl (by first|rfl|exact decide_eq_true h3) ?_;refine aN ?_;refine zw rfl (aC.cE (VO) rfl) ?_;rintro _ dQ _ ⟨_,⟨rfl,bQ,SR,ot,rfl,Sl⟩,rfl⟩;refine az.cl ?_;refine a8 ?_;rcases Sl with ⟨e,rfl,rfl⟩|⟨⟨p0,e⟩,hl⟩
  ·exact ao.ret (aG.one rfl rfl) (aw.refl _) ⟨bQ,.inl ⟨rfl,vb d,by rw[e];exact⟨pt,ct,pi,ci,SR,b7,hi.mono bQ,qC,(hL.mono bQ).le (Nat.le_add_right _ _),rfl⟩⟩⟩
  ·exact ao.ret (aG.one rfl rfl) (aw.bP b6.head (aw.bP b6.head aw.left)) ⟨bQ,.inl ⟨rfl,vb d,by rw[e] at hl⊢;exact⟨pt,ct,pi,ci,SR,ot,hi.mono bQ,qC,hl.le (Nat.zero_le _),rfl⟩⟩⟩
 refine XA.aR rfl (by first|rfl|exact decide_eq_false h3) ?_;refine aN ?_;refine az.join (List.take_append_drop 7 _).symm [(36,42)] (fun _:Unit=>[(42,.bool (decide (w=iE∧(n.length:Int)=1)))]) (fun _ ag ah=>σ=ag∧ah=cM 49 gd [.slice pt d.text.length ct,.slice pi d.input.length ci,xv] acc::bn 9 1 (.slice pt d.text.length ct) d.text.length (d.text.map Value.string)::b7) ?_ ?_
 ·by_cases hw:w=iE
  ·rw[show decide (w=iE∧(n.length:Int)=1)=decide ((n.length:Int)=1) from by rw[decide_eq_decide];exact⟨And.right,fun h=>⟨hw,h⟩⟩];refine b3 ?_;refine zO rfl (Rd.eE rfl rfl) ?_;refine bt ?_;refine⟨cF,(),_,zM,?_,⟨rfl,rfl⟩⟩
   ·exact aw.refl _
  ·rw[show decide (w=iE∧(n.length:Int)=1)=false from decide_eq_false (fun h=>hw h.1)];refine b3 ?_;refine zO rfl (Rd.eE rfl rfl) ?_;refine bt ?_;refine⟨cF,(),_,zM,?_,⟨rfl,rfl⟩⟩
   ·exact aw.refl _
 rintro-δ _ _ ⟨rfl,rfl⟩;dsimp only[eb,List.foldl];refine bq ?_;by_cases h4:w=iE∧(n.length:Int)=1
 ·(have hA:jV d w n=(d,jU d (n.getD 0 0)):=by rw[jV,if_neg (fun h=>h1 ⟨h.1,by omega⟩),if_neg h2,if_neg (fun h=>h3 ⟨h.1,by omega⟩),if_pos ⟨h4.1,by omega⟩]);obtain⟨x0,wU⟩:∃x,n[0]? =some x:=⟨_,List.getElem?_eq_getElem (by omega)⟩;(have K3:n.getD 0 0=x0:=by simp[List.getD,wU]);have W7:=E4 x0 (List.mem_of_getElem? wU);obtain⟨LU,on,rfl,mW⟩:=hn.at wU;(have Bv:cz σ LU on [i64 x0]:=by simpa using mW);rw[hA,K3];refine XA.bG rfl (by first|rfl|exact decide_eq_true h4) ?_;refine b9 ?_;refine zw rfl (aC.cE (Sk x0 W7) rfl) ?_;rintro _ dQ _ ⟨_,⟨rfl,bQ,VP,rfl⟩,rfl⟩;refine az.cl ?_;refine a8 ?_;exact ao.ret (aG.one rfl rfl) (aw.refl _) ⟨bQ,.inl ⟨rfl,Nat.le_trans VP (by decide),pt,ct,pi,ci,xv,b7,hi.mono bQ,qC,(hL.mono bQ).le (Nat.le_add_right _ _),rfl⟩⟩
 (first|refine XA.aY (R:=cM _ _ _ _) zL (cM.o) ?_|refine az.aY (R:=cM _ _ _ _) zL (cM.o) ?_|refine DA.aY (R:=cM _ _ _ _) zL (cM.o) ?_);rintro⟨u,q,cq⟩ hz;(first|refine XA.cl ?_|refine az.cl ?_|refine DA.cl ?_);refine XA.aR rfl (by first|rfl|exact decide_eq_false h4) ?_;refine aO ?_
 cases DE:d.tp with
 |none=>
  rw[DE] at hL;obtain⟨rfl,rfl⟩:=hL;(have hA:jV d w n=(d,[lZ]):=by rw[jV,if_neg (fun h=>h1 ⟨h.1,by omega⟩),if_neg h2,if_neg (fun h=>h3 ⟨h.1,by omega⟩),if_neg (fun h=>h4 ⟨h.1,by omega⟩),DE]);refine zO rfl (Rd.yi (ad rfl) rfl rfl) ?_;refine bq ?_;refine a8 ?_;exact ao.ret (aG.one rfl rfl) (aw.fold (S:=cM 49 gd [.slice pt d.text.length ct,.slice pi d.input.length ci,.pointer none] acc) (Θ:=[_,_]) (aw.refl _) (fun m hm=>⟨u,q,cq,hz,hm⟩) (aw.refl _)) ⟨.refl _,.inr ⟨rfl,hA,pt,ct,pi,ci,_,[],hi,qC,by rw[DE];exact⟨rfl,rfl⟩,rfl⟩⟩
 |some lf=>
  obtain⟨p,inp,L⟩:=lf;have Ej:=hL;rw[DE] at hL;obtain⟨gx,db,pb,pc,cc,gn,rfl,hc,LV,uW,cU,OR,W8,kI,SW⟩:=hL;(have hA:jV d w n=jK d p inp L w n:=by rw[jV,if_neg (fun h=>h1 ⟨h.1,by omega⟩),if_neg h2,if_neg (fun h=>h3 ⟨h.1,by omega⟩),if_neg (fun h=>h4 ⟨h.1,by omega⟩),DE]);rw[hA];refine zO rfl (Rd.yi (ad rfl) rfl rfl) ?_;refine bq ?_;refine bq ?_;refine az.eS (aw.fold (S:=cM 49 gd [.slice pt d.text.length ct,.slice pi d.input.length ci,(ptr gx)] acc) (Θ:=[au gd (k6 u gd::.slice q acc.size cq::[.slice pt d.text.length ct,.slice pi d.input.length ci,(ptr gx)]) 49,bn 5 1 (.slice q acc.size cq) acc.size (Lib.strCells acc)]) zD (fun m hm=>⟨u,q,cq,hz,hm⟩) (aw.refl _)) ?_;refine az.join (List.take_append_drop 7 _).symm [(55,61)] (fun _:Unit=>[(61,.bool (decide (w=oY∧(n.length:Int)=1)))]) (fun _ ag ah=>σ=ag∧ah=cM 49 gd [.slice pt d.text.length ct,.slice pi d.input.length ci,(ptr gx)] acc::bn 9 1 (.slice pt d.text.length ct) d.text.length (d.text.map Value.string)::b7) ?_ ?_
  ·by_cases hw:w=oY
   ·rw[show decide (w=oY∧(n.length:Int)=1)=decide ((n.length:Int)=1) from by rw[decide_eq_decide];exact⟨And.right,fun h=>⟨hw,h⟩⟩];refine b3 ?_;refine zO rfl (Rd.eE rfl rfl) ?_;refine bt ?_;refine⟨cF,(),_,zM,?_,⟨rfl,rfl⟩⟩
    ·exact aw.refl _
   ·rw[show decide (w=oY∧(n.length:Int)=1)=false from decide_eq_false (fun h=>hw h.1)];refine b3 ?_;refine zO rfl (Rd.eE rfl rfl) ?_;refine bt ?_;refine⟨cF,(),_,zM,?_,⟨rfl,rfl⟩⟩
    ·exact aw.refl _
  rintro-δ _ _ ⟨rfl,rfl⟩;dsimp only[eb,List.foldl];refine bq ?_;by_cases h5:w=oY∧(n.length:Int)=1
  ·obtain⟨x0,wU⟩:∃x,n[0]? =some x:=⟨_,List.getElem?_eq_getElem (by omega)⟩;(have K3:n.getD 0 0=x0:=by simp[List.getD,wU]);have W7:=E4 x0 (List.mem_of_getElem? wU);obtain⟨LU,on,rfl,mW⟩:=hn.at wU;(have Bv:cz σ LU on [i64 x0]:=by simpa using mW);(have zk:jK d p inp L w n=iz d p inp L ⟨1,x0,0,0⟩:=by rw[jK,if_pos ⟨h5.1,by omega⟩,K3]);rw[zk,nL d p inp L _ DE];have y7:=Bq σ gd (.slice pt d.text.length ct) (.slice pi d.input.length ci) acc d p inp L k ⟨1,x0,0,0⟩ gx db pb pc cc gn b7 (by show (0:Int)<9223372036854775808;decide) (Int.le_refl _) (by show (0:Int)<18446744073709551616;decide) hc LV cU (by omega) uW hT (by omega);obtain⟨g9,ZA,ZB,ZC,ZD,ZE,ZF,ZG,ZH,ZI,Sm,ZJ,ZK,ZL,rfl⟩:=LV;refine XA.bG rfl (by first|rfl|exact decide_eq_true h5) ?_;refine aO ?_;refine zw rfl (aC.cE (y7) rfl) ?_;rintro _ dQ _ ⟨_,⟨rfl,bQ,E1,ot,HK,mK,rfl⟩,rfl⟩;refine az.cl ?_;have rK:=mK;obtain⟨g8,ZM,ZN,ZO,ZP,ZQ,ZR,ZS,ZT,ZU,Sn,ZV,ZW,ZX,rfl⟩:=rK;(try dsimp only[List.append,List.cons_append,List.nil_append]);refine a8 ?_;refine ao.ret (aG.one rfl rfl) ?_ ⟨bQ,.inl ⟨rfl,qF d _ cU (by omega),pt,ct,pi,ci,ptr gx,_,hi.mono bQ,qC,qE _ (hc.mono bQ (fun _ _ h=>h)) mK HK cU (by omega) OR W8 kI SW (by rw[HI,if_pos ⟨.inl h5.1,by omega⟩];exact(qu _ cU (by omega)).2.1),rfl⟩⟩;exact zE
  refine XA.aR rfl (by first|rfl|exact decide_eq_false h5) ?_;refine aN ?_;refine az.join (List.take_append_drop 7 _).symm [(69,75)] (fun _:Unit=>[(75,.bool (decide (w=qv∧(n.length:Int)=1)))]) (fun _ ag ah=>σ=ag∧ah=cM 49 gd [.slice pt d.text.length ct,.slice pi d.input.length ci,(ptr gx)] acc::bn 9 1 (.slice pt d.text.length ct) d.text.length (d.text.map Value.string)::b7) ?_ ?_
  ·by_cases hw:w=qv
   ·rw[show decide (w=qv∧(n.length:Int)=1)=decide ((n.length:Int)=1) from by rw[decide_eq_decide];exact⟨And.right,fun h=>⟨hw,h⟩⟩];refine b3 ?_;refine zO rfl (Rd.eE rfl rfl) ?_;refine bt ?_;refine⟨cF,(),_,zM,?_,⟨rfl,rfl⟩⟩
    ·exact aw.refl _
   ·rw[show decide (w=qv∧(n.length:Int)=1)=false from decide_eq_false (fun h=>hw h.1)];refine b3 ?_;refine zO rfl (Rd.eE rfl rfl) ?_;refine bt ?_;refine⟨cF,(),_,zM,?_,⟨rfl,rfl⟩⟩
    ·exact aw.refl _
  rintro-δ _ _ ⟨rfl,rfl⟩;dsimp only[eb,List.foldl];refine bq ?_;by_cases h6:w=qv∧(n.length:Int)=1
  ·obtain⟨x0,wU⟩:∃x,n[0]? =some x:=⟨_,List.getElem?_eq_getElem (by omega)⟩;(have K3:n.getD 0 0=x0:=by simp[List.getD,wU]);have W7:=E4 x0 (List.mem_of_getElem? wU);obtain⟨LU,on,rfl,mW⟩:=hn.at wU;(have Bv:cz σ LU on [i64 x0]:=by simpa using mW);(have zk:jK d p inp L w n=iz d p inp L ⟨2,0,0,lj x0⟩:=by rw[jK,if_neg (fun h=>h5 ⟨h.1,by omega⟩),if_pos ⟨h6.1,by omega⟩,K3]);rw[zk,nL d p inp L _ DE];have y7:=Bq σ gd (.slice pt d.text.length ct) (.slice pi d.input.length ci) acc d p inp L k ⟨2,0,0,lj x0⟩ gx db pb pc cc gn b7 (by show (0:Int)<9223372036854775808;decide) (C7 _) (C8 _) hc LV cU (by omega) uW hT (by omega);obtain⟨g9,ZA,ZB,ZC,ZD,ZE,ZF,ZG,ZH,ZI,Sm,ZJ,ZK,ZL,rfl⟩:=LV;refine XA.bG rfl (by first|rfl|exact decide_eq_true h6) ?_;refine bt ?_;refine zw rfl (aC.cE (y7) rfl) ?_;rintro _ dQ _ ⟨_,⟨rfl,bQ,E1,ot,HK,mK,rfl⟩,rfl⟩;refine az.cl ?_;have rK:=mK;obtain⟨g8,ZM,ZN,ZO,ZP,ZQ,ZR,ZS,ZT,ZU,Sn,ZV,ZW,ZX,rfl⟩:=rK;(try dsimp only[List.append,List.cons_append,List.nil_append]);refine a8 ?_;refine ao.ret (aG.one rfl rfl) ?_ ⟨bQ,.inl ⟨rfl,qF d _ cU (by omega),pt,ct,pi,ci,ptr gx,_,hi.mono bQ,qC,qE _ (hc.mono bQ (fun _ _ h=>h)) mK HK cU (by omega) OR W8 kI SW ((qu (⟨2,0,0,lj x0⟩:oV) cU (by omega)).2.2.elim (fun h=>by rw[h];exact Nat.zero_le _) (fun h=>by have:((jB (ak p) inp ⟨2,0,0,lj x0⟩ L).2:Int)≤0:=h;omega)),rfl⟩⟩;exact zE
  refine XA.aR rfl (by first|rfl|exact decide_eq_false h6) ?_;refine aN ?_;refine az.join (List.take_append_drop 7 _).symm [(84,90)] (fun _:Unit=>[(90,.bool (decide (w=jJ∧(n.length:Int)=3)))]) (fun _ ag ah=>σ=ag∧ah=cM 49 gd [.slice pt d.text.length ct,.slice pi d.input.length ci,(ptr gx)] acc::bn 9 1 (.slice pt d.text.length ct) d.text.length (d.text.map Value.string)::b7) ?_ ?_
  ·by_cases hw:w=jJ
   ·rw[show decide (w=jJ∧(n.length:Int)=3)=decide ((n.length:Int)=3) from by rw[decide_eq_decide];exact⟨And.right,fun h=>⟨hw,h⟩⟩];refine b3 ?_;refine zO rfl (Rd.eE rfl rfl) ?_;refine bt ?_;refine⟨cF,(),_,zM,?_,⟨rfl,rfl⟩⟩
    ·exact aw.refl _
   ·rw[show decide (w=jJ∧(n.length:Int)=3)=false from decide_eq_false (fun h=>hw h.1)];refine b3 ?_;refine zO rfl (Rd.eE rfl rfl) ?_;refine bt ?_;refine⟨cF,(),_,zM,?_,⟨rfl,rfl⟩⟩
    ·exact aw.refl _
  rintro-δ _ _ ⟨rfl,rfl⟩;dsimp only[eb,List.foldl];refine bq ?_;by_cases h7:w=jJ∧(n.length:Int)=3
  ·obtain⟨x0,wU⟩:∃x,n[0]? =some x:=⟨_,List.getElem?_eq_getElem (by omega)⟩;(have K3:n.getD 0 0=x0:=by simp[List.getD,wU]);have W7:=E4 x0 (List.mem_of_getElem? wU);obtain⟨LU,on,rfl,mW⟩:=hn.at wU;(have Bv:cz σ LU on [i64 x0]:=by simpa using mW);obtain⟨x1,rH⟩:∃x,n[1]? =some x:=⟨_,List.getElem?_eq_getElem (by omega)⟩;(have AP:n.getD 1 0=x1:=by simp[List.getD,rH]);have hI1:=E4 x1 (List.mem_of_getElem? rH);obtain⟨aeb,on1,rN,Ox⟩:=hn.at rH;simp only[Option.some.injEq,Addr.mk.injEq,and_true] at rN;obtain⟨rfl,rfl⟩:=rN;(have ZY:cz σ LU (on+1) [i64 x1]:=by simpa using Ox);obtain⟨x2,WQ⟩:∃x,n[2]? =some x:=⟨_,List.getElem?_eq_getElem (by omega)⟩;(have Ih:n.getD 2 0=x2:=by simp[List.getD,WQ]);obtain⟨aec,on2,qI,Gq⟩:=hn.at WQ;simp only[Option.some.injEq,Addr.mk.injEq,and_true] at qI;obtain⟨rfl,rfl⟩:=qI;(have ZZ:cz σ LU (on+2) [i64 x2]:=by simpa using Gq);(have zk:jK d p inp L w n=iz d p inp L ⟨3,x0,x1,lj x2⟩:=by rw[jK,if_neg (fun h=>h5 ⟨h.1,by omega⟩),if_neg (fun h=>h6 ⟨h.1,by omega⟩),if_pos ⟨h7.1,by omega⟩,K3,AP,Ih]);rw[zk,nL d p inp L _ DE];have y7:=Bq σ gd (.slice pt d.text.length ct) (.slice pi d.input.length ci) acc d p inp L k ⟨3,x0,x1,lj x2⟩ gx db pb pc cc gn b7 (by have:=hI1.2;show x1<_;omega) (C7 _) (C8 _) hc LV cU (by omega) uW hT (by omega);obtain⟨g9,ZA,ZB,ZC,ZD,ZE,ZF,ZG,ZH,ZI,Sm,ZJ,ZK,ZL,rfl⟩:=LV;refine XA.bG rfl (by first|rfl|exact decide_eq_true h7) ?_;refine fZ 13 1083321 [12] (aw.nil _) ?_;refine bH ?_;refine aK.bj rfl rfl Gd.free (by kernel_rfl) (aC.cE (y7) rfl) ?_;rintro _ dQ _ ⟨_,⟨rfl,bQ,E1,ot,HK,mK,rfl⟩,rfl⟩;refine aK.cl ?_;have rK:=mK;obtain⟨g8,ZM,ZN,ZO,ZP,ZQ,ZR,ZS,ZT,ZU,Sn,ZV,ZW,ZX,rfl⟩:=rK;(try dsimp only[List.append,List.cons_append,List.nil_append]);refine a8 ?_;refine ao.ret (aG.one rfl rfl) ?_ ⟨bQ,.inl ⟨rfl,qF d _ cU (by omega),pt,ct,pi,ci,ptr gx,_,hi.mono bQ,qC,qE _ (hc.mono bQ (fun _ _ h=>h)) mK HK cU (by omega) OR W8 kI SW (by rw[HI,if_pos ⟨.inr h7.1,by omega⟩];exact(qu _ cU (by omega)).2.1),rfl⟩⟩;exact zE
  refine XA.aR rfl (by first|rfl|exact decide_eq_false h7) ?_;refine aN ?_;refine az.join (List.take_append_drop 7 _).symm [(105,111)] (fun _:Unit=>[(111,.bool (decide (w=Eu∧(n.length:Int)=0)))]) (fun _ ag ah=>σ=ag∧ah=cM 49 gd [.slice pt d.text.length ct,.slice pi d.input.length ci,(ptr gx)] acc::bn 9 1 (.slice pt d.text.length ct) d.text.length (d.text.map Value.string)::b7) ?_ ?_
  ·by_cases hw:w=Eu
   ·rw[show decide (w=Eu∧(n.length:Int)=0)=decide ((n.length:Int)=0) from by rw[decide_eq_decide];exact⟨And.right,fun h=>⟨hw,h⟩⟩];refine b3 ?_;refine zO rfl (Rd.eE rfl rfl) ?_;refine bt ?_;refine⟨cF,(),_,zM,?_,⟨rfl,rfl⟩⟩
    ·exact aw.refl _
   ·rw[show decide (w=Eu∧(n.length:Int)=0)=false from decide_eq_false (fun h=>hw h.1)];refine b3 ?_;refine zO rfl (Rd.eE rfl rfl) ?_;refine bt ?_;refine⟨cF,(),_,zM,?_,⟨rfl,rfl⟩⟩
    ·exact aw.refl _
  rintro-δ _ _ ⟨rfl,rfl⟩;dsimp only[eb,List.foldl];refine bq ?_;by_cases h8:w=Eu∧(n.length:Int)=0
  ·(have zk:jK d p inp L w n=(d,jI (uh L.b) L.b.out L.b.m.cells):=by rw[jK,if_neg (fun h=>h5 ⟨h.1,by omega⟩),if_neg (fun h=>h6 ⟨h.1,by omega⟩),if_neg (fun h=>h7 ⟨h.1,by omega⟩),if_pos ⟨h8.1,by omega⟩]);rw[zk];have Z0:=R5 σ gx db pb pc cc (sizes p.vars).toNat p inp L gn k b7 LV cU (by omega) cU.iy.cells.symm;have aed:=LV;(have hcz:L.b.m.cells.length≤48:=by rw[cU.iy.cells];have:=(dr cU.iy.ch).2.2.2;omega);have Ib:=cU.iy.ol;obtain⟨g9,ZA,ZB,ZC,ZD,ZE,ZF,ZG,ZH,ZI,Sm,ZJ,ZK,ZL,rfl⟩:=LV;(first|refine XA.aY (R:=cM _ _ _ _) zL (cM.o) ?_|refine az.aY (R:=cM _ _ _ _) zL (cM.o) ?_|refine DA.aY (R:=cM _ _ _ _) zL (cM.o) ?_);rintro⟨u,q,cq⟩ hz;(first|refine XA.cl ?_|refine az.cl ?_|refine DA.cl ?_);refine XA.bG rfl (by first|rfl|exact decide_eq_true h8) ?_;refine aO ?_;refine zw rfl (aC.cE (Z0) rfl) ?_;rintro _ dQ _ ⟨_,⟨po,co,pv,cv,rfl,Zi,WW,bQ,mK⟩,rfl⟩;refine az.cl ?_;have rK:=mK;obtain⟨g8,ZM,ZN,ZO,ZP,ZQ,ZR,ZS,ZT,ZU,Sn,ZV,ZW,ZX,rfl⟩:=rK;(try dsimp only[List.append,List.cons_append,List.nil_append]);refine az.eS (aw.fold (S:=cM 49 gd [.slice pt d.text.length ct,.slice pi d.input.length ci,(ptr gx)] acc) (Θ:=[au gd (k6 u gd::.slice q acc.size cq::[.slice pt d.text.length ct,.slice pi d.input.length ci,(ptr gx)]) 49,bn 5 1 (.slice q acc.size cq) acc.size (Lib.strCells acc)]) zD (fun m hm=>⟨u,q,cq,hz,hm⟩) (aw.refl _)) ?_;refine zw rfl (aC.cE (yO dQ gd _ _ _ acc (uh L.b) _ _ L.b.out L.b.m.cells (HJ _) Zi WW (hT.mono bQ) OR.out OR.m.2 (by omega) (by omega) (by omega)) rfl) ?_;rintro _ dq _ ⟨_,⟨rfl,bT,rfl⟩,rfl⟩;refine az.cl ?_;refine a8 ?_;refine ao.ret (aG.one rfl rfl) ?_ ⟨bQ.trans bT,.inl ⟨rfl,(by have:=ry (HJ L.b) OR.out OR.m.2;show told (jI (uh L.b) L.b.out L.b.m.cells)≤_;omega),pt,ct,pi,ci,ptr gx,_,hi.mono (bQ.trans bT),qC,by rw[DE];exact⟨gx,db,pb,pc,cc,gn,rfl,hc.mono (bQ.trans bT) (fun _ _ h=>h),mK.mono bT,by omega,cU.le (Nat.le_add_right _ _),OR,W8,kI,SW⟩,rfl⟩⟩;exact zE
  ·(have zk:jK d p inp L w n=(d,[lZ]):=by rw[jK,if_neg (fun h=>h5 ⟨h.1,by omega⟩),if_neg (fun h=>h6 ⟨h.1,by omega⟩),if_neg (fun h=>h7 ⟨h.1,by omega⟩),if_neg (fun h=>h8 ⟨h.1,by omega⟩)]);refine XA.aR rfl (by first|rfl|exact decide_eq_false h8) ?_;refine bC ?_;exact ao.ret (aG.one rfl rfl) (aw.refl _) ⟨.refl _,.inr ⟨rfl,zk,pt,ct,pi,ci,_,b7,hi,qC,Ej,rfl⟩⟩
theorem X.Rd.VQ {P:Program} {ρ:Env} {S:Heap→Prop} {ty:TypeId} {T:TypeId} {x y:Operand} {r:Ty} {s t:ByteArray} {i:Int} (hT:av P T=some r) (hk:r.k=.string) (hx:ev ρ x=.string s) (hy:ev ρ y=i64 i) (h:0≤i∧i≤s.size) (ht:s.extract i.toNat s.size=t):Rd P ρ S (.slice T x (some y) none none) ty (.string t):=by
 subst ht;(refine .pure fun d pos af gd w=>?_);obtain⟨dd,ii,zz,e1,e2,-⟩:=aD hT;rw[hk] at e2;(cases dd<;>simp[kindOf] at e2);have:=run_slice_string_from_if (P:=P) w T s .i64 i e1;rw[if_pos h] at this;have h2:=run_sliceAt_string (P:=P) w T (.string s) (some (i64 i)) none none e1;rw[this] at h2;simp[execOp,hx,hy,h2]
theorem HL {α:Type} {R:RT α} {σ:PH} {p:Option Addr} {c:Nat} {t:α} {r:List α} (h:bO 1 R σ (.slice p (t::r).length c) (t::r)):bO 1 R σ (.slice (if c=1 then p else p.map (·.add (1*1))) ((t::r).length-1) (c-1)) r:=by
 obtain⟨p',c',rows,h1,h2,h3,h4,h5,h6,h7⟩:=h;simp only[Value.slice.injEq] at h1;obtain⟨rfl,-,rfl⟩:=h1;obtain⟨g,o,rfl,hr⟩:=h7 (by simp)
 match rows,h4 with
 |row::rows,h4=>
  have hl:=h5 row (by simp);simp only[List.length_cons] at h2 h4;refine⟨_,_,rows,by rw[List.length_cons,Nat.add_sub_cancel],by omega,by omega,by omega,fun q hq=>h5 q (by simp[hq]),fun i q x a b=>h6 (i+1) q x (by simpa using a) (by simpa using b),fun hp=>?_⟩;refine⟨g,o+1,by rw[if_neg (by omega),Option.map_some,addr_add],?_⟩;refine hr.sub (j:=1) ?_;rw[List.flatten_cons,←hl,List.drop_left,List.take_of_length_le (Nat.le_refl _)]
theorem LW {g n c:Nat} {e:TypeId} {cells xs:List Value} (hl:cells.length=c) (hn:n≤c) (hc:c≤maxLen) (ht:cells.take n=xs):∀m,au g cells e m→bn e 1 (.slice (some ⟨g,0,none⟩) n c) n xs m:=fun m h=>⟨by rw[←ht,List.length_take];omega,.inr ⟨g,c,rfl,cells,h,hn,hc,by omega,by rw[Nat.mul_one];exact ht⟩⟩
theorem aw.VR {Γ:List HP}:aw Γ (Γ++[]):=by rw[List.append_nil];exact aw.refl _
theorem ku.mono {σ ag:PH} {gd:Nat} {d:jT} {acc:ByteArray} {k:Nat} {Γ:List HP} (h:ku σ gd d acc k Γ) (hs:σ.sub ag):ku ag gd d acc k Γ:=by
 obtain⟨pt,ct,pi,ci,xv,b7,a,b,c,d⟩:=h;exact⟨pt,ct,pi,ci,xv,b7,a.mono hs,b,c.mono hs,d⟩
theorem ku.le {σ:PH} {gd:Nat} {d:jT} {acc:ByteArray} {k l:Nat} {Γ:List HP} (h:ku σ gd d acc k Γ) (hs:k≤l):ku σ gd d acc l Γ:=by
 obtain⟨pt,ct,pi,ci,xv,b7,a,b,c,d⟩:=h;exact⟨pt,ct,pi,ci,xv,b7,a,b,c.le hs,d⟩
theorem HM {l:List UInt8}:∀{w:List UInt8} {x:ByteArray},x∈dN l w→x.size≤w.length+l.length:=by
 induction l with
 |nil=>
  intro w x h;rw[dN] at h;split at h
  ·cases h
  ·rw[List.mem_singleton] at h;subst h;exact Nat.le_refl _
 |cons c r ih=>
  intro w x h;rw[dN] at h;split at h
  ·split at h
   ·have:=ih h;simp only[List.length_nil,List.length_cons] at this⊢;omega
   ·rcases List.mem_cons.1 h with rfl|h
    ·show w.length≤_;omega
    ·have:=ih h;simp only[List.length_nil,List.length_cons] at this⊢;omega
  ·have:=ih h;simp only[List.length_append,List.length_cons,List.length_nil] at this⊢;omega
theorem Bw {l:List UInt8}:∀{w:List UInt8},(dN l w).length≤l.length+1:=by
 induction l with
 |nil=>intro w;rw[dN];split<;>simp
 |cons c r ih=>
  intro w;rw[dN];split
  ·split
   ·have:=ih (w:=[]);simp only[List.length_cons] at this⊢;omega
   ·have:=ih (w:=[]);simp only[List.length_cons] at this⊢;omega
  ·have:=ih (w:=w++[c]);simp only[List.length_cons] at this⊢;omega
theorem y8 {s x:ByteArray} (h:x∈eu s):x.size≤s.size:=by
 have:=HM h
 rwa [List.length_nil,Nat.zero_add,Array.length_toList] at this
theorem EB (s:ByteArray):(eu s).length≤s.size+1:=by
 have:=Bw (l:=s.data.toList) (w:=[])
 rwa [Array.length_toList] at this
theorem So (σ:PH) (gd:Nat) (d:jT) (acc:ByteArray) (k:Nat) (s:ByteArray) (Γ:List HP) (hD:ku σ gd d acc k Γ) (hx:tE d.text) (hs:s.size≤1000000) (hT:rP σ) (hE:lp σ) (hk:k+3000≤160000) (hb:acc.size+4000000≤1000000000):
 ae Tryz.prog 14 #[ptr gd,.string s] σ Γ (aE fun v ag ah=>v=.tuple #[]∧σ.sub ag∧told (fQ d s).2≤4000000∧ku ag gd (fQ d s).1 (cZ acc (fQ d s).2) (k+pw s) ah):=by
 by_cases h1:0<s.size∧bc s 0=124
 ·(have hA:fQ d s=({d with text:=d.text++[s.extract 1 s.size]},[]):=by rw[fQ,if_pos h1]);rw[hA];obtain⟨pt,ct,pi,ci,xv,b7,hi,qC,hL,rfl⟩:=hD;have SB:=hx.n;have h0:=h1.1;(have W6:((s.size:Nat):Int)>0:=by omega);(have Z1:((bc s 0:Nat):Int)=124:=by rw[h1.2];rfl);refine bS Tryz.func14 ?_;refine bC ?_;(first|(refine zG ?_;refine zO rfl (Rd.dS (ad rfl) rfl rfl rfl (by first|omega|decide|(simp;omega))) ?_)|refine zH ?_);refine bM ?_;(first|refine XA.aY (R:=cM _ _ _ _) zL (cM.o) ?_|refine az.aY (R:=cM _ _ _ _) zL (cM.o) ?_|refine DA.aY (R:=cM _ _ _ _) zL (cM.o) ?_);rintro⟨u,q,cq⟩ hz;(first|refine XA.cl ?_|refine az.cl ?_|refine DA.cl ?_);refine XA.bG rfl (by first|rfl|exact decide_eq_true Z1) ?_;refine b3 ?_;refine fZ 12 371871 [8,11] (aw.bP (R:=au gd _ _) zL (aw.nil _)) ?_;refine aO ?_;refine zu rfl rfl (X.Rd.VQ (ad rfl) rfl rfl rfl ⟨by decide,by omega⟩ rfl) ?_;refine aK.fL rfl rfl Gd.free (aC.qO (ad rfl) rfl (ad rfl)) ?_;rintro _ _ _ ⟨g22,rfl,rfl,rfl⟩;refine stays ?_;refine aK.bj rfl rfl Gd.free (by kernel_rfl) (aC.tS (ad rfl) rfl (ad rfl) rfl rfl rfl) ?_;rintro _ _ _ ⟨Z2,Z3,rfl,rfl,rfl⟩;refine aN ?_;refine aK.bj rfl rfl Gd.free (by kernel_rfl) (aC.st (ad rfl) rfl) ?_;rintro _ _ _ ⟨rfl,rfl,rfl⟩;refine bM ?_;(have hlen:(d.text++[s.extract 1 s.size]).length=d.text.length+1:=by simp);(have Z4:(d.text++[s.extract 1 s.size]).map Value.string=d.text.map Value.string++[.string (s.extract 1 s.size)]:=by simp);refine ao.ret (ah:=cM 49 gd [.slice Z2 (d.text.length+1) Z3,.slice pi d.input.length ci,xv] acc::bn 9 1 (.slice Z2 (d.text.length+1) Z3) (d.text.length+1) (d.text.map Value.string++[.string (s.extract 1 s.size)])::b7) (aG.none rfl) ?_ ⟨rfl,.refl _,Nat.zero_le _,Z2,Z3,pi,ci,xv,b7,hi,qC,hL.le (Nat.le_add_right _ _),by simp only[hlen,Z4];rfl⟩;exact aw.fold (Θ:=[au gd _ 49,bn 5 1 _ _ _]) zD (fun m hm=>⟨u,q,cq,hz,hm⟩) (aw.refl _)
 ·have tR:(iF s).length≤200000000:=by
   rw[nH];have:=Lib.countB_le ⟨#[32]⟩ (by decide) s.size s (Nat.le_refl _);omega
  (have VT:=fun g=>LR σ g (iF s) tR);rw[show pC (iF s)=eu s from yJ s] at VT;have hwl:=EB s;(have h1':¬(((bc s 0:Nat):Int)=124∧((s.size:Nat):Int)>0):=fun h=>h1 ⟨by omega,by omega⟩);refine bS Tryz.func14 ?_;refine bq ?_;refine az.join (List.take_append_drop 8 _).symm [(7,14)] (fun _:Unit=>[(14,.bool (decide (((bc s 0:Nat):Int)=124∧((s.size:Nat):Int)>0)))]) (fun _ ag ah=>σ=ag∧ah=Γ) ?_ ?_
  ·by_cases h0:((s.size:Nat):Int)>0
   ·rw[show decide (((bc s 0:Nat):Int)=124∧((s.size:Nat):Int)>0)=decide (((bc s 0:Nat):Int)=124) from by rw[decide_eq_decide];exact⟨And.left,fun h=>⟨h,h0⟩⟩];refine b9 ?_;(first|(refine zG ?_;refine zO rfl (Rd.dS (ad rfl) rfl rfl rfl (by first|omega|decide|(simp;omega))) ?_)|refine zH ?_);refine bM ?_;refine⟨cF,(),_,zM,?_,⟨rfl,rfl⟩⟩
    ·exact aw.refl _
   ·rw[show decide (((bc s 0:Nat):Int)=124∧((s.size:Nat):Int)>0)=false from decide_eq_false (fun h=>h0 h.2)];refine b9 ?_;(first|(refine zG ?_;refine zO rfl (Rd.dS (ad rfl) rfl rfl rfl (by first|omega|decide|(simp;omega))) ?_)|refine zH ?_);refine bM ?_;refine⟨cF,(),_,zM,?_,⟨rfl,rfl⟩⟩
    ·exact aw.refl _
  rintro-δ _ _ ⟨rfl,rfl⟩;dsimp only[eb,List.foldl];refine aN ?_;refine XA.aR rfl (by first|rfl|exact decide_eq_false h1') ?_;refine b9 ?_;refine zw rfl (aC.cE (LF σ s (by omega)) rfl) ?_;rintro _ _ _ ⟨_,⟨g,rfl,rfl,rfl⟩,rfl⟩;refine az.cl ?_;refine zw rfl (aC.cE (VT g) rfl) ?_;rintro _ _ _ ⟨_,⟨cells,rfl,xU,Yt,AI,rfl,rfl⟩,rfl⟩;refine az.cl ?_;refine az.eS (aw.imp b6.head (LW xU AI (by simp only[maxLen];omega) Yt) (aw.refl _)) ?_;refine az.qM (R:=bn 9 1 _ _ _) zL dp aU ?_;rintro dQ ⟨⟩ hf bQ;have AE:=o8 (fun x hx=>by have:=y8 hx;simp only[maxLen];omega) rfl hf;have hD1:=hD.mono bQ;have qJ:=hT.mono bQ;have Ij:=hE.mono bQ
  cases hW:eu s with
  |nil=>
   (have hA:fQ d s=(d,[]):=by rw[fQ,if_neg h1,hW]);rw[hA];refine cg ?_;refine XA.bG rfl (by first|rfl|exact decide_eq_true (by rw[hW];rfl)) ?_;refine aN ?_;exact ao.ret (aG.none rfl) (aw.refl _) ⟨rfl,bQ,Nat.zero_le _,hD1.le (Nat.le_add_right _ _)⟩
  |cons w r=>
   rw[hW] at AE hwl;obtain⟨gw,ow,Z5,e0,⟨rfl,-⟩,-,HN⟩:=AE.at (k:=0) (x:=w) rfl;simp only[Option.some.injEq,Addr.mk.injEq,and_true] at e0;obtain⟨rfl,rfl⟩:=e0;(have HO:cz dQ g 0 [.string w]:=by simpa using HN);have VU:=HL AE;(have fW:¬(((w::r).length:Nat):Int)=0:=by rw[List.length_cons];omega);have kI:(0:Int)≤0∧(0:Int)<(((w::r).length:Nat):Int):=⟨by omega,by rw[List.length_cons];omega⟩;rw[List.length_cons] at hwl;have vC:=EA dQ _ r VU (fun x hx=>by have:=y8 (s:=s) (x:=x) (by rw[hW];exact List.mem_cons_of_mem _ hx);omega) (by omega) qJ Ij;refine cg ?_;refine XA.aR rfl (by first|rfl|exact decide_eq_false fW) ?_;refine b9 ?_;refine zO rfl (Rd.pM (ad rfl) rfl (ad rfl) rfl rfl rfl (by rw[List.length_cons];omega)) ?_;refine zw rfl (aC.cE (vC) rfl) ?_;rintro v dq _ ⟨_,⟨bT,rfl,Sl⟩,rfl⟩;refine az.cl ?_;have EY:=hD1.mono bT;have pE:=qJ.mono bT;have Du:=Ij.mono bT;rcases Sl with ⟨xd,rfl⟩|⟨n,pn,cn,Z6,E4,Zs,rfl,hnP⟩
   ·(have hA:fQ d s=(d,[lZ]):=by rw[fQ,if_neg h1,hW];simp only;rw[xd]);rw[hA];obtain⟨pt,ct,pi,ci,xv,b7,hi,qC,hL,rfl⟩:=EY;refine dE ?_;(first|refine zH ?_);refine bM ?_;refine bq ?_;refine zw rfl (aC.qO (ad rfl) rfl (ad rfl)) ?_;rintro _ _ _ ⟨g50,rfl,rfl,rfl⟩;refine zw rfl (aC.cE (yN dq gd _ _ _ acc _ lZ (by show acc.size+4+1≤_;omega)) rfl) ?_;rintro _ lB _ ⟨_,⟨rfl,fc,rfl⟩,rfl⟩;refine az.cl ?_;refine b3 ?_;exact ao.normal (aG.none rfl) (aw.refl _) ⟨rfl,bQ.trans (bT.trans fc),(by show told [lZ]≤_;decide),pt,ct,pi,ci,xv,b7,hi.mono fc,qC,(hL.mono fc).le (Nat.le_add_right _ _),rfl⟩
   ·(have hA:fQ d s=jV d w n:=by rw[fQ,if_neg h1,hW];simp only;rw[Z6]);rw[hA];have Z7:=HO.mono bT
    have tJ:HI w n≤pw s:=by
     rw[pw,hW,HI];simp only;split
     ·rename_i hq;rw[if_pos ⟨hq.1,by omega⟩];exact Nat.le_refl _
     ·exact Nat.zero_le _
    refine dE ?_;(first|refine az.wanted rfl rfl ?_|refine az.wq rfl rfl ?_);refine zw rfl (aC.cE (VN dq gd d acc k w n pn cn _ EY hx hnP E4 pE Du hk hb) rfl aw.VR) ?_;rintro v4 lB _ ⟨Γ3,⟨fc,Z8⟩,rfl⟩;refine az.eS (by rw[List.append_nil];exact aw.refl _) ?_;rcases Z8 with ⟨rfl,htl,QZ⟩|⟨rfl,zk,QZ⟩
    ·refine bM ?_;refine aN ?_;exact ao.normal (aG.none rfl) (aw.refl _) ⟨rfl,bQ.trans (bT.trans fc),htl,QZ.le (by omega)⟩
    ·rw[zk];obtain⟨pt,ct,pi,ci,xv,b7,hi,qC,hL,rfl⟩:=QZ;refine bM ?_;refine bq ?_;refine zw rfl (aC.qO (ad rfl) rfl (ad rfl)) ?_;rintro _ _ _ ⟨g50,rfl,rfl,rfl⟩;refine zw rfl (aC.cE (yN lB gd _ _ _ acc _ lZ (by show acc.size+4+1≤_;omega)) rfl) ?_;rintro _ LB _ ⟨_,⟨rfl,oW,rfl⟩,rfl⟩;refine az.cl ?_;refine b3 ?_;exact ao.normal (aG.none rfl) (aw.refl _) ⟨rfl,bQ.trans (bT.trans (fc.trans oW)),(by show told [lZ]≤_;decide),pt,ct,pi,ci,xv,b7,hi.mono oW,qC,(hL.mono oW).le (Nat.le_add_right _ _),rfl⟩
end Go.Proofs.YtgeoiflbjcehcaaGreatDoor
