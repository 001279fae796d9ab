import Derived.Test.YtgeoiflbjcehcaaGreatDoorDd17
set_option maxHeartbeats 4000000
set_option maxRecDepth 2000
set_option linter.unusedVariables false
set_option linter.unusedSimpArgs false
namespace Go.Proofs.YtgeoiflbjcehcaaGreatDoor
open Go X
section
variable {C:List In} {inp:List Int}
def iz (C:List In) (inp:List Int) (f:Nat) (b:Be) (f':Nat) (b':Be):Prop:=f'≤f∧runM C inp f b=((runM C inp f' b').1,(runM C inp f' b').2+(f-f'))
theorem iz.refl (f:Nat) (b:Be):iz C inp f b f b:=⟨bX _,aZ⟩
theorem iz.trans {f f1 f2:Nat} {b b1 b2:Be} (h:iz C inp f b f1 b1) (k:iz C inp f1 b1 f2 b2):iz C inp f b f2 b2:=by
 refine⟨Nat.le_trans k.1 h.1,?_⟩;rw[h.2,k.2];have:=h.1;have:=k.1;simp only[Prod.mk.injEq,true_and];omega
theorem iz.step {f:Nat} {b:Be} {x:In} (h0:b.m.st=0) (hx:C[b.m.next]? =some x):iz C inp (f+1) b f (aN inp false x (bump b)):=by
 refine⟨Nat.le_succ _,?_⟩;rw[runM,ag (by rw[h0];simp),cW,hx];simp
def CJ (C:List In) (pc:Nat) (L:List In):Prop:=∀i x,L[i]? =some x→C[pc+i]? =some x
theorem CJ.left {pc:Nat} {L M:List In} (h:CJ C pc (L++M)):CJ C pc L:=fun i x hx=>h i x (by rw[List.getElem?_append_left (List.getElem?_eq_some_iff.1 hx).1];exact hx)
theorem CJ.right {pc:Nat} {L M:List In} (h:CJ C pc (L++M)):CJ C (pc+L.length) M:=fun i x hx=>by
 rw[Nat.add_assoc];exact h _ x (by rw[List.getElem?_append_right (Nat.le_add_right _ _),Nat.add_sub_cancel_left];exact hx)
theorem CJ.one {pc:Nat} {x:In} (h:CJ C pc [x]):C[pc]? =some x:=h 0 x rfl
def gI (b:Be) (n:Nat) (st:List Int):Be:={b with m:={b.m with next:=n,stack:=st}}
def Fin (c:Int) (f:Nat) (b:Be):Prop:=(c=13∧f=0∧b.m.st=0)∨((c=11∨c=12)∧b.m.st=c+2)
def RF (b:Be) (c:Int) (f:Nat) (b':Be):Prop:=b'.m.cells=b.m.cells∧b'.out=b.out∧b'.wrong=b.wrong∧Fin c f b'
def MO (C:List In) (inp:List Int) (vs:List Va) (x:Ex):Prop:=∀(pc:Nat) (b:Be) (f:Nat),CJ C pc (ay vs x)→b.m.next=pc→b.m.st=0→
 (∀v f',dx vs b.m.cells x f=.ok (v,f')→iz C inp f b f' (gI b (pc+(ay vs x).length) (v::b.m.stack)))∧
 (∀c f',dx vs b.m.cells x f=.error (c,f')→∃b',iz C inp f b f' b'∧RF b c f' b')
theorem Il (vs:List Va):∀(l:List Ex),(∀x∈l,MO C inp vs x)→∀(pc:Nat) (b:Be) (f:Nat),CJ C pc (bO vs l)→b.m.next=pc→b.m.st=0→
 (∀xs f',eK vs b.m.cells l f=.ok (xs,f')→iz C inp f b f' (gI b (pc+(bO vs l).length) (xs.reverse++b.m.stack)))∧
 (∀c f',eK vs b.m.cells l f=.error (c,f')→∃b',iz C inp f b f' b'∧RF b c f' b')
 |[],_,pc,b,f,_,hn,_=>by
  refine⟨fun xs f' h=>?_,fun c f' h=>(by cases h)⟩;cases h;(have:gI b (pc+(bO vs []).length) ([].reverse++b.m.stack)=b:=by subst hn;rfl);rw[this];exact iz.refl _ _
 |x::l,hx,pc,b,f,hC,hn,h0=>by
  rw[bO] at hC⊢;obtain⟨h1,h2⟩:=hx x aZ pc b f hC.left hn h0;rw[eK]
  cases e1:dx vs b.m.cells x f with
  |error q=>
   obtain⟨c,k⟩:=q;refine⟨fun xs f' h=>(by cases h),fun c' f' h=>?_⟩;cases h;exact h2 _ _ e1
  |ok q=>
   obtain⟨v,f1⟩:=q;have g1:=h1 _ _ e1;obtain⟨k1,k2⟩:=Il vs l (fun y hy=>hx y (by simp[hy])) (pc+(ay vs x).length) (gI b (pc+(ay vs x).length) (v::b.m.stack)) f1 hC.right rfl h0;change (∀xs f',eK vs b.m.cells l f1=_→_) at k1;change (∀c f',eK vs b.m.cells l f1=_→_) at k2;simp only
   cases e2:eK vs b.m.cells l f1 with
   |error q=>
    obtain⟨c,k⟩:=q;refine⟨fun xs f' h=>(by cases h),fun c' f' h=>?_⟩;cases h;obtain⟨b',g2,s2⟩:=k2 _ _ e2;exact⟨b',g1.trans g2,s2⟩
   |ok q=>
    obtain⟨xs,f2⟩:=q;refine⟨fun ys f' h=>?_,fun c' f' h=>(by cases h)⟩;cases h;have g2:=g1.trans (k1 _ _ e2)
    have e:gI (gI b (pc+(ay vs x).length) (v::b.m.stack)) (pc+(ay vs x).length+(bO vs l).length) (xs.reverse++(v::b.m.stack))=gI b (pc+(ay vs x++bO vs l).length) ((v::xs).reverse++b.m.stack):=by
     simp only[gI,bq,List.reverse_cons,List.append_assoc,List.cons_append,List.nil_append,Nat.add_assoc]
    rw[←e];exact g2
theorem TY (vs:List Va) (x:Ex) {nv:Nat}:uo nv x→MO C inp vs x:=by
 refine Ex.ind (P:=fun x=>uo nv x→MO C inp vs x) ?_ x;intro op v n l ih hV pc b f hC hn h0;rw[uo] at hV;obtain⟨uF,Rz,-,-,F8⟩:=hV;rw[ay] at hC⊢;obtain⟨h1,h2⟩:=Il vs l (fun y hy=>ih y hy (F8.mem y hy)) pc b f hC.left hn h0;have hx:=(hC.right).one;rw[dx]
 cases e1:eK vs b.m.cells l f with
 |error q=>
  obtain⟨c,k⟩:=q;refine⟨fun xs f' h=>(by cases h),fun c' f' h=>?_⟩;cases h;exact h2 _ _ e1
 |ok q=>
  obtain⟨xs,f1⟩:=q;have g1:=h1 _ _ e1;have hlen:=Tx vs b.m.cells l f e1
  cases f1 with
  |zero=>
   refine⟨fun v f' h=>(by cases h),fun c' f' h=>?_⟩;cases h;exact⟨_,g1,rfl,rfl,rfl,.inl ⟨rfl,rfl,h0⟩⟩
  |succ f1=>
   have g2:=g1.trans (iz.step (f:=f1) (b:=gI b (pc+(bO vs l).length) (xs.reverse++b.m.stack)) h0 hx);(have hof:yc (f1+1)=.ok f1:=by simp[yc]);simp only[hof];(have Im:(pc+(bO vs l).length)+1=pc+(bO vs l++[ly vs op v n]).length:=by rw[bq,dZ,Nat.add_assoc]);(have zf:(xs.length:Int)=partsOf op:=by rw[hlen];exact Rz);by_cases q1:op=1
   ·subst q1;obtain rfl:xs=[]:=List.eq_nil_of_length_eq_zero (by have:partsOf 1=0:=rfl;omega);refine⟨fun w f' h=>?_,fun c' f' h=>(by cases h)⟩;cases h;rw[←Im];exact g2
   by_cases q2:op=2
   ·subst q2;obtain rfl:xs=[]:=List.eq_nil_of_length_eq_zero (by have:partsOf 2=0:=rfl;omega);refine⟨fun w f' h=>?_,fun c' f' h=>(by cases h)⟩;cases h;rw[←Im];exact g2
   by_cases q3:op=3
   ·subst q3
    obtain⟨a,rfl⟩:∃a,xs=[a]:=by
     match xs,zf with
     |[a],_=>exact⟨a,rfl⟩
     |[],h=>exact absurd h au
     |_::_::_,h=>have:partsOf 3=1:=rfl;rw[this,bF,bF] at h;omega
    by_cases hk:a<0∨ir vs v≤a
    ·have hr:mT vs b.m.cells 3 v n [a] f1=.error (11,f1):=aq hk;rw[hr];refine⟨fun w f' h=>(by cases h),fun c' f' h=>?_⟩;cases h;have e:aN inp false (ly vs 3 v n) (bump (gI b (pc+(bO vs l).length) ([a].reverse++b.m.stack)))={b with m:={b.m with next:=pc+(bO vs l).length+1,stack:=b.m.stack,st:=13}}:=aq hk;rw[e] at g2;exact⟨_,g2,rfl,rfl,rfl,.inr ⟨au,rfl⟩⟩
    ·have hr:mT vs b.m.cells 3 v n [a] f1=.ok (b.m.cells.getD (cellOf vs v+a).toNat 0,f1):=ag hk;rw[hr];refine⟨fun w f' h=>?_,fun c' f' h=>(by cases h)⟩;cases h;have e:aN inp false (ly vs 3 v n) (bump (gI b (pc+(bO vs l).length) ([a].reverse++b.m.stack)))=gI b (pc+(bO vs l).length+1) (b.m.cells.getD (cellOf vs v+a).toNat 0::b.m.stack):=ag hk;rw[e] at g2;rw[←Im];exact g2
   (have y5:4≤op∧op≤8:=by omega);have Fa:partsOf op=2:=by rw[partsOf,ag ad,ag q3,aq y5]
   obtain⟨a,c,rfl⟩:∃a c,xs=[a,c]:=by
    match xs,zf with
    |[a,c],_=>exact⟨a,c,rfl⟩
    |[],h=>rw[Fa] at h;simp at h
    |[_],h=>rw[Fa] at h;simp at h
    |_::_::_::_,h=>rw[Fa,bF,bF,bF] at h;omega
   (have hr:mT vs b.m.cells op v n [a,c] f1=.ok (il op a c,f1):=by rw[mT,ag q1,ag q2,ag q3];rfl);rw[hr];refine⟨fun w f' h=>?_,fun c' f' h=>(by cases h)⟩;cases h
   have MP:∀(b1:Be) (s:List Int),b1.m.stack=c::a::s→aN inp false (ly vs op v n) b1={b1 with m:={b1.m with stack:=il op a c::s}}:=fun b1 s hs=>by
    rw[aN];simp only[Mp,ag q1,ag q2,ag q3,aq y5,hs]
   have e:=MP (bump (gI b (pc+(bO vs l).length) ([a,c].reverse++b.m.stack))) b.m.stack rfl;rw[e] at g2;rw[←Im];exact g2
end
structure BY (p:Pr) (inp:List Int) (o:Nat) (m:Mi):Prop where
 at_:m.st=0→m.next<(ak p).length∧(m.stack.length:Int)=pq ((ak p).take m.next)
 cells:m.cells.length=(sizes p.vars).toNat
 outn:m.outn≤o
 rd:m.rd≤inp.length
theorem MQ {p:Pr} (hc:bZ p=0) {i:Nat} (hi:i<(ak p).length):pq ((ak p).take i)≤24:=by
 cases i with
 |zero=>rw[List.take_zero,wJ];decide
 |succ j=>
  obtain⟨x,hx⟩:∃x,(ak p)[j]? =some x:=⟨_,b9 ad⟩;exact(yl hc hx).2.1
theorem BY.ok {p:Pr} {inp:List Int} {b:Be} (hc:bZ p=0) (h:BY p inp b.out.length b.m) (h0:b.m.st=0) (hi:inp.length≤1000000) (ho:b.out.length≤1000000) (hl:(ak p).length≤1000000):∃x,np (ak p) inp b x:=by
 obtain⟨h1,h2⟩:=h.at_ h0;obtain⟨x,hx⟩:∃x,(ak p)[b.m.next]? =some x:=⟨_,b9 h1⟩;obtain⟨f1,f2,f3,f4,f5⟩:=yl hc hx;obtain⟨-,-,mK,y5⟩:=dw hc;have h24:=MQ hc h1;have fG:=h.cells;have oY:=h.rd;have um:(0:Int)≤sizes p.vars:=ef mK;refine⟨x,h0,hx,ad,?_,fun ho=>?_,ad,ad,hl,ad,ho,h.outn⟩
 ·rw[show ((b.m.cells.length:Nat):Int)=sizes p.vars by omega];exact f5
 ·obtain⟨j,e,-⟩:=AJ hc (fg hx) ho;omega
theorem BY.step {p:Pr} {inp:List Int} {b:Be} {x:In} {keep:Bool} (hc:bZ p=0) (h:BY p inp b.out.length b.m) (hk:np (ak p) inp b x):
 BY p inp (cW (ak p) inp keep b).out.length (cW (ak p) inp keep b).m∧b.out.length≤(cW (ak p) inp keep b).out.length∧(cW (ak p) inp keep b).out.length≤b.out.length+1∧((cW (ak p) inp keep b).kept=b.kept∨(cW (ak p) inp keep b).kept=(cW (ak p) inp keep b).m∧(cW (ak p) inp keep b).m.st=0):=by
 obtain⟨⟨next,stack,rd,outn,st,cells⟩,kept,out,wrong⟩:=b;obtain⟨gP,hx,b8,-,-,-,-,-,-,-,-⟩:=hk;obtain⟨Pq,fG,OB,oY⟩:=h;simp only at gP hx b8 Pq fG OB oY;subst gP;obtain⟨aV,hn⟩:=Pq rfl;obtain⟨f1,f2,f3,f4,-⟩:=yl hc hx;(have hd:pq ((ak p).take (next+1))=pq ((ak p).take next)+(jf x.op-cF x.op):=by rw[Ac hx,eu,kv];rfl);(have T3:=fun ho=>AJ hc (fg hx) ho);rw[cW,hx];obtain⟨op,a,bb,n⟩:=x;simp only[bump] at hd f1 f3 f4 T3 b8⊢
 have gI:op≠16→next+1<(ak p).length:=fun h=>by
  (have:¬next=(ak p).length-1:=fun e=>h (f4.2 e));omega
 clear f2 Pq hx f4;by_cases h1:op=1
 ·subst h1;have gI:=gI;simp only[cF,jf] at hd b8;simp at hd b8;rw[show aN inp keep ⟨1,a,bb,n⟩ ⟨⟨next+1,stack,rd,outn,0,cells⟩,kept,out,wrong⟩=⟨⟨next+1,n::stack,rd,outn,0,cells⟩,kept,out,wrong⟩ from rfl];dsimp only;exact⟨⟨fun _=>⟨gI au,bP⟩,fG,bP,bP⟩,bP,bP,.inl rfl⟩
 by_cases h2:op=2
 ·subst h2;have gI:=gI;simp only[cF,jf] at hd b8;simp at hd b8;rw[show aN inp keep ⟨2,a,bb,n⟩ ⟨⟨next+1,stack,rd,outn,0,cells⟩,kept,out,wrong⟩=⟨⟨next+1,cells.getD a.toNat 0::stack,rd,outn,0,cells⟩,kept,out,wrong⟩ from rfl];dsimp only;exact⟨⟨fun _=>⟨gI au,bP⟩,fG,bP,bP⟩,bP,bP,.inl rfl⟩
 by_cases h3:op=3
 ·subst h3;have gI:=gI;simp only[cF,jf] at hd b8;simp at hd b8
  obtain⟨k,s,rfl⟩:∃n s,stack=n::s:=by
   cases stack with
   |nil=>simp at b8
   |cons n s=>exact⟨n,s,rfl⟩
  simp only[bF] at hn;by_cases hk:k<0∨bb≤k
  ·skip;rw[show aN inp keep ⟨3,a,bb,n⟩ ⟨⟨next+1,k::s,rd,outn,0,cells⟩,kept,out,wrong⟩=⟨⟨next+1,s,rd,outn,13,cells⟩,kept,out,wrong⟩ from by simp[aN,hk]];dsimp only;exact⟨⟨fun q=>by simp at q,fG,bP,bP⟩,bP,bP,.inl rfl⟩
  ·skip;rw[show aN inp keep ⟨3,a,bb,n⟩ ⟨⟨next+1,k::s,rd,outn,0,cells⟩,kept,out,wrong⟩=⟨⟨next+1,cells.getD (a+k).toNat 0::s,rd,outn,0,cells⟩,kept,out,wrong⟩ from by simp[aN,hk]];dsimp only;exact⟨⟨fun _=>⟨gI au,bP⟩,fG,bP,bP⟩,bP,bP,.inl rfl⟩
 by_cases h4:op=4
 ·subst h4;have gI:=gI;simp only[cF,jf] at hd b8;simp at hd b8
  obtain⟨y,z,s,rfl⟩:∃y z s,stack=y::z::s:=by
   cases stack with
   |nil=>simp at b8
   |cons y s=>cases s with
    |nil=>simp at b8
    |cons z s=>exact⟨y,z,s,rfl⟩
  simp only[bF] at hn;rw[show aN inp keep ⟨4,a,bb,n⟩ ⟨⟨next+1,y::z::s,rd,outn,0,cells⟩,kept,out,wrong⟩=⟨⟨next+1,il 4 z y::s,rd,outn,0,cells⟩,kept,out,wrong⟩ from rfl];dsimp only;exact⟨⟨fun _=>⟨gI au,bP⟩,fG,bP,bP⟩,bP,bP,.inl rfl⟩
 by_cases h5:op=5
 ·subst h5;have gI:=gI;simp only[cF,jf] at hd b8;simp at hd b8
  obtain⟨y,z,s,rfl⟩:∃y z s,stack=y::z::s:=by
   cases stack with
   |nil=>simp at b8
   |cons y s=>cases s with
    |nil=>simp at b8
    |cons z s=>exact⟨y,z,s,rfl⟩
  simp only[bF] at hn;rw[show aN inp keep ⟨5,a,bb,n⟩ ⟨⟨next+1,y::z::s,rd,outn,0,cells⟩,kept,out,wrong⟩=⟨⟨next+1,il 5 z y::s,rd,outn,0,cells⟩,kept,out,wrong⟩ from rfl];dsimp only;exact⟨⟨fun _=>⟨gI au,bP⟩,fG,bP,bP⟩,bP,bP,.inl rfl⟩
 by_cases h6:op=6
 ·subst h6;have gI:=gI;simp only[cF,jf] at hd b8;simp at hd b8
  obtain⟨y,z,s,rfl⟩:∃y z s,stack=y::z::s:=by
   cases stack with
   |nil=>simp at b8
   |cons y s=>cases s with
    |nil=>simp at b8
    |cons z s=>exact⟨y,z,s,rfl⟩
  simp only[bF] at hn;rw[show aN inp keep ⟨6,a,bb,n⟩ ⟨⟨next+1,y::z::s,rd,outn,0,cells⟩,kept,out,wrong⟩=⟨⟨next+1,il 6 z y::s,rd,outn,0,cells⟩,kept,out,wrong⟩ from rfl];dsimp only;exact⟨⟨fun _=>⟨gI au,bP⟩,fG,bP,bP⟩,bP,bP,.inl rfl⟩
 by_cases h7:op=7
 ·subst h7;have gI:=gI;simp only[cF,jf] at hd b8;simp at hd b8
  obtain⟨y,z,s,rfl⟩:∃y z s,stack=y::z::s:=by
   cases stack with
   |nil=>simp at b8
   |cons y s=>cases s with
    |nil=>simp at b8
    |cons z s=>exact⟨y,z,s,rfl⟩
  simp only[bF] at hn;rw[show aN inp keep ⟨7,a,bb,n⟩ ⟨⟨next+1,y::z::s,rd,outn,0,cells⟩,kept,out,wrong⟩=⟨⟨next+1,il 7 z y::s,rd,outn,0,cells⟩,kept,out,wrong⟩ from rfl];dsimp only;exact⟨⟨fun _=>⟨gI au,bP⟩,fG,bP,bP⟩,bP,bP,.inl rfl⟩
 by_cases h8:op=8
 ·subst h8;have gI:=gI;simp only[cF,jf] at hd b8;simp at hd b8
  obtain⟨y,z,s,rfl⟩:∃y z s,stack=y::z::s:=by
   cases stack with
   |nil=>simp at b8
   |cons y s=>cases s with
    |nil=>simp at b8
    |cons z s=>exact⟨y,z,s,rfl⟩
  simp only[bF] at hn;rw[show aN inp keep ⟨8,a,bb,n⟩ ⟨⟨next+1,y::z::s,rd,outn,0,cells⟩,kept,out,wrong⟩=⟨⟨next+1,il 8 z y::s,rd,outn,0,cells⟩,kept,out,wrong⟩ from rfl];dsimp only;exact⟨⟨fun _=>⟨gI au,bP⟩,fG,bP,bP⟩,bP,bP,.inl rfl⟩
 by_cases h9:op=9
 ·subst h9;have gI:=gI;simp only[cF,jf] at hd b8;simp at hd b8
  obtain⟨k,s,rfl⟩:∃n s,stack=n::s:=by
   cases stack with
   |nil=>simp at b8
   |cons n s=>exact⟨n,s,rfl⟩
  simp only[bF] at hn;rw[show aN inp keep ⟨9,a,bb,n⟩ ⟨⟨next+1,k::s,rd,outn,0,cells⟩,kept,out,wrong⟩=⟨⟨next+1,s,rd,outn,0,cells.set a.toNat k⟩,kept,out,wrong⟩ from rfl];dsimp only;exact⟨⟨fun _=>⟨gI au,bP⟩,by simpa using fG,bP,bP⟩,bP,bP,.inl rfl⟩
 by_cases wL:op=10
 ·subst wL;have gI:=gI;simp only[cF,jf] at hd b8;simp at hd b8
  obtain⟨y,k,s,rfl⟩:∃y z s,stack=y::z::s:=by
   cases stack with
   |nil=>simp at b8
   |cons y s=>cases s with
    |nil=>simp at b8
    |cons z s=>exact⟨y,z,s,rfl⟩
  simp only[bF] at hn;by_cases hk:k<0∨bb≤k
  ·skip;rw[show aN inp keep ⟨10,a,bb,n⟩ ⟨⟨next+1,y::k::s,rd,outn,0,cells⟩,kept,out,wrong⟩=⟨⟨next+1,s,rd,outn,13,cells⟩,kept,out,wrong⟩ from by simp[aN,hk]];dsimp only;exact⟨⟨fun q=>by simp at q,fG,bP,bP⟩,bP,bP,.inl rfl⟩
  ·skip;rw[show aN inp keep ⟨10,a,bb,n⟩ ⟨⟨next+1,y::k::s,rd,outn,0,cells⟩,kept,out,wrong⟩=⟨⟨next+1,s,rd,outn,0,cells.set (a+k).toNat y⟩,kept,out,wrong⟩ from by simp[aN,hk]];dsimp only;exact⟨⟨fun _=>⟨gI au,bP⟩,by simpa using fG,bP,bP⟩,bP,bP,.inl rfl⟩
 by_cases rD:op=11
 ·subst rD;have gI:=gI;simp only[cF,jf] at hd b8;simp at hd b8
  obtain⟨k,s,rfl⟩:∃n s,stack=n::s:=by
   cases stack with
   |nil=>simp at b8
   |cons n s=>exact⟨n,s,rfl⟩
  simp only[bF] at hn;by_cases hk:outn=out.length
  ·skip;rw[show aN inp keep ⟨11,a,bb,n⟩ ⟨⟨next+1,k::s,rd,outn,0,cells⟩,kept,out,wrong⟩=⟨⟨next+1,s,rd,outn+1,0,cells⟩,kept,out++[k],wrong⟩ from by simp[aN,hk]];dsimp only;exact⟨⟨fun _=>⟨gI au,bP⟩,fG,bP,bP⟩,bP,bP,.inl rfl⟩
  ·skip;rw[show aN inp keep ⟨11,a,bb,n⟩ ⟨⟨next+1,k::s,rd,outn,0,cells⟩,kept,out,wrong⟩=⟨⟨next+1,s,rd,outn+1,0,cells⟩,kept,out,(wrong||decide (out.getD outn 0≠k))⟩ from by simp[aN,hk]];dsimp only;exact⟨⟨fun _=>⟨gI au,bP⟩,fG,bP,bP⟩,bP,bP,.inl rfl⟩
 by_cases xF:op=12
 ·subst xF;have gI:=gI;simp only[cF,jf] at hd b8;simp at hd b8;by_cases hk:inp.length≤rd
  ·skip;rw[show aN inp keep ⟨12,a,bb,n⟩ ⟨⟨next+1,stack,rd,outn,0,cells⟩,kept,out,wrong⟩=⟨⟨next+1,stack,rd,outn,14,cells⟩,kept,out,wrong⟩ from by simp[aN,hk]];dsimp only;exact⟨⟨fun q=>by simp at q,fG,bP,bP⟩,bP,bP,.inl rfl⟩
  ·skip;rw[show aN inp keep ⟨12,a,bb,n⟩ ⟨⟨next+1,stack,rd,outn,0,cells⟩,kept,out,wrong⟩=⟨⟨next+1,stack,rd+1,outn,0,cells.set a.toNat (inp.getD rd 0)⟩,kept,out,wrong⟩ from by simp[aN,hk]];dsimp only;exact⟨⟨fun _=>⟨gI au,bP⟩,by simpa using fG,bP,bP⟩,bP,bP,.inl rfl⟩
 by_cases CH:op=13
 ·subst CH;have gI:=gI;simp only[cF,jf] at hd b8;simp at hd b8
  obtain⟨k,s,rfl⟩:∃n s,stack=n::s:=by
   cases stack with
   |nil=>simp at b8
   |cons n s=>exact⟨n,s,rfl⟩
  simp only[bF] at hn;obtain⟨j,rfl,hj,hz⟩:=T3 au;have f3:=f3 au;by_cases hk:k=0
  ·skip;rw[show aN inp keep ⟨13,(j:Int),bb,n⟩ ⟨⟨next+1,k::s,rd,outn,0,cells⟩,kept,out,wrong⟩=⟨⟨j,s,rd,outn,0,cells⟩,kept,out,wrong⟩ from by simp[aN,hk]];dsimp only;exact⟨⟨fun _=>⟨hj,bP⟩,fG,bP,bP⟩,bP,bP,.inl rfl⟩
  ·skip;rw[show aN inp keep ⟨13,(j:Int),bb,n⟩ ⟨⟨next+1,k::s,rd,outn,0,cells⟩,kept,out,wrong⟩=⟨⟨next+1,s,rd,outn,0,cells⟩,kept,out,wrong⟩ from by simp[aN,hk]];dsimp only;exact⟨⟨fun _=>⟨gI au,bP⟩,fG,bP,bP⟩,bP,bP,.inl rfl⟩
 by_cases wo:op=14
 ·subst wo;have gI:=gI;simp only[cF,jf] at hd b8;simp at hd b8;obtain⟨j,rfl,hj,hz⟩:=T3 au;have f3:=f3 au;rw[show aN inp keep ⟨14,(j:Int),bb,n⟩ ⟨⟨next+1,stack,rd,outn,0,cells⟩,kept,out,wrong⟩=⟨⟨j,stack,rd,outn,0,cells⟩,kept,out,wrong⟩ from by simp[aN]];dsimp only;exact⟨⟨fun _=>⟨hj,bP⟩,fG,bP,bP⟩,bP,bP,.inl rfl⟩
 by_cases ki:op=15
 ·subst ki;have gI:=gI;simp only[cF,jf] at hd b8;simp at hd b8
  cases keep with
  |false=>
   rw[show aN inp false ⟨15,a,bb,n⟩ ⟨⟨next+1,stack,rd,outn,0,cells⟩,kept,out,wrong⟩=⟨⟨next+1,stack,rd,outn,0,cells⟩,kept,out,wrong⟩ from rfl];dsimp only;exact⟨⟨fun _=>⟨gI au,bP⟩,fG,bP,bP⟩,bP,bP,.inl rfl⟩
  |true=>
   rw[show aN inp true ⟨15,a,bb,n⟩ ⟨⟨next+1,stack,rd,outn,0,cells⟩,kept,out,wrong⟩=⟨⟨next+1,stack,rd,outn,0,cells⟩,⟨next+1,stack,rd,outn,0,cells⟩,out,wrong⟩ from rfl];dsimp only;exact⟨⟨fun _=>⟨gI au,bP⟩,fG,bP,bP⟩,bP,bP,.inr ⟨rfl,rfl⟩⟩
 by_cases CI:op=16
 ·subst CI;have gI:=gI;simp only[cF,jf] at hd b8;simp at hd b8;rw[show aN inp keep ⟨16,a,bb,n⟩ ⟨⟨next+1,stack,rd,outn,0,cells⟩,kept,out,wrong⟩=⟨⟨next+1,stack,rd,outn,1,cells⟩,kept,out,wrong⟩ from rfl];dsimp only;exact⟨⟨fun q=>by simp at q,fG,bP,bP⟩,bP,bP,.inl rfl⟩
 (have hA:cF op=0:=by simp only[cF];rw[ag h3,ag (show ¬(4≤op∧op≤8) by omega),ag (show ¬(op=9∨op=11∨op=13) by omega),ag wL]);(have hB:jf op=0:=by simp only[jf];rw[ag (show ¬(1≤op∧op≤8) by omega)]);rw[hA,hB] at hd;simp only[aN];rw[ag h1,ag h2,ag h3,ag (show ¬(4≤op∧op≤8) by omega),ag h9,ag wL,ag rD,ag xF,ag CH,ag wo,ag ki,ag CI];dsimp only;exact⟨⟨fun _=>⟨gI CI,by show (stack.length:Int)=pq ((ak p).take (next+1));omega⟩,fG,ad,ad⟩,ad,ad,.inl rfl⟩
theorem mU {C:List (List Int)} (h:fC C) (a w:Int):fC (kW C a w):=by
 unfold kW;split
 ·rename_i hc;exact tH h _ (by rw[List.length_set];exact kI h ad)
 ·exact h
theorem BZ {C:List (List Int)} (h:fC C) {a:Int} (w:Int) (ha:0≤a∧a<112) (b:Int):gZ (kW C a w) b=if b=a then w else gZ C b:=by
 by_cases hb:0≤b∧b<112
 ·obtain⟨n,rfl⟩:=Int.eq_ofNat_of_zero_le hb.1;exact JG h a w ad
 ·rw[AG hb,AG hb,ag ad]
structure cG (C:List (List Int)) (m:Mi):Prop where
 ok:fC C
 nx:gZ C 0=m.next
 sl:gZ C 1=m.stack.length
 rd:gZ C 2=m.rd
 on:gZ C 3=m.outn
 st:gZ C 4=m.st
 ce:∀k:Nat,k<m.cells.length→gZ C (5+k)=m.cells.getD k 0
 sk:∀j:Nat,j<m.stack.length→gZ C (53+j)=m.stack.reverse.getD j 0
 lc:m.cells.length≤48
 ls:m.stack.length≤59
theorem MR (n:Int) (s:List Int) {j:Nat} (h:j<s.length):(n::s).reverse.getD j 0=s.reverse.getD j 0:=by
 rw[List.reverse_cons,ey,ey,List.getElem?_append_left (by rw[List.length_reverse];exact h)]
theorem MS (n:Int) (s:List Int):(n::s).reverse.getD s.length 0=n:=by
 rw[List.reverse_cons,ey,List.getElem?_append_right aZ];simp
section
variable {C:List (List Int)} {next rd outn:Nat} {stack cells:List Int} {st:Int}
theorem cG.P8 (h:cG C ⟨next,stack,rd,outn,st,cells⟩) (n:Nat):cG (kW C 0 n) ⟨n,stack,rd,outn,st,cells⟩:=by
 have w:=BZ h.ok (a:=0) n ad;refine⟨mU h.ok _ _,by rw[w,aq rfl],by rw[w,ag ad];exact h.sl,by rw[w,ag ad];exact h.rd,by rw[w,ag ad];exact h.on,by rw[w,ag ad];exact h.st,fun k hk=>?_,fun j hj=>?_,h.lc,h.ls⟩
 ·rw[w,ag ad];exact h.ce k hk
 ·rw[w,ag ad];exact h.sk j hj
theorem cG.abQ (h:cG C ⟨next,stack,rd,outn,st,cells⟩) (n:Nat):cG (kW C 2 n) ⟨next,stack,n,outn,st,cells⟩:=by
 have w:=BZ h.ok (a:=2) n ad;refine⟨mU h.ok _ _,by rw[w,ag ad];exact h.nx,by rw[w,ag ad];exact h.sl,by rw[w,aq rfl],by rw[w,ag ad];exact h.on,by rw[w,ag ad];exact h.st,fun k hk=>?_,fun j hj=>?_,h.lc,h.ls⟩
 ·rw[w,ag ad];exact h.ce k hk
 ·rw[w,ag ad];exact h.sk j hj
theorem cG.abR (h:cG C ⟨next,stack,rd,outn,st,cells⟩) (n:Nat):cG (kW C 3 n) ⟨next,stack,rd,n,st,cells⟩:=by
 have w:=BZ h.ok (a:=3) n ad;refine⟨mU h.ok _ _,by rw[w,ag ad];exact h.nx,by rw[w,ag ad];exact h.sl,by rw[w,ag ad];exact h.rd,by rw[w,aq rfl],by rw[w,ag ad];exact h.st,fun k hk=>?_,fun j hj=>?_,h.lc,h.ls⟩
 ·rw[w,ag ad];exact h.ce k hk
 ·rw[w,ag ad];exact h.sk j hj
theorem cG.P9 (h:cG C ⟨next,stack,rd,outn,st,cells⟩) (n:Int):cG (kW C 4 n) ⟨next,stack,rd,outn,n,cells⟩:=by
 have w:=BZ h.ok (a:=4) n ad;refine⟨mU h.ok _ _,by rw[w,ag ad];exact h.nx,by rw[w,ag ad];exact h.sl,by rw[w,ag ad];exact h.rd,by rw[w,ag ad];exact h.on,by rw[w,aq rfl],fun k hk=>?_,fun j hj=>?_,h.lc,h.ls⟩
 ·rw[w,ag ad];exact h.ce k hk
 ·rw[w,ag ad];exact h.sk j hj
theorem cG.T4 (h:cG C ⟨next,stack,rd,outn,st,cells⟩) {a:Nat} (ha:a<cells.length) (n:Int):cG (kW C (5+a) n) ⟨next,stack,rd,outn,st,cells.set a n⟩:=by
 have hl:=h.lc;have hs:=h.ls;simp only at hl hs;have w:=BZ h.ok (a:=5+a) n ad;refine⟨mU h.ok _ _,by rw[w,ag ad];exact h.nx,by rw[w,ag ad];exact h.sl,by rw[w,ag ad];exact h.rd,by rw[w,ag ad];exact h.on,by rw[w,ag ad];exact h.st,fun k hk=>?_,fun j hj=>?_,by simpa using hl,hs⟩
 ·simp only[List.length_set] at hk;have e:=h.ce k hk;simp only[ey,List.getElem?_set] at e⊢;rw[w];by_cases hak:a=k
  ·subst hak;rw[aq rfl,aq rfl,aq ha];rfl
  ·rw[ag ad,ag hak];exact e
 ·rw[w,ag ad];exact h.sk j hj
theorem cG.push (h:cG C ⟨next,stack,rd,outn,st,cells⟩) (hl:stack.length<59) (n:Int):cG (kW (kW C 1 (stack.length+1)) (53+stack.length) n) ⟨next,n::stack,rd,outn,st,cells⟩:=by
 have hc:=h.lc;simp only at hc;have w1:=BZ h.ok (a:=1) (stack.length+1) ad;have ok1:=mU h.ok 1 ((stack.length:Int)+1);have w2:=BZ ok1 (a:=53+stack.length) n ad;refine⟨mU ok1 _ _,?_,?_,?_,?_,?_,fun k hk=>?_,fun j hj=>?_,hc,by simp only[bF];omega⟩
 ·rw[w2,ag ad,w1,ag ad];exact h.nx
 ·rw[w2,ag ad,w1,aq rfl];simp
 ·rw[w2,ag ad,w1,ag ad];exact h.rd
 ·rw[w2,ag ad,w1,ag ad];exact h.on
 ·rw[w2,ag ad,w1,ag ad];exact h.st
 ·simp only at hk;rw[w2,ag ad,w1,ag ad];exact h.ce k hk
 ·simp only[bF] at hj;rw[w2];by_cases e:j=stack.length
  ·subst e;rw[aq rfl,MS]
  ·rw[ag ad,w1,ag ad,MR n stack ad];exact h.sk j (by show j<stack.length;omega)
theorem cG.pop {n:Int} {s:List Int} (h:cG C ⟨next,n::s,rd,outn,st,cells⟩):cG (kW C 1 s.length) ⟨next,s,rd,outn,st,cells⟩:=by
 have hc:=h.lc;have hs:=h.ls;simp only[bF] at hc hs;have w:=BZ h.ok (a:=1) s.length ad;refine⟨mU h.ok _ _,by rw[w,ag ad];exact h.nx,by rw[w,aq rfl],by rw[w,ag ad];exact h.rd,by rw[w,ag ad];exact h.on,by rw[w,ag ad];exact h.st,fun k hk=>?_,fun j hj=>?_,hc,by show s.length≤59;omega⟩
 ·rw[w,ag ad];exact h.ce k hk
 ·simp only at hj;rw[w,ag ad,←MR n s hj];exact h.sk j (by show j<(n::s).length;rw[bF];omega)
theorem cG.top {n:Int} {s:List Int} (h:cG C ⟨next,n::s,rd,outn,st,cells⟩):gZ C (53+s.length)=n:=by
 rw[h.sk s.length (by show _<(n::s).length;simp)];exact MS n s
end
namespace Me
def hZ (M:Me) (n:Int):Me:=(M.put 1 (M.ld 1+1)).put (53+M.ld 1) n
def bA (M:Me):Me:=M.put 1 (M.ld 1-1)
def ek (M:Me):Int:=M.bA.ld (52+M.ld 1)
def oN (inp:List Int) (x:In) (M:Me):Me:=
 if x.op=1 then M.hZ x.n
 else if x.op=2 then M.hZ (M.ld (5+x.a))
 else if x.op=3 then (if M.ek<0∨x.b≤M.ek then M.bA.put 4 13 else M.bA.hZ (M.bA.ld (5+x.a+M.ek)))
 else if 4≤x.op∧x.op≤8 then M.bA.bA.hZ (il x.op M.bA.ek M.ek)
 else if x.op=9 then M.bA.put (5+x.a) M.ek
 else if x.op=10 then (if M.bA.ek<0∨x.b≤M.bA.ek then M.bA.bA.put 4 13 else M.bA.bA.put (5+x.a+M.bA.ek) M.ek)
 else if x.op=11 then M.bA.put 3 (M.bA.ld 3+1)
 else if x.op=12 then (if (inp.length:Int)≤M.ld 2 then M.put 4 14 else (M.put 2 (M.ld 2+1)).put (5+x.a) (inp.getD (M.ld 2).toNat 0))
 else if x.op=13 then (if M.ek=0 then M.bA.put 0 x.a else M.bA)
 else if x.op=14 then M.put 0 x.a
 else if x.op=15 then ⟨M.C,wu⟩
 else if x.op=16 then M.put 4 1
 else M
def nU (code:List In) (inp:List Int) (M:Me):Me:=match code[(M.ld 0).toNat]? with
 |none=>M
 |some x=>oN inp x (M.put 0 (M.ld 0+1))
end Me
section
variable {M:Me} {next rd outn:Nat} {stack cells:List Int} {st:Int}
theorem cG.bA {n:Int} {s:List Int} (h:cG M.C ⟨next,n::s,rd,outn,st,cells⟩):cG M.bA.C ⟨next,s,rd,outn,st,cells⟩:=by
 (have e:M.ld 1-1=s.length:=by rw[Me.ld,h.sl];simp);show cG (kW M.C 1 (M.ld 1-1)) _;rw[e];exact h.pop
theorem cG.ek {n:Int} {s:List Int} (h:cG M.C ⟨next,n::s,rd,outn,st,cells⟩):M.ek=n:=by
 have hs:=h.ls;simp only[bF] at hs;(have e:M.ld 1=s.length+1:=by rw[Me.ld,h.sl];simp);show gZ (kW M.C 1 (M.ld 1-1)) (52+M.ld 1)=n;rw[BZ h.ok _ ad,ag ad,e,show (52:Int)+(s.length+1)=53+s.length by omega];exact h.top
theorem cG.hZ (h:cG M.C ⟨next,stack,rd,outn,st,cells⟩) (hl:stack.length<59) (n:Int):cG (M.hZ n).C ⟨next,n::stack,rd,outn,st,cells⟩:=by
 have e:M.ld 1=stack.length:=h.sl;show cG (kW (kW M.C 1 (M.ld 1+1)) (53+M.ld 1) n) _;rw[e];exact h.push hl n
end
theorem cG.step {code:List In} {inp:List Int} {b:Be} {x:In} {M:Me} (keep:Bool) (h:cG M.C b.m) (hk:np code inp b x) (hs:b.m.stack.length<59):cG (M.nU code inp).C (cW code inp keep b).m:=by
 obtain⟨⟨next,stack,rd,outn,st,cells⟩,kept,out,wrong⟩:=b;obtain⟨gP,hx,b8,⟨eL,jO⟩,jC,uq,fG,ns,oY,Gb,OB⟩:=hk;simp only at gP hx b8 eL jO uq fG ns oY Gb OB hs h;subst gP;have e0:M.ld 0=next:=h.nx;rw[cW,hx,Me.nU,e0,Int.toNat_natCast,hx];simp only[bump]
 have h1:cG (M.put 0 (((next:Nat):Int)+1)).C ⟨next+1,stack,rd,outn,0,cells⟩:=by
  have:=h.P8 (next+1);rw[Int.natCast_add] at this;exact this
 clear h e0;generalize M.put 0 (((next:Nat):Int)+1)=M at h1;obtain⟨op,a,bb,n⟩:=x;simp only at b8 eL jO jC;clear hx;by_cases o1:op=1
 ·subst o1;exact h1.hZ hs n
 by_cases o2:op=2
 ·subst o2;obtain⟨Dh,CD⟩:=eL (.inl rfl);obtain⟨a,rfl⟩:∃k:Nat,a=k:=⟨a.toNat,ad⟩;have e:M.ld (5+(a:Int))=cells.getD a 0:=h1.ce a (by show a<cells.length;omega);have:=h1.hZ hs (cells.getD a 0);rw[←e] at this;show cG (M.hZ (M.ld (5+(a:Int)))).C ⟨next+1,cells.getD ((a:Int)).toNat 0::stack,rd,outn,0,cells⟩;rw[Int.toNat_natCast,←e];exact this
 by_cases o3:op=3
 ·subst o3
  obtain⟨k,s,rfl⟩:∃n s,stack=n::s:=by
   cases stack with
   |nil=>simp[cF] at b8
   |cons n s=>exact⟨n,s,rfl⟩
  obtain⟨Lw,Ml,X6⟩:=jO au;have ht:=h1.ek;have hp:=h1.bA;by_cases hk:k<0∨bb≤k
  ·(have e1:M.oN inp ⟨3,a,bb,n⟩=M.bA.put 4 13:=by simp[Me.oN,ht,hk]);(have e2:(aN inp keep ⟨3,a,bb,n⟩ ⟨⟨next+1,k::s,rd,outn,0,cells⟩,kept,out,wrong⟩)=⟨⟨next+1,s,rd,outn,13,cells⟩,kept,out,wrong⟩:=by simp[aN,hk]);rw[e1,e2];exact hp.P9 13
  ·(have e1:M.oN inp ⟨3,a,bb,n⟩=M.bA.hZ (M.bA.ld (5+a+k)):=by simp[Me.oN,ht,hk]);(have e2:(aN inp keep ⟨3,a,bb,n⟩ ⟨⟨next+1,k::s,rd,outn,0,cells⟩,kept,out,wrong⟩)=⟨⟨next+1,cells.getD (a+k).toNat 0::s,rd,outn,0,cells⟩,kept,out,wrong⟩:=by simp[aN,hk]);rw[e1,e2];obtain⟨j,hj⟩:∃j:Nat,a+k=j:=⟨(a+k).toNat,ad⟩;have e:M.bA.ld (5+(j:Int))=cells.getD j 0:=hp.ce j (by show j<cells.length;omega);rw[show 5+a+k=5+(j:Int) by omega,hj,Int.toNat_natCast,e];exact hp.hZ (by simp only[bF] at hs;omega) _
 by_cases o4:4≤op∧op≤8
 ·have RG:cF op=2:=by simp only[cF];rw[ag o3,aq o4]
  obtain⟨y,z,s,rfl⟩:∃y z s,stack=y::z::s:=by
   cases stack with
   |nil=>simp[RG] at b8
   |cons y s=>cases s with
    |nil=>simp[RG] at b8
    |cons z s=>exact⟨y,z,s,rfl⟩
  have e1:M.oN inp ⟨op,a,bb,n⟩=M.bA.bA.hZ (il op M.bA.ek M.ek):=by
   simp only[Me.oN];rw[ag o1,ag o2,ag o3,aq o4]
  have e2:(aN inp keep ⟨op,a,bb,n⟩ ⟨⟨next+1,y::z::s,rd,outn,0,cells⟩,kept,out,wrong⟩)=⟨⟨next+1,il op z y::s,rd,outn,0,cells⟩,kept,out,wrong⟩:=by
   simp only[aN];rw[ag o1,ag o2,ag o3,aq o4]
  rw[e1,e2,h1.ek,h1.bA.ek];exact h1.bA.bA.hZ (by simp only[bF] at hs;omega) _
 by_cases o9:op=9
 ·subst o9
  obtain⟨k,s,rfl⟩:∃n s,stack=n::s:=by
   cases stack with
   |nil=>simp[cF] at b8
   |cons n s=>exact⟨n,s,rfl⟩
  obtain⟨Dh,CD⟩:=eL au;obtain⟨a,rfl⟩:∃k:Nat,a=k:=⟨a.toNat,ad⟩;have:=h1.bA.T4 (a:=a) ad k;show cG (M.bA.put (5+(a:Int)) M.ek).C ⟨next+1,s,rd,outn,0,cells.set ((a:Int)).toNat k⟩;rw[Int.toNat_natCast,h1.ek];exact this
 by_cases o10:op=10
 ·subst o10
  obtain⟨y,z,s,rfl⟩:∃y z s,stack=y::z::s:=by
   cases stack with
   |nil=>simp[cF] at b8
   |cons y s=>cases s with
    |nil=>simp[cF] at b8
    |cons z s=>exact⟨y,z,s,rfl⟩
  obtain⟨Lw,Ml,X6⟩:=jO au;have ht:=h1.ek;have ZH:=h1.bA.ek;have hp:=h1.bA.bA;by_cases hk:z<0∨bb≤z
  ·(have e1:M.oN inp ⟨10,a,bb,n⟩=M.bA.bA.put 4 13:=by simp[Me.oN,ZH,hk]);(have e2:(aN inp keep ⟨10,a,bb,n⟩ ⟨⟨next+1,y::z::s,rd,outn,0,cells⟩,kept,out,wrong⟩)=⟨⟨next+1,s,rd,outn,13,cells⟩,kept,out,wrong⟩:=by simp[aN,hk]);rw[e1,e2];exact hp.P9 13
  ·(have e1:M.oN inp ⟨10,a,bb,n⟩=M.bA.bA.put (5+a+z) y:=by simp[Me.oN,ht,ZH,hk]);(have e2:(aN inp keep ⟨10,a,bb,n⟩ ⟨⟨next+1,y::z::s,rd,outn,0,cells⟩,kept,out,wrong⟩)=⟨⟨next+1,s,rd,outn,0,cells.set (a+z).toNat y⟩,kept,out,wrong⟩:=by simp[aN,hk]);rw[e1,e2];obtain⟨j,hj⟩:∃j:Nat,a+z=j:=⟨(a+z).toNat,ad⟩;rw[show 5+a+z=5+(j:Int) by omega,hj,Int.toNat_natCast];exact hp.T4 (a:=j) ad y
 by_cases o11:op=11
 ·subst o11
  obtain⟨k,s,rfl⟩:∃n s,stack=n::s:=by
   cases stack with
   |nil=>simp[cF] at b8
   |cons n s=>exact⟨n,s,rfl⟩
  have e:(aN inp keep ⟨11,a,bb,n⟩ ⟨⟨next+1,k::s,rd,outn,0,cells⟩,kept,out,wrong⟩).m=⟨next+1,s,rd,outn+1,0,cells⟩:=by
   by_cases JV:outn=out.length<;>simp[aN,JV]
  rw[e];have e3:M.bA.ld 3=outn:=h1.bA.on;have:=h1.bA.abR (outn+1);rw[Int.natCast_add] at this;show cG (M.bA.put 3 (M.bA.ld 3+1)).C _;rw[e3];exact this
 by_cases o12:op=12
 ·subst o12;obtain⟨Dh,CD⟩:=eL au;obtain⟨a,rfl⟩:∃k:Nat,a=k:=⟨a.toNat,ad⟩;have e2:M.ld 2=rd:=h1.rd;by_cases hr:inp.length≤rd
  ·(have e1:M.oN inp ⟨12,a,bb,n⟩=M.put 4 14:=by simp[Me.oN,e2,hr]);(have e3:(aN inp keep ⟨12,a,bb,n⟩ ⟨⟨next+1,stack,rd,outn,0,cells⟩,kept,out,wrong⟩)=⟨⟨next+1,stack,rd,outn,14,cells⟩,kept,out,wrong⟩:=by simp[aN,hr]);rw[e1,e3];exact h1.P9 14
  ·(have Vo:¬((inp.length:Int)≤rd):=by omega);(have e1:M.oN inp ⟨12,a,bb,n⟩=(M.put 2 (rd+1)).put (5+a) (inp.getD rd 0):=by simp[Me.oN,e2,hr]);(have e3:(aN inp keep ⟨12,a,bb,n⟩ ⟨⟨next+1,stack,rd,outn,0,cells⟩,kept,out,wrong⟩)=⟨⟨next+1,stack,rd+1,outn,0,cells.set a (inp.getD rd 0)⟩,kept,out,wrong⟩:=by simp[aN,hr]);rw[e1,e3];have:=h1.abQ (rd+1);rw[Int.natCast_add] at this;exact this.T4 (a:=a) ad _
 by_cases o13:op=13
 ·subst o13
  obtain⟨k,s,rfl⟩:∃n s,stack=n::s:=by
   cases stack with
   |nil=>simp[cF] at b8
   |cons n s=>exact⟨n,s,rfl⟩
  obtain⟨a,rfl⟩:∃k:Nat,a=k:=⟨a.toNat,by have:=jC au;omega⟩;have ht:=h1.ek;by_cases hk:k=0
  ·(have e1:M.oN inp ⟨13,a,bb,n⟩=M.bA.put 0 a:=by simp[Me.oN,ht,hk]);(have e2:(aN inp keep ⟨13,a,bb,n⟩ ⟨⟨next+1,k::s,rd,outn,0,cells⟩,kept,out,wrong⟩)=⟨⟨a,s,rd,outn,0,cells⟩,kept,out,wrong⟩:=by simp[aN,hk]);rw[e1,e2];exact h1.bA.P8 a
  ·(have e1:M.oN inp ⟨13,a,bb,n⟩=M.bA:=by simp[Me.oN,ht,hk]);(have e2:(aN inp keep ⟨13,a,bb,n⟩ ⟨⟨next+1,k::s,rd,outn,0,cells⟩,kept,out,wrong⟩)=⟨⟨next+1,s,rd,outn,0,cells⟩,kept,out,wrong⟩:=by simp[aN,hk]);rw[e1,e2];exact h1.bA
 by_cases o14:op=14
 ·subst o14;obtain⟨a,rfl⟩:∃k:Nat,a=k:=⟨a.toNat,by have:=jC au;omega⟩;exact h1.P8 a
 by_cases o15:op=15
 ·subst o15;cases keep<;>exact h1
 by_cases o16:op=16
 ·subst o16;exact h1.P9 1
 have e1:M.oN inp ⟨op,a,bb,n⟩=M:=by
  simp only[Me.oN];rw[ag o1,ag o2,ag o3,ag o4,ag o9,ag o10,ag o11,ag o12,ag o13,ag o14,ag o15,ag o16]
 have e2:(aN inp keep ⟨op,a,bb,n⟩ ⟨⟨next+1,stack,rd,outn,0,cells⟩,kept,out,wrong⟩)=⟨⟨next+1,stack,rd,outn,0,cells⟩,kept,out,wrong⟩:=by
  simp only[aN];rw[ag o1,ag o2,ag o3,ag o4,ag o9,ag o10,ag o11,ag o12,ag o13,ag o14,ag o15,ag o16]
 rw[e1,e2];exact h1
def yp (wrong:Bool):Int:=if wrong then 15 else 0
def dp (pb:Nat) (out:List Int) (wrong:Bool):HP:=fun m=>∃x:Option Addr×Nat,True∧Sat [aw pb [.slice x.1 out.length x.2,i64 (yp wrong)] 168,aS 2 1 (.slice x.1 out.length x.2) out.length (ints out)] m
theorem dp.aW {pb:Nat} {out:List Int} {wrong:Bool}:∀m,dp pb out wrong m→∃x:Option Addr×Nat,True∧Sat [aw pb [.slice x.1 out.length x.2,i64 (yp wrong)] 168,aS 2 1 (.slice x.1 out.length x.2) out.length (ints out)] m:=fun _ h=>h
theorem dp.mk {pb:Nat} {out:List Int} {wrong:Bool} {p:Option Addr} {c n:Nat} {k:Int} {vs:List Value} (hn:n=out.length) (hk:k=yp wrong) (hv:vs=ints out):∀m,Sat [aw pb [.slice p n c,i64 k] 168,aS 2 1 (.slice p n c) n vs] m→dp pb out wrong m:=fun _ h=>⟨(p,c),trivial,by subst hn;subst hk;subst hv;exact h⟩
def Fb (out:List Int) (wrong:Bool) (a n:Int):List Int×Bool:=
 if a=out.length then (out++[n],wrong) else if a<0∨(out.length:Int)<a∨out.getD a.toNat 0≠n then (out,true) else (out,wrong)
theorem T5 (σ:PH) (pb:Nat) (out:List Int) (wrong:Bool) (a n:Int) (hl:out.length≤1000000):
 ah Tryz.prog 195 #[ptr pb,i64 a,i64 n] σ [dp pb out wrong] (aA fun v aj al=>v=.tuple #[]∧σ=aj∧al=[dp pb (Fb out wrong a n).1 (Fb out wrong a n).2]):=by
 by_cases h1:a=out.length
 ·(have e:Fb out wrong a n=(out++[n],wrong):=by rw[Fb,aq h1]);rw[e];have jd:dT [i64 n]:=kz rfl;refine lS Tryz.func195 ?_;refine cx ?_;(first|refine XA.aW (R:=dp pb out wrong) zL (dp.aW) ?_|refine az.aW (R:=dp pb out wrong) zL (dp.aW) ?_|refine DA.aW (R:=dp pb out wrong) zL (dp.aW) ?_);rintro⟨p,c⟩-;refine gX ?_;refine aR ?_;refine XA.aY rfl (aM h1) ?_;refine bg ?_;refine zw rfl (ax.jY (ae rfl) rfl (ae rfl)) ?_;rintro _ _ _ ⟨g20,rfl,rfl,rfl⟩;refine zw rfl (ax.kM (ae rfl) rfl (ae rfl) rfl rfl rfl) ?_;rintro _ _ _ ⟨p21,c21,rfl,rfl,rfl⟩;refine dc ?_;exact ao.normal (aB.none rfl) (ar.eS zE (dp.mk aZ rfl sV)) ⟨rfl,rfl,rfl⟩
 by_cases h2:a<0
 ·(have e:Fb out wrong a n=(out,true):=by rw[Fb,ag h1,aq (.inl h2)]);rw[e];refine lS Tryz.func195 ?_;refine cx ?_;(first|refine XA.aW (R:=dp pb out wrong) zL (dp.aW) ?_|refine az.aW (R:=dp pb out wrong) zL (dp.aW) ?_|refine DA.aW (R:=dp pb out wrong) zL (dp.aW) ?_);rintro⟨p,c⟩-;refine gX ?_;refine aR ?_;refine XA.aI rfl (aE h1) ?_;refine zi ?_;refine XA.aY rfl (by first|rfl|exact aM h2) ?_;refine bg ?_;exact ao.normal (aB.none rfl) (ar.eS zE (dp.mk rfl rfl rfl)) ⟨rfl,rfl,rfl⟩
 by_cases h3:(out.length:Int)<a
 ·(have e:Fb out wrong a n=(out,true):=by rw[Fb,ag h1,aq (.inr (.inl h3))]);rw[e];refine lS Tryz.func195 ?_;refine cx ?_;(first|refine XA.aW (R:=dp pb out wrong) zL (dp.aW) ?_|refine az.aW (R:=dp pb out wrong) zL (dp.aW) ?_|refine DA.aW (R:=dp pb out wrong) zL (dp.aW) ?_);rintro⟨p,c⟩-;refine gX ?_;refine aR ?_;refine XA.aI rfl (aE h1) ?_;refine zi ?_;refine XA.aY rfl (by first|rfl|exact aM h3) ?_;refine bg ?_;exact ao.normal (aB.none rfl) (ar.eS zE (dp.mk rfl rfl rfl)) ⟨rfl,rfl,rfl⟩
 obtain⟨k,rfl⟩:∃k:Nat,a=k:=⟨a.toNat,ad⟩;(have hk:k<out.length:=by omega);obtain⟨y,hy⟩:∃y,y=out.getD k 0:=⟨_,rfl⟩;(have hv:(ints out)[k]? =some (i64 y):=by rw[hy];simp[ints,hk]);by_cases h4:y=n
 ·have e:Fb out wrong k n=(out,wrong):=by
   rw[Fb,ag h1,ag];rw[Int.toNat_natCast,←hy];rintro(h|h|h)
   ·exact h2 h
   ·exact h3 h
   ·exact h h4
  rw[e];refine lS Tryz.func195 ?_;refine cx ?_;(first|refine XA.aW (R:=dp pb out wrong) zL (dp.aW) ?_|refine az.aW (R:=dp pb out wrong) zL (dp.aW) ?_|refine DA.aW (R:=dp pb out wrong) zL (dp.aW) ?_);rintro⟨p,c⟩-;refine gX ?_;(first|refine XA.aW (R:=aS 2 1 (.slice p out.length c) _ _) zL (dG ad) ?_|refine az.aW (R:=aS 2 1 (.slice p out.length c) _ _) zL (dG ad) ?_|refine DA.aW (R:=aS 2 1 (.slice p out.length c) _ _) zL (dG ad) ?_);rintro g70 rfl;refine gX ?_;refine aR ?_;refine XA.aI rfl (aE h1) ?_;refine zi ?_;refine XA.aI rfl (aE (fun h=>h h4)) ?_;refine aU ?_;exact ao.normal (aB.none rfl) (ar.eS zE (dp.mk rfl rfl rfl)) ⟨rfl,rfl,rfl⟩
 have e:Fb out wrong k n=(out,true):=by
  rw[Fb,ag h1,aq (.inr (.inr (by rw[Int.toNat_natCast,←hy];exact h4)))]
 rw[e];refine lS Tryz.func195 ?_;refine cx ?_;(first|refine XA.aW (R:=dp pb out wrong) zL (dp.aW) ?_|refine az.aW (R:=dp pb out wrong) zL (dp.aW) ?_|refine DA.aW (R:=dp pb out wrong) zL (dp.aW) ?_);rintro⟨p,c⟩-;refine gX ?_;(first|refine XA.aW (R:=aS 2 1 (.slice p out.length c) _ _) zL (dG ad) ?_|refine az.aW (R:=aS 2 1 (.slice p out.length c) _ _) zL (dG ad) ?_|refine DA.aW (R:=aS 2 1 (.slice p out.length c) _ _) zL (dG ad) ?_);rintro g70 rfl;refine gX ?_;refine aR ?_;refine XA.aI rfl (aE h1) ?_;refine zi ?_;refine XA.aY rfl (aM h4) ?_;refine bg ?_;exact ao.normal (aB.none rfl) (ar.eS zE (dp.mk rfl rfl rfl)) ⟨rfl,rfl,rfl⟩
theorem D5 (σ:PH) (v:Value) (xs:List Int) (hv:a7 σ v xs) (hl:xs.length≤1000000):
 ah Tryz.prog 106 #[v] σ [] (aA fun v' aj al=>∃p c,v'=.slice p xs.length c∧σ=aj∧al=[aS 2 1 (.slice p xs.length c) xs.length (ints xs)]):=by
 obtain⟨q,cq,rfl,hle,Hd⟩:=hv.shape;(have wc:(ints xs).length=xs.length*1:=by simp[ints]);have jd:dT (ints xs):=ei _
 cases q with
 |none=>
  obtain rfl:xs=[]:=by
   cases xs with
   |nil=>rfl
   |cons x l=>obtain⟨g,o,e,-⟩:=hv.at (show (x::l)[0]? =some x from rfl);cases e
  refine cM Tryz.func106 ?_;refine bt ?_;refine zO rfl (Rd.uy (ae rfl) rfl rfl) ?_;refine aR ?_;exact ao.ret (aB.one rfl rfl) (ar.dU (e:=2) (size:=1) (ar.nil _)) ⟨none,0,rfl,rfl,rfl⟩
 |some a=>
  cases xs with
  |nil=>
   refine cM Tryz.func106 ?_;refine bt ?_;refine zO rfl (Rd.uy (ae rfl) rfl rfl) ?_;refine bg ?_;refine zw rfl (ax.bs (fun _ _=>ae) rfl rfl rfl rfl rfl) ?_;rintro _ _ _ ⟨g5,rfl,rfl,rfl⟩;refine bS ?_;refine zw rfl (Rd.O4 (Rd.om (ae rfl) rfl (ae rfl) rfl rfl (bX _))) ?_;rintro _ _ _ ⟨rfl,rfl,rfl⟩;refine bY ?_;exact ao.ret (aB.one rfl rfl) (ar.xd (R:=aw g5 _ _) zL (fun m h=>qz h aZ (by simp[maxLen])) zE) ⟨_,_,rfl,rfl,rfl⟩
  |cons x l=>
   obtain⟨p',c',e1,e2,e3,e4⟩:=hv;simp only[Value.slice.injEq] at e1;obtain⟨rfl,-,rfl⟩:=e1;obtain⟨g,o,e,hr⟩:=e4 aZ;cases e;refine cM Tryz.func106 ?_;refine bt ?_;refine zO rfl (Rd.uy (ae rfl) rfl rfl) ?_;refine bg ?_;refine zw rfl (ax.bs (fun _ _=>ae) rfl rfl rfl rfl rfl) ?_;rintro _ _ _ ⟨g5,rfl,rfl,rfl⟩;refine bS ?_;refine az.eX (Δ:=[aS 2 1 (.slice (some ⟨g5,0,none⟩) 0 0) 0 []]) (ar.xd (R:=aw g5 _ _) zL (fun m h=>qz h aZ (by simp[maxLen])) zE) ?_;refine zw rfl (ax.append (ae rfl) rfl (ae rfl) rfl rfl zL rfl (At.Fu hr) wc jd aZ kB gF) ?_;rintro _ _ _ ⟨p,c',rfl,rfl,rfl⟩;refine bY ?_;rw[Nat.zero_add];exact bC rfl rfl ⟨_,_,rfl,rfl,rfl⟩
theorem MT (σ:PH) (q:Option Addr) (n cq:Nat) (xs:List Int) (hn:xs.length=n) (hl:n≤1000000):
 ah Tryz.prog 106 #[.slice q n cq] σ [aS 2 1 (.slice q n cq) n (ints xs)] (aA fun v' aj al=>∃p c,v'=.slice p n c∧σ=aj∧al=[aS 2 1 (.slice q n cq) n (ints xs),aS 2 1 (.slice p n c) n (ints xs)]):=by
 subst hn;(have wc:(ints xs).length=xs.length*1:=by simp[ints]);have jd:dT (ints xs):=ei _;by_cases h0:xs=[]
 ·subst h0
  cases q with
  |none=>
   refine cM Tryz.func106 ?_;refine bt ?_;refine zO rfl (Rd.uy (ae rfl) rfl rfl) ?_;refine aR ?_;exact ao.ret (aB.one rfl rfl) (ar.bB .head (ar.dU (e:=2) (size:=1) (ar.nil _))) ⟨none,0,rfl,rfl,rfl⟩
  |some a=>
   refine cM Tryz.func106 ?_;refine bt ?_;refine zO rfl (Rd.uy (ae rfl) rfl rfl) ?_;refine bg ?_;refine zw rfl (ax.bs (fun _ _=>ae) rfl rfl rfl rfl rfl) ?_;rintro _ _ _ ⟨g5,rfl,rfl,rfl⟩;refine bS ?_;refine az.eX (Δ:=[aS 2 1 (.slice (some ⟨g5,0,none⟩) 0 0) 0 [],aS 2 1 (.slice (some a) 0 cq) 0 (ints [])]) (ar.xd (R:=aw g5 _ _) zL (fun m h=>qz h aZ (by simp[maxLen])) zE) ?_;refine zw rfl (Rd.O4 (Rd.om (ae rfl) rfl (ae rfl) rfl rfl (bX _))) ?_;rintro _ _ _ ⟨rfl,rfl,rfl⟩;refine bY ?_;exact bC rfl rfl ⟨_,_,rfl,rfl,rfl⟩
 have uB:0<xs.length:=List.length_pos_iff.2 h0;refine ah.aW .head (dG uB) (enters Tryz.func106 rfl rfl) ?_;rintro g rfl;refine cM Tryz.func106 ?_;refine bt ?_;refine zO rfl (Rd.uy (ae rfl) rfl rfl) ?_;refine bg ?_;refine zw rfl (ax.bs (fun _ _=>ae) rfl rfl rfl rfl rfl) ?_;rintro _ _ _ ⟨g5,rfl,rfl,rfl⟩;refine bS ?_;refine az.eX (Δ:=[aS 2 1 (.slice (some ⟨g5,0,none⟩) 0 0) 0 [],aS 2 1 (.slice (some ⟨g,0,none⟩) xs.length cq) xs.length (ints xs)]) (ar.xd (R:=aw g5 _ _) zL (fun m h=>qz h aZ (by simp[maxLen])) zE) ?_;refine zw rfl (ax.append (ae rfl) rfl (ae rfl) rfl rfl zL rfl (At.aS zL (by simp;exact List.take_of_length_le sV)) wc jd uB kB gF) ?_;rintro _ _ _ ⟨p,c',rfl,rfl,rfl⟩;refine bY ?_;rw[Nat.zero_add];exact bC rfl rfl ⟨_,_,rfl,rfl,rfl⟩
theorem Qa (σ:PH) (pb:Nat) (out:List Int) (wrong:Bool) (hl:out.length≤1000000):
 ah Tryz.prog 116 #[ptr pb] σ [dp pb out wrong] (aA fun v aj al=>∃p c,v=.slice p out.length c∧σ=aj∧al=[dp pb out wrong,aS 2 1 (.slice p out.length c) out.length (ints out)]):=by
 refine cM Tryz.func116 ?_;refine bg ?_;(first|refine XA.aW (R:=dp pb out wrong) zL (dp.aW) ?_|refine az.aW (R:=dp pb out wrong) zL (dp.aW) ?_|refine DA.aW (R:=dp pb out wrong) zL (dp.aW) ?_);rintro⟨q,cq⟩-;refine gX ?_;refine bY ?_;refine zw rfl (ax.cE (MT σ q out.length cq out rfl hl) rfl) ?_;rintro _ _ _ ⟨_,⟨p,c,rfl,rfl,rfl⟩,rfl⟩;refine az.cl ?_;refine bY ?_;exact ao.ret (aB.one rfl rfl) (ar.eT (Θ:=[_,_]) zD (dp.mk rfl rfl rfl) zE) ⟨p,c,rfl,rfl,rfl⟩
section
variable (σ:PH) (g mb sb db pb:Nat) (cv iv:Value) (left:Int) (bR:Bool) (d:av) (s:eZ) (M:Me)
theorem yq (a n:Int):
 ah Tryz.prog 191 #[ptr g,i64 a,i64 n] σ [aw g [ptr mb,cv,iv,ptr pb,i64 left,.bool bR] 179,gJ mb sb db d s M] (aA fun v aj al=>v=i64 (M.ld a)∧σ=aj∧al=[aw g [ptr mb,cv,iv,ptr pb,i64 left,.bool bR] 179,gJ mb sb db d s (M.put a (IntKind.i64.wrap (M.ld a+n)))]):=by
 refine lS Tryz.func191 ?_;refine bm ?_;refine yC (jM σ mb sb db d s M a) ?_;refine dB ?_;refine yC (vH σ mb sb db d s M a (IntKind.i64.wrap (M.ld a+n))) ?_;refine bt ?_;exact bC rfl rfl ⟨rfl,rfl,rfl⟩
theorem B1 (n:Int):
 ah Tryz.prog 198 #[ptr g,i64 n] σ [aw g [ptr mb,cv,iv,ptr pb,i64 left,.bool bR] 179,gJ mb sb db d s M] (aA fun v aj al=>v=.tuple #[]∧σ=aj∧al=[aw g [ptr mb,cv,iv,ptr pb,i64 left,.bool bR] 179,gJ mb sb db d s (M.put 4 n)]):=by
 refine cw Tryz.func198 ?_;refine a8 ?_;refine yC (vH σ mb sb db d s M 4 n) ?_;refine bS ?_;exact iN rfl ⟨rfl,rfl,rfl⟩
theorem MU (b:Bool):ah Tryz.prog 223 #[.bool b] σ [] (aA fun v aj al=>v=i64 (if b then 1 else 0)∧σ=aj∧al=[]):=by
 cases b with
 |true=>
  refine cM Tryz.func223 ?_;refine iA ?_;exact bC rfl rfl ⟨rfl,rfl,rfl⟩
 |false=>
  refine cM Tryz.func223 ?_;refine mI ?_;exact bC rfl rfl ⟨rfl,rfl,rfl⟩
variable {next rd outn:Nat} {stack cells:List Int} {st:Int}
theorem B5 (h:cG M.C ⟨next,stack,rd,outn,st,cells⟩) (hl:stack.length<59) (n:Int):
 ah Tryz.prog 192 #[ptr g,i64 n] σ [aw g [ptr mb,cv,iv,ptr pb,i64 left,.bool bR] 179,gJ mb sb db d s M] (aA fun v aj al=>v=.tuple #[]∧σ=aj∧al=[aw g [ptr mb,cv,iv,ptr pb,i64 left,.bool bR] 179,gJ mb sb db d s (M.hZ n)]):=by
 have e:M.ld 1=stack.length:=h.sl;have mr:=yq σ g mb sb db pb cv iv left bR d s M 1 1;rw[X.wrap64_in ad ad] at mr;have tq:IntKind.i64.wrap (53+M.ld 1)=53+M.ld 1:=X.wrap64_in ad ad;refine cw Tryz.func192 ?_;refine XA.draw aC _ _ [8] [(0,.pu),(1,.pu),(2,.pu),(3,.rd),(4,.pu),(7,.pu),(5,.wr),(6,.pu),(8,.wr)] aC (PH.sub.refl _) (ar.bB (R:=aw g _ _) zL (ar.nil _)) ?_;refine a8 ?_;refine aP.fw rfl rfl Gd.free (ax.cE (mr) rfl) ?_;rintro _ _ _ ⟨_,⟨rfl,rfl,rfl⟩,rfl⟩;refine stays (aP.cl ?_);refine bS ?_;refine aP.b7 rfl rfl Gd.free aC (ax.cE (vH σ mb sb db d s (M.put 1 (M.ld 1+1)) (53+M.ld 1) n) rfl) ?_;rintro _ _ _ ⟨_,⟨rfl,rfl,rfl⟩,rfl⟩;refine aP.cl ?_;refine bS ?_;exact iN rfl ⟨rfl,rfl,rfl⟩
theorem o7 {n:Int} {l:List Int} (h:cG M.C ⟨next,n::l,rd,outn,st,cells⟩):
 ah Tryz.prog 194 #[ptr g] σ [aw g [ptr mb,cv,iv,ptr pb,i64 left,.bool bR] 179,gJ mb sb db d s M] (aA fun v aj al=>v=i64 n∧σ=aj∧al=[aw g [ptr mb,cv,iv,ptr pb,i64 left,.bool bR] 179,gJ mb sb db d s M.bA]):=by
 (have e:M.ld 1=l.length+1:=by rw[Me.ld,h.sl];simp);have hl:=h.ls;simp only[bF] at hl;have mr:=yq σ g mb sb db pb cv iv left bR d s M 1 (-1);rw[X.wrap64_in ad ad,show M.ld 1+-1=M.ld 1-1 by omega] at mr;have tq:IntKind.i64.wrap (53+M.ld 1)=53+M.ld 1:=X.wrap64_in ad ad;have hv3:IntKind.i64.wrap (53+M.ld 1-1)=53+M.ld 1-1:=X.wrap64_in ad ad;have ht:=h.ek;refine cM Tryz.func194 ?_;refine a8 ?_;refine et 10 13635 [8] (ar.bB (R:=aw g _ _) zL (ar.nil _)) ?_;refine dc ?_;refine aP.fw rfl rfl Gd.free (ax.cE (mr) rfl) ?_;rintro _ _ _ ⟨_,⟨rfl,rfl,rfl⟩,rfl⟩;refine stays (aP.cl ?_);refine aU ?_;rw[show 53+M.ld 1-1=52+M.ld 1 by omega];refine aP.b7 rfl rfl Gd.free aC (ax.cE (jM σ mb sb db d s M.bA (52+M.ld 1)) rfl) ?_;rintro _ _ _ ⟨_,⟨rfl,rfl,rfl⟩,rfl⟩;refine aP.cl ?_;refine bY ?_;exact bC rfl rfl ⟨congrArg i64 ht,rfl,rfl⟩
end
section
variable (σ:PH) (g mb sb db pb:Nat) (cv iv:Value) (left:Int) (bR:Bool) (d:av) (s:eZ) (M:Me)
variable {next rd outn:Nat} {stack cells:List Int} {st:Int}
theorem D6 {y z:Int} {l:List Int} (op:Int) (ho:4≤op∧op≤8) (h:cG M.C ⟨next,y::z::l,rd,outn,st,cells⟩):
 ah Tryz.prog 193 #[ptr g,i64 op] σ [aw g [ptr mb,cv,iv,ptr pb,i64 left,.bool bR] 179,gJ mb sb db d s M] (aA fun v aj al=>v=.tuple #[]∧σ=aj∧al=[aw g [ptr mb,cv,iv,ptr pb,i64 left,.bool bR] 179,gJ mb sb db d s (M.bA.bA.hZ (il op z y))]):=by
 have hl:=h.ls;simp only[bF] at hl;have X7:=o7 σ g mb sb db pb cv iv left bR d s M h;have RG:=o7 σ g mb sb db pb cv iv left bR d s M.bA h.bA;(have Tf:=fun n=>B5 σ g mb sb db pb cv iv left bR d s M.bA.bA h.bA.bA ad n);by_cases h4:op=4
 ·subst h4;rw[show il 4 z y=pX (z+y) from rfl];refine cw Tryz.func193 ?_;refine cx ?_;refine yC (X7) ?_;refine a8 ?_;refine yC (RG) ?_;refine aaG ?_;refine yC (Tf _) ?_;refine bS ?_;exact iN rfl ⟨rfl,rfl,rfl⟩
 by_cases h5:op=5
 ·subst h5;rw[show il 5 z y=pX (z-y) from rfl];refine cw Tryz.func193 ?_;refine cx ?_;refine yC (X7) ?_;refine a8 ?_;refine yC (RG) ?_;refine Lc ?_;refine yC (Tf _) ?_;refine bS ?_;exact iN rfl ⟨rfl,rfl,rfl⟩
 by_cases h6:op=6
 ·subst h6;rw[show il 6 z y=pX (z*y) from rfl];refine cw Tryz.func193 ?_;refine cx ?_;refine yC (X7) ?_;refine a8 ?_;refine yC (RG) ?_;refine Lb ?_;refine zO rfl Le ?_;refine bg ?_;refine yC (Tf _) ?_;refine bS ?_;exact iN rfl ⟨rfl,rfl,rfl⟩
 by_cases h7:op=7
 ·subst h7;rw[show il 7 z y=(if decide (z<y)=true then 1 else 0) from by simp[il]];refine cw Tryz.func193 ?_;refine cx ?_;refine yC (X7) ?_;refine a8 ?_;refine yC (RG) ?_;refine O8 ?_;refine yC (MU σ _) ?_;refine bg ?_;refine yC (Tf _) ?_;refine bS ?_;exact iN rfl ⟨rfl,rfl,rfl⟩
 by_cases h8:op=8
 ·subst h8;rw[show il 8 z y=(if decide (z=y)=true then 1 else 0) from by simp[il]];refine cw Tryz.func193 ?_;refine cx ?_;refine yC (X7) ?_;refine a8 ?_;refine yC (RG) ?_;refine SE ?_;refine yC (MU σ _) ?_;refine bg ?_;refine yC (Tf _) ?_;refine bS ?_;exact iN rfl ⟨rfl,rfl,rfl⟩
 omega
theorem T6 (pi:Option Addr) (ci:Nat) (inp:List Int) (a:Int) (ha:0≤a∧a<48) (hi:a7 σ (.slice pi inp.length ci) inp) (pB:inp.length≤1000000) (h:cG M.C ⟨next,stack,rd,outn,st,cells⟩):
 ah Tryz.prog 227 #[ptr g,i64 a] σ [aw g [ptr mb,cv,.slice pi inp.length ci,ptr pb,i64 left,.bool bR] 179,gJ mb sb db d s M] (aA fun v aj al=>v=.tuple #[]∧σ=aj∧al=[aw g [ptr mb,cv,.slice pi inp.length ci,ptr pb,i64 left,.bool bR] 179,gJ mb sb db d s (if (inp.length:Int)≤M.ld 2 then M.put 4 14 else (M.put 2 (M.ld 2+1)).put (5+a) (inp.getD (M.ld 2).toNat 0))]):=by
 have e:M.ld 2=rd:=h.rd;have y6:=jM σ mb sb db d s M 2;rw[e] at y6;by_cases hr:inp.length≤rd
 ·rw[aq ad];(have Vo:(rd:Int)≥inp.length:=by omega);refine cw Tryz.func227 ?_;refine a8 ?_;refine yC (y6) ?_;refine dh ?_;refine iQ ?_;refine cx ?_;refine yC (B1 σ g mb sb db pb cv (.slice pi inp.length ci) left bR d s M 14) ?_;refine bY ?_;exact On rfl ⟨rfl,rfl,rfl⟩
 ·rw[ag ad];(have TW:rd<inp.length:=by omega);obtain⟨y,hy⟩:∃y,inp[rd]? =some y:=⟨_,b9 TW⟩;obtain⟨gi,oi,rfl,TX⟩:=hi.at hy;rw[Nat.mul_one] at TX;(have TV:inp.getD (M.ld 2).toNat 0=y:=by rw[e,Int.toNat_natCast,ey,hy];rfl);rw[TV,e];have mr:=yq σ g mb sb db pb cv (.slice (some ⟨gi,oi,none⟩) inp.length ci) left bR d s M 2 1;rw[X.wrap64_in ad ad,e] at mr;refine cw Tryz.func227 ?_;refine a8 ?_;refine yC (y6) ?_;refine dh ?_;refine ik ?_;refine dc ?_;refine yC (mr) ?_;refine aU ?_;refine et 14 3739797 [13] (ar.bB (R:=aw g _ _) zL (ar.nil _)) ?_;refine dB ?_;refine aP.b7 rfl rfl Gd.free aC (ax.cE (vH σ mb sb db d s (M.put 2 ((rd:Int)+1)) (5+a) y) rfl) ?_;rintro _ _ _ ⟨_,⟨rfl,rfl,rfl⟩,rfl⟩;refine aP.cl ?_;refine bS ?_;exact iN rfl ⟨rfl,rfl,rfl⟩
theorem MV (op a b n k:Int) (hc:0≤a∧1≤b∧a+b≤48):
 ah Tryz.prog 226 #[ptr g,.agg #[i64 op,i64 a,i64 b,i64 n],i64 k] σ [aw g [ptr mb,cv,iv,ptr pb,i64 left,.bool bR] 179,gJ mb sb db d s M] (aA fun v aj al=>v=.tuple #[i64 (if k<0∨b≤k then 0 else 5+a+k),.bool (decide ¬(k<0∨b≤k))]∧σ=aj∧al=[aw g [ptr mb,cv,iv,ptr pb,i64 left,.bool bR] 179,gJ mb sb db d s (if k<0∨b≤k then M.put 4 13 else M)]):=by
 by_cases h0:k<0
 ·have hk:k<0∨b≤k:=.inl h0;rw[aq hk,aq hk,aE (fun q=>q hk)];(refine lS Tryz.func226 ?_;refine aU ?_;refine cP fun g4=>?_;refine dV ?_;refine iQ ?_;refine cx ?_;refine yC (B1 σ g mb sb db pb cv iv left bR d s M 13) ?_;refine aR ?_);exact ao.ret (aB.two rfl rfl rfl) zE ⟨rfl,rfl,rfl⟩
 by_cases h1:b≤k
 ·have hk:k<0∨b≤k:=.inr h1;rw[aq hk,aq hk,aE (fun q=>q hk)];(refine lS Tryz.func226 ?_;refine aU ?_;refine cP fun g4=>?_;refine dV ?_;refine iQ ?_;refine cx ?_;refine yC (B1 σ g mb sb db pb cv iv left bR d s M 13) ?_;refine aR ?_);exact ao.ret (aB.two rfl rfl rfl) zE ⟨rfl,rfl,rfl⟩
 (have hk:¬(k<0∨b≤k):=by omega);rw[ag hk,ag hk,aM hk];(refine lS Tryz.func226 ?_;refine aU ?_;refine cP fun g4=>?_;refine dV ?_;refine ik ?_;refine eA ?_);exact ao.ret (aB.two rfl rfl rfl) zE ⟨rfl,rfl,rfl⟩
theorem MW (hg:s.gen<4611686018427387904):
 ah Tryz.prog 197 #[ptr g] σ [aw g [ptr mb,cv,iv,ptr pb,i64 0,.bool bR] 179,gJ mb sb db d s M] (aA fun v aj al=>∃(d':av) (s':eZ),v=.tuple #[]∧s'.gen=s.gen+1∧dP d' s'=M.C∧Good d' s'∧σ.sub aj∧al=[aw g [ptr mb,cv,iv,ptr pb,i64 0,.bool false] 179,gJ mb sb db d' s' ⟨M.C,wu⟩]):=by
 refine cM Tryz.func197 ?_;refine sT ?_;refine zw rfl (ax.cE (Tt σ mb sb db d s M hg) rfl) ?_;rintro _ cO _ ⟨_,⟨d',s',rfl,h1,h2,h3,bz,rfl⟩,rfl⟩;refine az.cl ?_;refine dc ?_;exact iN rfl ⟨d',s',rfl,h1,h2,h3,bz,rfl⟩
end
section
variable (σ:PH) (g mb sb db pb:Nat) (cv iv:Value) (left:Int) (bR:Bool) (d:av) (s:eZ) (M:Me)
variable {next rd outn:Nat} {stack cells:List Int} {st:Int}
theorem MX (a b n:Int) (ha:0≤a∧a<48) (h:cG M.C ⟨next,stack,rd,outn,st,cells⟩) (hl:stack.length<59):
 ah Tryz.prog 199 #[ptr g,.agg #[i64 2,i64 a,i64 b,i64 n]] σ [aw g [ptr mb,cv,iv,ptr pb,i64 left,.bool bR] 179,gJ mb sb db d s M] (aA fun v aj al=>v=.tuple #[]∧σ=aj∧al=[aw g [ptr mb,cv,iv,ptr pb,i64 left,.bool bR] 179,gJ mb sb db d s (M.hZ (M.ld (5+a)))]):=by
 (refine cw Tryz.func199 ?_;refine aU ?_;refine cP fun g3=>?_;refine dC ?_;refine et 10 53298 [8,9] (ar.bB (R:=aw g _ _) zL (ar.bB (R:=aw g3 _ _) zL (ar.nil _))) ?_;refine bJ ?_);refine aP.b7 rfl rfl Gd.free aC (ax.cE (jM σ mb sb db d s M (5+a)) rfl) ?_;rintro _ _ _ ⟨_,⟨rfl,rfl,rfl⟩,rfl⟩;refine aP.cl ?_;refine aP.b7 rfl rfl Gd.free aC (ax.cE (B5 σ g mb sb db pb cv iv left bR d s M h hl (M.ld (5+a))) rfl) ?_;rintro _ _ _ ⟨_,⟨rfl,rfl,rfl⟩,rfl⟩;refine aP.cl ?_;refine aU ?_;exact iN rfl ⟨rfl,rfl,rfl⟩
theorem MY (a b n k:Int) (l:List Int) (hc:0≤a∧1≤b∧a+b≤48) (h:cG M.C ⟨next,k::l,rd,outn,st,cells⟩):
 ah Tryz.prog 199 #[ptr g,.agg #[i64 3,i64 a,i64 b,i64 n]] σ [aw g [ptr mb,cv,iv,ptr pb,i64 left,.bool bR] 179,gJ mb sb db d s M] (aA fun v aj al=>v=.tuple #[]∧σ=aj∧al=[aw g [ptr mb,cv,iv,ptr pb,i64 left,.bool bR] 179,gJ mb sb db d s (if k<0∨b≤k then M.bA.put 4 13 else M.bA.hZ (M.bA.ld (5+a+k)))]):=by
 have hs:=h.ls;simp only[bF] at hs;have sF:=MV σ g mb sb db pb cv iv left bR d s M.bA 3 a b n k hc;by_cases hk:k<0∨b≤k
 ·rw[aq hk];rw[aq hk,aq hk,aE (fun q=>q hk)] at sF;(refine cw Tryz.func199 ?_;refine aU ?_;refine cP fun g3=>?_;refine rb ?_;refine et 10 219 [4] (ar.bB (R:=aw g3 _ _) zL (ar.nil _)) ?_;refine cx ?_;refine aP.fw rfl rfl Gd.free (ax.cE (o7 σ g mb sb db pb cv iv left bR d s M h) rfl) ?_);rintro _ _ _ ⟨_,⟨rfl,rfl,rfl⟩,rfl⟩;refine stays (aP.cl ?_);refine aP.b7 rfl rfl Gd.free aC (ax.cE (sF) rfl) ?_;rintro _ _ _ ⟨_,⟨rfl,rfl,rfl⟩,rfl⟩;refine aP.cl ?_;refine dh ?_;exact iN rfl ⟨rfl,rfl,rfl⟩
 ·rw[ag hk];rw[ag hk,ag hk,aM hk] at sF;(refine cw Tryz.func199 ?_;refine aU ?_;refine cP fun g3=>?_;refine rb ?_;refine et 10 219 [4] (ar.bB (R:=aw g3 _ _) zL (ar.nil _)) ?_;refine cx ?_;refine aP.fw rfl rfl Gd.free (ax.cE (o7 σ g mb sb db pb cv iv left bR d s M h) rfl) ?_);rintro _ _ _ ⟨_,⟨rfl,rfl,rfl⟩,rfl⟩;refine stays (aP.cl ?_);refine aP.b7 rfl rfl Gd.free aC (ax.cE (sF) rfl) ?_;rintro _ _ _ ⟨_,⟨rfl,rfl,rfl⟩,rfl⟩;refine aP.cl ?_;refine mI ?_;refine yC (jM σ mb sb db d s M.bA (5+a+k)) ?_;refine yC (B5 σ g mb sb db pb cv iv left bR d s M.bA h.bA ad (M.bA.ld (5+a+k))) ?_;refine aU ?_;exact iN rfl ⟨rfl,rfl,rfl⟩
theorem MZ (a b n k:Int) (l:List Int) (ha:0≤a∧a<48) (h:cG M.C ⟨next,k::l,rd,outn,st,cells⟩):
 ah Tryz.prog 199 #[ptr g,.agg #[i64 9,i64 a,i64 b,i64 n]] σ [aw g [ptr mb,cv,iv,ptr pb,i64 left,.bool bR] 179,gJ mb sb db d s M] (aA fun v aj al=>v=.tuple #[]∧σ=aj∧al=[aw g [ptr mb,cv,iv,ptr pb,i64 left,.bool bR] 179,gJ mb sb db d s (M.bA.put (5+a) k)]):=by
 (refine cw Tryz.func199 ?_;refine aU ?_;refine cP fun g3=>?_;refine jZ ?_;refine et 10 52758 [9] (ar.bB (R:=aw g _ _) zL (ar.bB (R:=aw g3 _ _) zL (ar.nil _))) ?_;refine bJ ?_;refine aP.fw rfl rfl Gd.free (ax.cE (o7 σ g mb sb db pb cv iv left bR d s M h) rfl) ?_);rintro _ _ _ ⟨_,⟨rfl,rfl,rfl⟩,rfl⟩;refine stays (aP.cl ?_);refine aP.b7 rfl rfl Gd.free aC (ax.cE (vH σ mb sb db d s M.bA (5+a) k) rfl) ?_;rintro _ _ _ ⟨_,⟨rfl,rfl,rfl⟩,rfl⟩;refine aP.cl ?_;refine aU ?_;exact iN rfl ⟨rfl,rfl,rfl⟩
theorem JW (a b n m k:Int) (l:List Int) (hc:0≤a∧1≤b∧a+b≤48) (h:cG M.C ⟨next,m::k::l,rd,outn,st,cells⟩):
 ah Tryz.prog 199 #[ptr g,.agg #[i64 10,i64 a,i64 b,i64 n]] σ [aw g [ptr mb,cv,iv,ptr pb,i64 left,.bool bR] 179,gJ mb sb db d s M] (aA fun v aj al=>v=.tuple #[]∧σ=aj∧al=[aw g [ptr mb,cv,iv,ptr pb,i64 left,.bool bR] 179,gJ mb sb db d s (if k<0∨b≤k then M.bA.bA.put 4 13 else M.bA.bA.put (5+a+k) m)]):=by
 have sF:=MV σ g mb sb db pb cv iv left bR d s M.bA.bA 10 a b n k hc;by_cases hk:k<0∨b≤k
 ·rw[aq hk];rw[aq hk,aq hk,aE (fun q=>q hk)] at sF;(refine cw Tryz.func199 ?_;refine aU ?_;refine cP fun g3=>?_;refine Jf ?_;refine yC (o7 σ g mb sb db pb cv iv left bR d s M h) ?_;refine bY ?_;refine et 10 219 [4] (ar.bB (R:=aw g3 _ _) zL (ar.nil _)) ?_;refine cx ?_);refine aP.fw rfl rfl Gd.free (ax.cE (o7 σ g mb sb db pb cv iv left bR d s M.bA h.bA) rfl) ?_;rintro _ _ _ ⟨_,⟨rfl,rfl,rfl⟩,rfl⟩;refine stays (aP.cl ?_);refine aP.b7 rfl rfl Gd.free aC (ax.cE (sF) rfl) ?_;rintro _ _ _ ⟨_,⟨rfl,rfl,rfl⟩,rfl⟩;refine aP.cl ?_;refine dh ?_;exact iN rfl ⟨rfl,rfl,rfl⟩
 ·rw[ag hk];rw[ag hk,ag hk,aM hk] at sF;(refine cw Tryz.func199 ?_;refine aU ?_;refine cP fun g3=>?_;refine Jf ?_;refine yC (o7 σ g mb sb db pb cv iv left bR d s M h) ?_;refine bY ?_;refine et 10 219 [4] (ar.bB (R:=aw g3 _ _) zL (ar.nil _)) ?_;refine cx ?_);refine aP.fw rfl rfl Gd.free (ax.cE (o7 σ g mb sb db pb cv iv left bR d s M.bA h.bA) rfl) ?_;rintro _ _ _ ⟨_,⟨rfl,rfl,rfl⟩,rfl⟩;refine stays (aP.cl ?_);refine aP.b7 rfl rfl Gd.free aC (ax.cE (sF) rfl) ?_;rintro _ _ _ ⟨_,⟨rfl,rfl,rfl⟩,rfl⟩;refine aP.cl ?_;refine mI ?_;refine yC (vH σ mb sb db d s M.bA.bA (5+a+k) m) ?_;refine aU ?_;exact iN rfl ⟨rfl,rfl,rfl⟩
theorem JX (pi:Option Addr) (ci:Nat) (inp:List Int) (a b n:Int) (ha:0≤a∧a<48) (hi:a7 σ (.slice pi inp.length ci) inp) (pB:inp.length≤1000000) (h:cG M.C ⟨next,stack,rd,outn,st,cells⟩):
 ah Tryz.prog 199 #[ptr g,.agg #[i64 12,i64 a,i64 b,i64 n]] σ [aw g [ptr mb,cv,.slice pi inp.length ci,ptr pb,i64 left,.bool bR] 179,gJ mb sb db d s M] (aA fun v aj al=>v=.tuple #[]∧σ=aj∧al=[aw g [ptr mb,cv,.slice pi inp.length ci,ptr pb,i64 left,.bool bR] 179,gJ mb sb db d s (if (inp.length:Int)≤M.ld 2 then M.put 4 14 else (M.put 2 (M.ld 2+1)).put (5+a) (inp.getD (M.ld 2).toNat 0))]):=by
 (refine cw Tryz.func199 ?_;refine aU ?_;refine cP fun g3=>?_;refine W1 ?_;refine yC (T6 σ g mb sb db pb cv left bR d s M pi ci inp a ha hi pB h) ?_;refine aU ?_);exact iN rfl ⟨rfl,rfl,rfl⟩
theorem M4 (op a b n:Int) (h2:op≠2) (h3:op≠3) (h9:op≠9) (wL:op≠10) (xF:op≠12):
 ah Tryz.prog 199 #[ptr g,.agg #[i64 op,i64 a,i64 b,i64 n]] σ [aw g [ptr mb,cv,iv,ptr pb,i64 left,.bool bR] 179,gJ mb sb db d s M] (aA fun v aj al=>v=.tuple #[]∧σ=aj∧al=[aw g [ptr mb,cv,iv,ptr pb,i64 left,.bool bR] 179,gJ mb sb db d s M]):=by
 (refine cw Tryz.func199 ?_;refine aU ?_;refine cP fun g3=>?_;refine dh ?_;refine XA.aI rfl (aE h2) ?_;refine a8 ?_;refine XA.aI rfl (aE h3) ?_;refine a8 ?_;refine XA.aI rfl (aE h9) ?_;refine a8 ?_);refine XA.aI rfl (aE wL) ?_;refine a8 ?_;refine XA.aI rfl (aE xF) ?_;refine aU ?_;exact iN rfl ⟨rfl,rfl,rfl⟩
end
end Go.Proofs.YtgeoiflbjcehcaaGreatDoor
