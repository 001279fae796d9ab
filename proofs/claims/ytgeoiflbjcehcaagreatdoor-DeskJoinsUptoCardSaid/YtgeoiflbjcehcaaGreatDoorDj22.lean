import Derived.Test.YtgeoiflbjcehcaaGreatDoorDj21
set_option maxHeartbeats 4000000
set_option maxRecDepth 2000
set_option linter.unusedVariables false
set_option linter.unusedSimpArgs false
namespace Go.Proofs.YtgeoiflbjcehcaaGreatDoor
open Go X
structure Ba (p:Pr) (inp:List Int) (o:Nat) (m:Mi):Prop where
 at_:m.st=0→m.next<(ak p).length∧(m.stack.length:Int)=ln ((ak p).take m.next)
 cells:m.cells.length=(sizes p.vars).toNat
 outn:m.outn≤o
 rd:m.rd≤inp.length
theorem GZ {p:Pr} (hc:bR p=0) {i:Nat} (hi:i<(ak p).length):ln ((ak p).take i)≤24:=by
 cases i with
 |zero=>rw[List.take_zero,rV];decide
 |succ j=>
  obtain⟨x,hx⟩:∃x,(ak p)[j]? =some x:=⟨_,List.getElem?_eq_getElem (by omega)⟩;exact(tg hc hx).2.1
theorem Ba.ok {p:Pr} {inp:List Int} {b:Be} (hc:bR p=0) (h:Ba p inp b.out.length b.m) (h0:b.m.st=0) (hi:inp.length≤1000000) (ho:b.out.length≤1000000) (hl:(ak p).length≤1000000):∃x,lW (ak p) inp b x:=by
 obtain⟨h1,h2⟩:=h.at_ h0;obtain⟨x,hx⟩:∃x,(ak p)[b.m.next]? =some x:=⟨_,List.getElem?_eq_getElem h1⟩;obtain⟨f1,f2,f3,f4,f5⟩:=tg hc hx;obtain⟨-,-,nU,zn⟩:=dr hc;have h24:=GZ hc h1;have dY:=h.cells;have pI:=h.rd;have zp:(0:Int)≤sizes p.vars:=dU nU;refine⟨x,h0,hx,by omega,?_,fun ho=>?_,by omega,by omega,hl,by omega,ho,h.outn⟩
 ·rw[show ((b.m.cells.length:Nat):Int)=sizes p.vars by omega];exact f5
 ·obtain⟨j,e,-⟩:=uU hc (List.mem_of_getElem? hx) ho;omega
theorem Ba.step {p:Pr} {inp:List Int} {b:Be} {x:In} {keep:Bool} (hc:bR p=0) (h:Ba p inp b.out.length b.m) (hk:lW (ak p) inp b x):
 Ba p inp (b5 (ak p) inp keep b).out.length (b5 (ak p) inp keep b).m∧b.out.length≤(b5 (ak p) inp keep b).out.length∧(b5 (ak p) inp keep b).out.length≤b.out.length+1∧((b5 (ak p) inp keep b).kept=b.kept∨(b5 (ak p) inp keep b).kept=(b5 (ak p) inp keep b).m∧(b5 (ak p) inp keep b).m.st=0):=by
 obtain⟨⟨next,stack,rd,outn,st,cells⟩,kept,out,wrong⟩:=b;obtain⟨iM,hx,bK,-,-,-,-,-,-,-,-⟩:=hk;obtain⟨KO,dY,OB,pI⟩:=h;simp only at iM hx bK KO dY OB pI;subst iM;obtain⟨aT,hn⟩:=KO rfl;obtain⟨f1,f2,f3,f4,-⟩:=tg hc hx;(have hd:ln ((ak p).take (next+1))=ln ((ak p).take next)+(fB x.op-bX x.op):=by rw[xt hx,cJ,gZ];rfl);(have Rz:=fun ho=>uU hc (List.mem_of_getElem? hx) ho);rw[b5,hx];obtain⟨op,a,bb,n⟩:=x;simp only[bump] at hd f1 f3 f4 Rz bK⊢
 have eg:op≠16→next+1<(ak p).length:=fun h=>by
  (have:¬next=(ak p).length-1:=fun e=>h (f4.2 e));omega
 clear f2 KO hx f4;by_cases h1:op=1
 ·subst h1;have eg:=eg;simp only[bX,fB] at hd bK;simp at hd bK;rw[show aL inp keep ⟨1,a,bb,n⟩ ⟨⟨next+1,stack,rd,outn,0,cells⟩,kept,out,wrong⟩=⟨⟨next+1,n::stack,rd,outn,0,cells⟩,kept,out,wrong⟩ from rfl];dsimp only;exact⟨⟨fun _=>⟨eg (by decide),by first|omega|(simp only[List.length_cons,List.length_append,List.length_nil];omega)⟩,dY,by first|omega|(simp only[List.length_cons,List.length_append,List.length_nil];omega),by first|omega|(simp only[List.length_cons,List.length_append,List.length_nil];omega)⟩,by first|omega|(simp only[List.length_cons,List.length_append,List.length_nil];omega),by first|omega|(simp only[List.length_cons,List.length_append,List.length_nil];omega),.inl rfl⟩
 by_cases h2:op=2
 ·subst h2;have eg:=eg;simp only[bX,fB] at hd bK;simp at hd bK;rw[show aL inp keep ⟨2,a,bb,n⟩ ⟨⟨next+1,stack,rd,outn,0,cells⟩,kept,out,wrong⟩=⟨⟨next+1,cells.getD a.toNat 0::stack,rd,outn,0,cells⟩,kept,out,wrong⟩ from rfl];dsimp only;exact⟨⟨fun _=>⟨eg (by decide),by first|omega|(simp only[List.length_cons,List.length_append,List.length_nil];omega)⟩,dY,by first|omega|(simp only[List.length_cons,List.length_append,List.length_nil];omega),by first|omega|(simp only[List.length_cons,List.length_append,List.length_nil];omega)⟩,by first|omega|(simp only[List.length_cons,List.length_append,List.length_nil];omega),by first|omega|(simp only[List.length_cons,List.length_append,List.length_nil];omega),.inl rfl⟩
 by_cases h3:op=3
 ·subst h3;have eg:=eg;simp only[bX,fB] at hd bK;simp at hd bK
  obtain⟨k,s,rfl⟩:∃n s,stack=n::s:=by
   cases stack with
   |nil=>simp at bK
   |cons n s=>exact⟨n,s,rfl⟩
  simp only[List.length_cons] at hn;by_cases hk:k<0∨bb≤k
  ·skip;rw[show aL inp keep ⟨3,a,bb,n⟩ ⟨⟨next+1,k::s,rd,outn,0,cells⟩,kept,out,wrong⟩=⟨⟨next+1,s,rd,outn,13,cells⟩,kept,out,wrong⟩ from by simp[aL,hk]];dsimp only;exact⟨⟨fun q=>by simp at q,dY,by first|omega|(simp only[List.length_cons,List.length_append,List.length_nil];omega),by first|omega|(simp only[List.length_cons,List.length_append,List.length_nil];omega)⟩,by first|omega|(simp only[List.length_cons,List.length_append,List.length_nil];omega),by first|omega|(simp only[List.length_cons,List.length_append,List.length_nil];omega),.inl rfl⟩
  ·skip;rw[show aL inp keep ⟨3,a,bb,n⟩ ⟨⟨next+1,k::s,rd,outn,0,cells⟩,kept,out,wrong⟩=⟨⟨next+1,cells.getD (a+k).toNat 0::s,rd,outn,0,cells⟩,kept,out,wrong⟩ from by simp[aL,hk]];dsimp only;exact⟨⟨fun _=>⟨eg (by decide),by first|omega|(simp only[List.length_cons,List.length_append,List.length_nil];omega)⟩,dY,by first|omega|(simp only[List.length_cons,List.length_append,List.length_nil];omega),by first|omega|(simp only[List.length_cons,List.length_append,List.length_nil];omega)⟩,by first|omega|(simp only[List.length_cons,List.length_append,List.length_nil];omega),by first|omega|(simp only[List.length_cons,List.length_append,List.length_nil];omega),.inl rfl⟩
 by_cases h4:op=4
 ·subst h4;have eg:=eg;simp only[bX,fB] at hd bK;simp at hd bK
  obtain⟨y,z,s,rfl⟩:∃y z s,stack=y::z::s:=by
   cases stack with
   |nil=>simp at bK
   |cons y s=>cases s with
    |nil=>simp at bK
    |cons z s=>exact⟨y,z,s,rfl⟩
  simp only[List.length_cons] at hn;rw[show aL inp keep ⟨4,a,bb,n⟩ ⟨⟨next+1,y::z::s,rd,outn,0,cells⟩,kept,out,wrong⟩=⟨⟨next+1,fh 4 z y::s,rd,outn,0,cells⟩,kept,out,wrong⟩ from rfl];dsimp only;exact⟨⟨fun _=>⟨eg (by decide),by first|omega|(simp only[List.length_cons,List.length_append,List.length_nil];omega)⟩,dY,by first|omega|(simp only[List.length_cons,List.length_append,List.length_nil];omega),by first|omega|(simp only[List.length_cons,List.length_append,List.length_nil];omega)⟩,by first|omega|(simp only[List.length_cons,List.length_append,List.length_nil];omega),by first|omega|(simp only[List.length_cons,List.length_append,List.length_nil];omega),.inl rfl⟩
 by_cases h5:op=5
 ·subst h5;have eg:=eg;simp only[bX,fB] at hd bK;simp at hd bK
  obtain⟨y,z,s,rfl⟩:∃y z s,stack=y::z::s:=by
   cases stack with
   |nil=>simp at bK
   |cons y s=>cases s with
    |nil=>simp at bK
    |cons z s=>exact⟨y,z,s,rfl⟩
  simp only[List.length_cons] at hn;rw[show aL inp keep ⟨5,a,bb,n⟩ ⟨⟨next+1,y::z::s,rd,outn,0,cells⟩,kept,out,wrong⟩=⟨⟨next+1,fh 5 z y::s,rd,outn,0,cells⟩,kept,out,wrong⟩ from rfl];dsimp only;exact⟨⟨fun _=>⟨eg (by decide),by first|omega|(simp only[List.length_cons,List.length_append,List.length_nil];omega)⟩,dY,by first|omega|(simp only[List.length_cons,List.length_append,List.length_nil];omega),by first|omega|(simp only[List.length_cons,List.length_append,List.length_nil];omega)⟩,by first|omega|(simp only[List.length_cons,List.length_append,List.length_nil];omega),by first|omega|(simp only[List.length_cons,List.length_append,List.length_nil];omega),.inl rfl⟩
 by_cases h6:op=6
 ·subst h6;have eg:=eg;simp only[bX,fB] at hd bK;simp at hd bK
  obtain⟨y,z,s,rfl⟩:∃y z s,stack=y::z::s:=by
   cases stack with
   |nil=>simp at bK
   |cons y s=>cases s with
    |nil=>simp at bK
    |cons z s=>exact⟨y,z,s,rfl⟩
  simp only[List.length_cons] at hn;rw[show aL inp keep ⟨6,a,bb,n⟩ ⟨⟨next+1,y::z::s,rd,outn,0,cells⟩,kept,out,wrong⟩=⟨⟨next+1,fh 6 z y::s,rd,outn,0,cells⟩,kept,out,wrong⟩ from rfl];dsimp only;exact⟨⟨fun _=>⟨eg (by decide),by first|omega|(simp only[List.length_cons,List.length_append,List.length_nil];omega)⟩,dY,by first|omega|(simp only[List.length_cons,List.length_append,List.length_nil];omega),by first|omega|(simp only[List.length_cons,List.length_append,List.length_nil];omega)⟩,by first|omega|(simp only[List.length_cons,List.length_append,List.length_nil];omega),by first|omega|(simp only[List.length_cons,List.length_append,List.length_nil];omega),.inl rfl⟩
 by_cases h7:op=7
 ·subst h7;have eg:=eg;simp only[bX,fB] at hd bK;simp at hd bK
  obtain⟨y,z,s,rfl⟩:∃y z s,stack=y::z::s:=by
   cases stack with
   |nil=>simp at bK
   |cons y s=>cases s with
    |nil=>simp at bK
    |cons z s=>exact⟨y,z,s,rfl⟩
  simp only[List.length_cons] at hn;rw[show aL inp keep ⟨7,a,bb,n⟩ ⟨⟨next+1,y::z::s,rd,outn,0,cells⟩,kept,out,wrong⟩=⟨⟨next+1,fh 7 z y::s,rd,outn,0,cells⟩,kept,out,wrong⟩ from rfl];dsimp only;exact⟨⟨fun _=>⟨eg (by decide),by first|omega|(simp only[List.length_cons,List.length_append,List.length_nil];omega)⟩,dY,by first|omega|(simp only[List.length_cons,List.length_append,List.length_nil];omega),by first|omega|(simp only[List.length_cons,List.length_append,List.length_nil];omega)⟩,by first|omega|(simp only[List.length_cons,List.length_append,List.length_nil];omega),by first|omega|(simp only[List.length_cons,List.length_append,List.length_nil];omega),.inl rfl⟩
 by_cases h8:op=8
 ·subst h8;have eg:=eg;simp only[bX,fB] at hd bK;simp at hd bK
  obtain⟨y,z,s,rfl⟩:∃y z s,stack=y::z::s:=by
   cases stack with
   |nil=>simp at bK
   |cons y s=>cases s with
    |nil=>simp at bK
    |cons z s=>exact⟨y,z,s,rfl⟩
  simp only[List.length_cons] at hn;rw[show aL inp keep ⟨8,a,bb,n⟩ ⟨⟨next+1,y::z::s,rd,outn,0,cells⟩,kept,out,wrong⟩=⟨⟨next+1,fh 8 z y::s,rd,outn,0,cells⟩,kept,out,wrong⟩ from rfl];dsimp only;exact⟨⟨fun _=>⟨eg (by decide),by first|omega|(simp only[List.length_cons,List.length_append,List.length_nil];omega)⟩,dY,by first|omega|(simp only[List.length_cons,List.length_append,List.length_nil];omega),by first|omega|(simp only[List.length_cons,List.length_append,List.length_nil];omega)⟩,by first|omega|(simp only[List.length_cons,List.length_append,List.length_nil];omega),by first|omega|(simp only[List.length_cons,List.length_append,List.length_nil];omega),.inl rfl⟩
 by_cases h9:op=9
 ·subst h9;have eg:=eg;simp only[bX,fB] at hd bK;simp at hd bK
  obtain⟨k,s,rfl⟩:∃n s,stack=n::s:=by
   cases stack with
   |nil=>simp at bK
   |cons n s=>exact⟨n,s,rfl⟩
  simp only[List.length_cons] at hn;rw[show aL inp keep ⟨9,a,bb,n⟩ ⟨⟨next+1,k::s,rd,outn,0,cells⟩,kept,out,wrong⟩=⟨⟨next+1,s,rd,outn,0,cells.set a.toNat k⟩,kept,out,wrong⟩ from rfl];dsimp only;exact⟨⟨fun _=>⟨eg (by decide),by first|omega|(simp only[List.length_cons,List.length_append,List.length_nil];omega)⟩,by simpa using dY,by first|omega|(simp only[List.length_cons,List.length_append,List.length_nil];omega),by first|omega|(simp only[List.length_cons,List.length_append,List.length_nil];omega)⟩,by first|omega|(simp only[List.length_cons,List.length_append,List.length_nil];omega),by first|omega|(simp only[List.length_cons,List.length_append,List.length_nil];omega),.inl rfl⟩
 by_cases yx:op=10
 ·subst yx;have eg:=eg;simp only[bX,fB] at hd bK;simp at hd bK
  obtain⟨y,k,s,rfl⟩:∃y z s,stack=y::z::s:=by
   cases stack with
   |nil=>simp at bK
   |cons y s=>cases s with
    |nil=>simp at bK
    |cons z s=>exact⟨y,z,s,rfl⟩
  simp only[List.length_cons] at hn;by_cases hk:k<0∨bb≤k
  ·skip;rw[show aL inp keep ⟨10,a,bb,n⟩ ⟨⟨next+1,y::k::s,rd,outn,0,cells⟩,kept,out,wrong⟩=⟨⟨next+1,s,rd,outn,13,cells⟩,kept,out,wrong⟩ from by simp[aL,hk]];dsimp only;exact⟨⟨fun q=>by simp at q,dY,by first|omega|(simp only[List.length_cons,List.length_append,List.length_nil];omega),by first|omega|(simp only[List.length_cons,List.length_append,List.length_nil];omega)⟩,by first|omega|(simp only[List.length_cons,List.length_append,List.length_nil];omega),by first|omega|(simp only[List.length_cons,List.length_append,List.length_nil];omega),.inl rfl⟩
  ·skip;rw[show aL inp keep ⟨10,a,bb,n⟩ ⟨⟨next+1,y::k::s,rd,outn,0,cells⟩,kept,out,wrong⟩=⟨⟨next+1,s,rd,outn,0,cells.set (a+k).toNat y⟩,kept,out,wrong⟩ from by simp[aL,hk]];dsimp only;exact⟨⟨fun _=>⟨eg (by decide),by first|omega|(simp only[List.length_cons,List.length_append,List.length_nil];omega)⟩,by simpa using dY,by first|omega|(simp only[List.length_cons,List.length_append,List.length_nil];omega),by first|omega|(simp only[List.length_cons,List.length_append,List.length_nil];omega)⟩,by first|omega|(simp only[List.length_cons,List.length_append,List.length_nil];omega),by first|omega|(simp only[List.length_cons,List.length_append,List.length_nil];omega),.inl rfl⟩
 by_cases pB:op=11
 ·subst pB;have eg:=eg;simp only[bX,fB] at hd bK;simp at hd bK
  obtain⟨k,s,rfl⟩:∃n s,stack=n::s:=by
   cases stack with
   |nil=>simp at bK
   |cons n s=>exact⟨n,s,rfl⟩
  simp only[List.length_cons] at hn;by_cases hk:outn=out.length
  ·skip;rw[show aL inp keep ⟨11,a,bb,n⟩ ⟨⟨next+1,k::s,rd,outn,0,cells⟩,kept,out,wrong⟩=⟨⟨next+1,s,rd,outn+1,0,cells⟩,kept,out++[k],wrong⟩ from by simp[aL,hk]];dsimp only;exact⟨⟨fun _=>⟨eg (by decide),by first|omega|(simp only[List.length_cons,List.length_append,List.length_nil];omega)⟩,dY,by first|omega|(simp only[List.length_cons,List.length_append,List.length_nil];omega),by first|omega|(simp only[List.length_cons,List.length_append,List.length_nil];omega)⟩,by first|omega|(simp only[List.length_cons,List.length_append,List.length_nil];omega),by first|omega|(simp only[List.length_cons,List.length_append,List.length_nil];omega),.inl rfl⟩
  ·skip;rw[show aL inp keep ⟨11,a,bb,n⟩ ⟨⟨next+1,k::s,rd,outn,0,cells⟩,kept,out,wrong⟩=⟨⟨next+1,s,rd,outn+1,0,cells⟩,kept,out,(wrong||decide (out.getD outn 0≠k))⟩ from by simp[aL,hk]];dsimp only;exact⟨⟨fun _=>⟨eg (by decide),by first|omega|(simp only[List.length_cons,List.length_append,List.length_nil];omega)⟩,dY,by first|omega|(simp only[List.length_cons,List.length_append,List.length_nil];omega),by first|omega|(simp only[List.length_cons,List.length_append,List.length_nil];omega)⟩,by first|omega|(simp only[List.length_cons,List.length_append,List.length_nil];omega),by first|omega|(simp only[List.length_cons,List.length_append,List.length_nil];omega),.inl rfl⟩
 by_cases vB:op=12
 ·subst vB;have eg:=eg;simp only[bX,fB] at hd bK;simp at hd bK;by_cases hk:inp.length≤rd
  ·skip;rw[show aL inp keep ⟨12,a,bb,n⟩ ⟨⟨next+1,stack,rd,outn,0,cells⟩,kept,out,wrong⟩=⟨⟨next+1,stack,rd,outn,14,cells⟩,kept,out,wrong⟩ from by simp[aL,hk]];dsimp only;exact⟨⟨fun q=>by simp at q,dY,by first|omega|(simp only[List.length_cons,List.length_append,List.length_nil];omega),by first|omega|(simp only[List.length_cons,List.length_append,List.length_nil];omega)⟩,by first|omega|(simp only[List.length_cons,List.length_append,List.length_nil];omega),by first|omega|(simp only[List.length_cons,List.length_append,List.length_nil];omega),.inl rfl⟩
  ·skip;rw[show aL inp keep ⟨12,a,bb,n⟩ ⟨⟨next+1,stack,rd,outn,0,cells⟩,kept,out,wrong⟩=⟨⟨next+1,stack,rd+1,outn,0,cells.set a.toNat (inp.getD rd 0)⟩,kept,out,wrong⟩ from by simp[aL,hk]];dsimp only;exact⟨⟨fun _=>⟨eg (by decide),by first|omega|(simp only[List.length_cons,List.length_append,List.length_nil];omega)⟩,by simpa using dY,by first|omega|(simp only[List.length_cons,List.length_append,List.length_nil];omega),by first|omega|(simp only[List.length_cons,List.length_append,List.length_nil];omega)⟩,by first|omega|(simp only[List.length_cons,List.length_append,List.length_nil];omega),by first|omega|(simp only[List.length_cons,List.length_append,List.length_nil];omega),.inl rfl⟩
 by_cases CQ:op=13
 ·subst CQ;have eg:=eg;simp only[bX,fB] at hd bK;simp at hd bK
  obtain⟨k,s,rfl⟩:∃n s,stack=n::s:=by
   cases stack with
   |nil=>simp at bK
   |cons n s=>exact⟨n,s,rfl⟩
  simp only[List.length_cons] at hn;obtain⟨j,rfl,hj,hz⟩:=Rz (by decide);have f3:=f3 (by decide);by_cases hk:k=0
  ·skip;rw[show aL inp keep ⟨13,(j:Int),bb,n⟩ ⟨⟨next+1,k::s,rd,outn,0,cells⟩,kept,out,wrong⟩=⟨⟨j,s,rd,outn,0,cells⟩,kept,out,wrong⟩ from by simp[aL,hk]];dsimp only;exact⟨⟨fun _=>⟨hj,by first|omega|(simp only[List.length_cons,List.length_append,List.length_nil];omega)⟩,dY,by first|omega|(simp only[List.length_cons,List.length_append,List.length_nil];omega),by first|omega|(simp only[List.length_cons,List.length_append,List.length_nil];omega)⟩,by first|omega|(simp only[List.length_cons,List.length_append,List.length_nil];omega),by first|omega|(simp only[List.length_cons,List.length_append,List.length_nil];omega),.inl rfl⟩
  ·skip;rw[show aL inp keep ⟨13,(j:Int),bb,n⟩ ⟨⟨next+1,k::s,rd,outn,0,cells⟩,kept,out,wrong⟩=⟨⟨next+1,s,rd,outn,0,cells⟩,kept,out,wrong⟩ from by simp[aL,hk]];dsimp only;exact⟨⟨fun _=>⟨eg (by decide),by first|omega|(simp only[List.length_cons,List.length_append,List.length_nil];omega)⟩,dY,by first|omega|(simp only[List.length_cons,List.length_append,List.length_nil];omega),by first|omega|(simp only[List.length_cons,List.length_append,List.length_nil];omega)⟩,by first|omega|(simp only[List.length_cons,List.length_append,List.length_nil];omega),by first|omega|(simp only[List.length_cons,List.length_append,List.length_nil];omega),.inl rfl⟩
 by_cases ud:op=14
 ·subst ud;have eg:=eg;simp only[bX,fB] at hd bK;simp at hd bK;obtain⟨j,rfl,hj,hz⟩:=Rz (by decide);have f3:=f3 (by decide);rw[show aL inp keep ⟨14,(j:Int),bb,n⟩ ⟨⟨next+1,stack,rd,outn,0,cells⟩,kept,out,wrong⟩=⟨⟨j,stack,rd,outn,0,cells⟩,kept,out,wrong⟩ from by simp[aL]];dsimp only;exact⟨⟨fun _=>⟨hj,by first|omega|(simp only[List.length_cons,List.length_append,List.length_nil];omega)⟩,dY,by first|omega|(simp only[List.length_cons,List.length_append,List.length_nil];omega),by first|omega|(simp only[List.length_cons,List.length_append,List.length_nil];omega)⟩,by first|omega|(simp only[List.length_cons,List.length_append,List.length_nil];omega),by first|omega|(simp only[List.length_cons,List.length_append,List.length_nil];omega),.inl rfl⟩
 by_cases js:op=15
 ·subst js;have eg:=eg;simp only[bX,fB] at hd bK;simp at hd bK
  cases keep with
  |false=>
   rw[show aL inp false ⟨15,a,bb,n⟩ ⟨⟨next+1,stack,rd,outn,0,cells⟩,kept,out,wrong⟩=⟨⟨next+1,stack,rd,outn,0,cells⟩,kept,out,wrong⟩ from rfl];dsimp only;exact⟨⟨fun _=>⟨eg (by decide),by first|omega|(simp only[List.length_cons,List.length_append,List.length_nil];omega)⟩,dY,by first|omega|(simp only[List.length_cons,List.length_append,List.length_nil];omega),by first|omega|(simp only[List.length_cons,List.length_append,List.length_nil];omega)⟩,by first|omega|(simp only[List.length_cons,List.length_append,List.length_nil];omega),by first|omega|(simp only[List.length_cons,List.length_append,List.length_nil];omega),.inl rfl⟩
  |true=>
   rw[show aL inp true ⟨15,a,bb,n⟩ ⟨⟨next+1,stack,rd,outn,0,cells⟩,kept,out,wrong⟩=⟨⟨next+1,stack,rd,outn,0,cells⟩,⟨next+1,stack,rd,outn,0,cells⟩,out,wrong⟩ from rfl];dsimp only;exact⟨⟨fun _=>⟨eg (by decide),by first|omega|(simp only[List.length_cons,List.length_append,List.length_nil];omega)⟩,dY,by first|omega|(simp only[List.length_cons,List.length_append,List.length_nil];omega),by first|omega|(simp only[List.length_cons,List.length_append,List.length_nil];omega)⟩,by first|omega|(simp only[List.length_cons,List.length_append,List.length_nil];omega),by first|omega|(simp only[List.length_cons,List.length_append,List.length_nil];omega),.inr ⟨rfl,rfl⟩⟩
 by_cases CR:op=16
 ·subst CR;have eg:=eg;simp only[bX,fB] at hd bK;simp at hd bK;rw[show aL inp keep ⟨16,a,bb,n⟩ ⟨⟨next+1,stack,rd,outn,0,cells⟩,kept,out,wrong⟩=⟨⟨next+1,stack,rd,outn,1,cells⟩,kept,out,wrong⟩ from rfl];dsimp only;exact⟨⟨fun q=>by simp at q,dY,by first|omega|(simp only[List.length_cons,List.length_append,List.length_nil];omega),by first|omega|(simp only[List.length_cons,List.length_append,List.length_nil];omega)⟩,by first|omega|(simp only[List.length_cons,List.length_append,List.length_nil];omega),by first|omega|(simp only[List.length_cons,List.length_append,List.length_nil];omega),.inl rfl⟩
 (have hA:bX op=0:=by simp only[bX];rw[if_neg h3,if_neg (show ¬(4≤op∧op≤8) by omega),if_neg (show ¬(op=9∨op=11∨op=13) by omega),if_neg yx]);(have hB:fB op=0:=by simp only[fB];rw[if_neg (show ¬(1≤op∧op≤8) by omega)]);rw[hA,hB] at hd;simp only[aL];rw[if_neg h1,if_neg h2,if_neg h3,if_neg (show ¬(4≤op∧op≤8) by omega),if_neg h9,if_neg yx,if_neg pB,if_neg vB,if_neg CQ,if_neg ud,if_neg js,if_neg CR];dsimp only;exact⟨⟨fun _=>⟨eg CR,by show (stack.length:Int)=ln ((ak p).take (next+1));omega⟩,dY,by omega,by omega⟩,by omega,by omega,.inl rfl⟩
theorem jH {C:List (List Int)} (h:dC C) (a w:Int):dC (iD C a w):=by
 unfold iD;split
 ·rename_i hc;exact oM h _ (by rw[List.length_set];exact iw h (by omega))
 ·exact h
theorem wg {C:List (List Int)} (h:dC C) {a:Int} (w:Int) (ha:0≤a∧a<112) (b:Int):eL (iD C a w) b=if b=a then w else eL C b:=by
 by_cases hb:0≤b∧b<112
 ·obtain⟨n,rfl⟩:=Int.eq_ofNat_of_zero_le hb.1;exact DW h a w (by omega)
 ·rw[uR hb,uR hb,if_neg (by omega)]
structure bD (C:List (List Int)) (m:Mi):Prop where
 ok:dC C
 nx:eL C 0=m.next
 sl:eL C 1=m.stack.length
 rd:eL C 2=m.rd
 on:eL C 3=m.outn
 st:eL C 4=m.st
 ce:∀k:Nat,k<m.cells.length→eL C (5+k)=m.cells.getD k 0
 sk:∀j:Nat,j<m.stack.length→eL C (53+j)=m.stack.reverse.getD j 0
 lc:m.cells.length≤48
 ls:m.stack.length≤59
theorem G0 (n:Int) (s:List Int) {j:Nat} (h:j<s.length):(n::s).reverse.getD j 0=s.reverse.getD j 0:=by
 rw[List.reverse_cons,List.getD_eq_getElem?_getD,List.getD_eq_getElem?_getD,List.getElem?_append_left (by rw[List.length_reverse];exact h)]
theorem G1 (n:Int) (s:List Int):(n::s).reverse.getD s.length 0=n:=by
 rw[List.reverse_cons,List.getD_eq_getElem?_getD,List.getElem?_append_right (by simp)];simp
section
variable {C:List (List Int)} {next rd outn:Nat} {stack cells:List Int} {st:Int}
theorem bD.Lp (h:bD C ⟨next,stack,rd,outn,st,cells⟩) (n:Nat):bD (iD C 0 n) ⟨n,stack,rd,outn,st,cells⟩:=by
 have w:=wg h.ok (a:=0) n (by omega);refine⟨jH h.ok _ _,by rw[w,if_pos rfl],by rw[w,if_neg (by omega)];exact h.sl,by rw[w,if_neg (by omega)];exact h.rd,by rw[w,if_neg (by omega)];exact h.on,by rw[w,if_neg (by omega)];exact h.st,fun k hk=>?_,fun j hj=>?_,h.lc,h.ls⟩
 ·rw[w,if_neg (by omega)];exact h.ce k hk
 ·rw[w,if_neg (by omega)];exact h.sk j hj
theorem bD.YX (h:bD C ⟨next,stack,rd,outn,st,cells⟩) (n:Nat):bD (iD C 2 n) ⟨next,stack,n,outn,st,cells⟩:=by
 have w:=wg h.ok (a:=2) n (by omega);refine⟨jH h.ok _ _,by rw[w,if_neg (by omega)];exact h.nx,by rw[w,if_neg (by omega)];exact h.sl,by rw[w,if_pos rfl],by rw[w,if_neg (by omega)];exact h.on,by rw[w,if_neg (by omega)];exact h.st,fun k hk=>?_,fun j hj=>?_,h.lc,h.ls⟩
 ·rw[w,if_neg (by omega)];exact h.ce k hk
 ·rw[w,if_neg (by omega)];exact h.sk j hj
theorem bD.YY (h:bD C ⟨next,stack,rd,outn,st,cells⟩) (n:Nat):bD (iD C 3 n) ⟨next,stack,rd,n,st,cells⟩:=by
 have w:=wg h.ok (a:=3) n (by omega);refine⟨jH h.ok _ _,by rw[w,if_neg (by omega)];exact h.nx,by rw[w,if_neg (by omega)];exact h.sl,by rw[w,if_neg (by omega)];exact h.rd,by rw[w,if_pos rfl],by rw[w,if_neg (by omega)];exact h.st,fun k hk=>?_,fun j hj=>?_,h.lc,h.ls⟩
 ·rw[w,if_neg (by omega)];exact h.ce k hk
 ·rw[w,if_neg (by omega)];exact h.sk j hj
theorem bD.Lq (h:bD C ⟨next,stack,rd,outn,st,cells⟩) (n:Int):bD (iD C 4 n) ⟨next,stack,rd,outn,n,cells⟩:=by
 have w:=wg h.ok (a:=4) n (by omega);refine⟨jH h.ok _ _,by rw[w,if_neg (by omega)];exact h.nx,by rw[w,if_neg (by omega)];exact h.sl,by rw[w,if_neg (by omega)];exact h.rd,by rw[w,if_neg (by omega)];exact h.on,by rw[w,if_pos rfl],fun k hk=>?_,fun j hj=>?_,h.lc,h.ls⟩
 ·rw[w,if_neg (by omega)];exact h.ce k hk
 ·rw[w,if_neg (by omega)];exact h.sk j hj
theorem bD.RA (h:bD C ⟨next,stack,rd,outn,st,cells⟩) {a:Nat} (ha:a<cells.length) (n:Int):bD (iD C (5+a) n) ⟨next,stack,rd,outn,st,cells.set a n⟩:=by
 have hl:=h.lc;have hs:=h.ls;simp only at hl hs;have w:=wg h.ok (a:=5+a) n (by omega);refine⟨jH h.ok _ _,by rw[w,if_neg (by omega)];exact h.nx,by rw[w,if_neg (by omega)];exact h.sl,by rw[w,if_neg (by omega)];exact h.rd,by rw[w,if_neg (by omega)];exact h.on,by rw[w,if_neg (by omega)];exact h.st,fun k hk=>?_,fun j hj=>?_,by simpa using hl,hs⟩
 ·simp only[List.length_set] at hk;have e:=h.ce k hk;simp only[List.getD_eq_getElem?_getD,List.getElem?_set] at e⊢;rw[w];by_cases hak:a=k
  ·subst hak;rw[if_pos rfl,if_pos rfl,if_pos ha];rfl
  ·rw[if_neg (by omega),if_neg hak];exact e
 ·rw[w,if_neg (by omega)];exact h.sk j hj
theorem bD.push (h:bD C ⟨next,stack,rd,outn,st,cells⟩) (hl:stack.length<59) (n:Int):bD (iD (iD C 1 (stack.length+1)) (53+stack.length) n) ⟨next,n::stack,rd,outn,st,cells⟩:=by
 have hc:=h.lc;simp only at hc;have w1:=wg h.ok (a:=1) (stack.length+1) (by omega);have ok1:=jH h.ok 1 ((stack.length:Int)+1);have w2:=wg ok1 (a:=53+stack.length) n (by omega);refine⟨jH ok1 _ _,?_,?_,?_,?_,?_,fun k hk=>?_,fun j hj=>?_,hc,by simp only[List.length_cons];omega⟩
 ·rw[w2,if_neg (by omega),w1,if_neg (by omega)];exact h.nx
 ·rw[w2,if_neg (by omega),w1,if_pos rfl];simp
 ·rw[w2,if_neg (by omega),w1,if_neg (by omega)];exact h.rd
 ·rw[w2,if_neg (by omega),w1,if_neg (by omega)];exact h.on
 ·rw[w2,if_neg (by omega),w1,if_neg (by omega)];exact h.st
 ·simp only at hk;rw[w2,if_neg (by omega),w1,if_neg (by omega)];exact h.ce k hk
 ·simp only[List.length_cons] at hj;rw[w2];by_cases e:j=stack.length
  ·subst e;rw[if_pos rfl,G1]
  ·rw[if_neg (by omega),w1,if_neg (by omega),G0 n stack (by omega)];exact h.sk j (by show j<stack.length;omega)
theorem bD.pop {n:Int} {s:List Int} (h:bD C ⟨next,n::s,rd,outn,st,cells⟩):bD (iD C 1 s.length) ⟨next,s,rd,outn,st,cells⟩:=by
 have hc:=h.lc;have hs:=h.ls;simp only[List.length_cons] at hc hs;have w:=wg h.ok (a:=1) s.length (by omega);refine⟨jH h.ok _ _,by rw[w,if_neg (by omega)];exact h.nx,by rw[w,if_pos rfl],by rw[w,if_neg (by omega)];exact h.rd,by rw[w,if_neg (by omega)];exact h.on,by rw[w,if_neg (by omega)];exact h.st,fun k hk=>?_,fun j hj=>?_,hc,by show s.length≤59;omega⟩
 ·rw[w,if_neg (by omega)];exact h.ce k hk
 ·simp only at hj;rw[w,if_neg (by omega),←G0 n s hj];exact h.sk j (by show j<(n::s).length;rw[List.length_cons];omega)
theorem bD.top {n:Int} {s:List Int} (h:bD C ⟨next,n::s,rd,outn,st,cells⟩):eL C (53+s.length)=n:=by
 rw[h.sk s.length (by show _<(n::s).length;simp)];exact G1 n s
end
namespace Me
def eM (M:Me) (n:Int):Me:=(M.put 1 (M.ld 1+1)).put (53+M.ld 1) n
def aP (M:Me):Me:=M.put 1 (M.ld 1-1)
def cH (M:Me):Int:=M.aP.ld (52+M.ld 1)
def kX (inp:List Int) (x:In) (M:Me):Me:=
 if x.op=1 then M.eM x.n
 else if x.op=2 then M.eM (M.ld (5+x.a))
 else if x.op=3 then (if M.cH<0∨x.b≤M.cH then M.aP.put 4 13 else M.aP.eM (M.aP.ld (5+x.a+M.cH)))
 else if 4≤x.op∧x.op≤8 then M.aP.aP.eM (fh x.op M.aP.cH M.cH)
 else if x.op=9 then M.aP.put (5+x.a) M.cH
 else if x.op=10 then (if M.aP.cH<0∨x.b≤M.aP.cH then M.aP.aP.put 4 13 else M.aP.aP.put (5+x.a+M.aP.cH) M.cH)
 else if x.op=11 then M.aP.put 3 (M.aP.ld 3+1)
 else if x.op=12 then (if (inp.length:Int)≤M.ld 2 then M.put 4 14 else (M.put 2 (M.ld 2+1)).put (5+x.a) (inp.getD (M.ld 2).toNat 0))
 else if x.op=13 then (if M.cH=0 then M.aP.put 0 x.a else M.aP)
 else if x.op=14 then M.put 0 x.a
 else if x.op=15 then ⟨M.C,rG⟩
 else if x.op=16 then M.put 4 1
 else M
def kr (code:List In) (inp:List Int) (M:Me):Me:=match code[(M.ld 0).toNat]? with
 |none=>M
 |some x=>kX inp x (M.put 0 (M.ld 0+1))
end Me
section
variable {M:Me} {next rd outn:Nat} {stack cells:List Int} {st:Int}
theorem bD.aP {n:Int} {s:List Int} (h:bD M.C ⟨next,n::s,rd,outn,st,cells⟩):bD M.aP.C ⟨next,s,rd,outn,st,cells⟩:=by
 (have e:M.ld 1-1=s.length:=by rw[Me.ld,h.sl];simp);show bD (iD M.C 1 (M.ld 1-1)) _;rw[e];exact h.pop
theorem bD.cH {n:Int} {s:List Int} (h:bD M.C ⟨next,n::s,rd,outn,st,cells⟩):M.cH=n:=by
 have hs:=h.ls;simp only[List.length_cons] at hs;(have e:M.ld 1=s.length+1:=by rw[Me.ld,h.sl];simp);show eL (iD M.C 1 (M.ld 1-1)) (52+M.ld 1)=n;rw[wg h.ok _ (by omega),if_neg (by omega),e,show (52:Int)+(s.length+1)=53+s.length by omega];exact h.top
theorem bD.eM (h:bD M.C ⟨next,stack,rd,outn,st,cells⟩) (hl:stack.length<59) (n:Int):bD (M.eM n).C ⟨next,n::stack,rd,outn,st,cells⟩:=by
 have e:M.ld 1=stack.length:=h.sl;show bD (iD (iD M.C 1 (M.ld 1+1)) (53+M.ld 1) n) _;rw[e];exact h.push hl n
end
theorem bD.step {code:List In} {inp:List Int} {b:Be} {x:In} {M:Me} (keep:Bool) (h:bD M.C b.m) (hk:lW code inp b x) (hs:b.m.stack.length<59):bD (M.kr code inp).C (b5 code inp keep b).m:=by
 obtain⟨⟨next,stack,rd,outn,st,cells⟩,kept,out,wrong⟩:=b;obtain⟨iM,hx,bK,⟨eA,kY⟩,mj,Ie,dY,mT,pI,Ib,OB⟩:=hk;simp only at iM hx bK eA kY Ie dY mT pI Ib OB hs h;subst iM;have e0:M.ld 0=next:=h.nx;rw[b5,hx,Me.kr,e0,Int.toNat_natCast,hx];simp only[bump]
 have h1:bD (M.put 0 (((next:Nat):Int)+1)).C ⟨next+1,stack,rd,outn,0,cells⟩:=by
  have:=h.Lp (next+1);rw[Int.natCast_add] at this;exact this
 clear h e0;generalize M.put 0 (((next:Nat):Int)+1)=M at h1;obtain⟨op,a,bb,n⟩:=x;simp only at bK eA kY mj;clear hx;by_cases o1:op=1
 ·subst o1;exact h1.eM hs n
 by_cases o2:op=2
 ·subst o2;obtain⟨BV,Ol⟩:=eA (.inl rfl);obtain⟨a,rfl⟩:∃k:Nat,a=k:=⟨a.toNat,by omega⟩;have e:M.ld (5+(a:Int))=cells.getD a 0:=h1.ce a (by show a<cells.length;omega);have:=h1.eM hs (cells.getD a 0);rw[←e] at this;show bD (M.eM (M.ld (5+(a:Int)))).C ⟨next+1,cells.getD ((a:Int)).toNat 0::stack,rd,outn,0,cells⟩;rw[Int.toNat_natCast,←e];exact this
 by_cases o3:op=3
 ·subst o3
  obtain⟨k,s,rfl⟩:∃n s,stack=n::s:=by
   cases stack with
   |nil=>simp[bX] at bK
   |cons n s=>exact⟨n,s,rfl⟩
  obtain⟨QD,SN,YZ⟩:=kY (by decide);have ht:=h1.cH;have hp:=h1.aP;by_cases hk:k<0∨bb≤k
  ·(have e1:M.kX inp ⟨3,a,bb,n⟩=M.aP.put 4 13:=by simp[Me.kX,ht,hk]);(have e2:(aL inp keep ⟨3,a,bb,n⟩ ⟨⟨next+1,k::s,rd,outn,0,cells⟩,kept,out,wrong⟩)=⟨⟨next+1,s,rd,outn,13,cells⟩,kept,out,wrong⟩:=by simp[aL,hk]);rw[e1,e2];exact hp.Lq 13
  ·(have e1:M.kX inp ⟨3,a,bb,n⟩=M.aP.eM (M.aP.ld (5+a+k)):=by simp[Me.kX,ht,hk]);(have e2:(aL inp keep ⟨3,a,bb,n⟩ ⟨⟨next+1,k::s,rd,outn,0,cells⟩,kept,out,wrong⟩)=⟨⟨next+1,cells.getD (a+k).toNat 0::s,rd,outn,0,cells⟩,kept,out,wrong⟩:=by simp[aL,hk]);rw[e1,e2];obtain⟨j,hj⟩:∃j:Nat,a+k=j:=⟨(a+k).toNat,by omega⟩;have e:M.aP.ld (5+(j:Int))=cells.getD j 0:=hp.ce j (by show j<cells.length;omega);rw[show 5+a+k=5+(j:Int) by omega,hj,Int.toNat_natCast,e];exact hp.eM (by simp only[List.length_cons] at hs;omega) _
 by_cases o4:4≤op∧op≤8
 ·have OC:bX op=2:=by simp only[bX];rw[if_neg o3,if_pos o4]
  obtain⟨y,z,s,rfl⟩:∃y z s,stack=y::z::s:=by
   cases stack with
   |nil=>simp[OC] at bK
   |cons y s=>cases s with
    |nil=>simp[OC] at bK
    |cons z s=>exact⟨y,z,s,rfl⟩
  have e1:M.kX inp ⟨op,a,bb,n⟩=M.aP.aP.eM (fh op M.aP.cH M.cH):=by
   simp only[Me.kX];rw[if_neg o1,if_neg o2,if_neg o3,if_pos o4]
  have e2:(aL inp keep ⟨op,a,bb,n⟩ ⟨⟨next+1,y::z::s,rd,outn,0,cells⟩,kept,out,wrong⟩)=⟨⟨next+1,fh op z y::s,rd,outn,0,cells⟩,kept,out,wrong⟩:=by
   simp only[aL];rw[if_neg o1,if_neg o2,if_neg o3,if_pos o4]
  rw[e1,e2,h1.cH,h1.aP.cH];exact h1.aP.aP.eM (by simp only[List.length_cons] at hs;omega) _
 by_cases o9:op=9
 ·subst o9
  obtain⟨k,s,rfl⟩:∃n s,stack=n::s:=by
   cases stack with
   |nil=>simp[bX] at bK
   |cons n s=>exact⟨n,s,rfl⟩
  obtain⟨BV,Ol⟩:=eA (by decide);obtain⟨a,rfl⟩:∃k:Nat,a=k:=⟨a.toNat,by omega⟩;have:=h1.aP.RA (a:=a) (by omega) k;show bD (M.aP.put (5+(a:Int)) M.cH).C ⟨next+1,s,rd,outn,0,cells.set ((a:Int)).toNat k⟩;rw[Int.toNat_natCast,h1.cH];exact this
 by_cases Y0:op=10
 ·subst Y0
  obtain⟨y,z,s,rfl⟩:∃y z s,stack=y::z::s:=by
   cases stack with
   |nil=>simp[bX] at bK
   |cons y s=>cases s with
    |nil=>simp[bX] at bK
    |cons z s=>exact⟨y,z,s,rfl⟩
  obtain⟨QD,SN,YZ⟩:=kY (by decide);have ht:=h1.cH;have Y1:=h1.aP.cH;have hp:=h1.aP.aP;by_cases hk:z<0∨bb≤z
  ·(have e1:M.kX inp ⟨10,a,bb,n⟩=M.aP.aP.put 4 13:=by simp[Me.kX,Y1,hk]);(have e2:(aL inp keep ⟨10,a,bb,n⟩ ⟨⟨next+1,y::z::s,rd,outn,0,cells⟩,kept,out,wrong⟩)=⟨⟨next+1,s,rd,outn,13,cells⟩,kept,out,wrong⟩:=by simp[aL,hk]);rw[e1,e2];exact hp.Lq 13
  ·(have e1:M.kX inp ⟨10,a,bb,n⟩=M.aP.aP.put (5+a+z) y:=by simp[Me.kX,ht,Y1,hk]);(have e2:(aL inp keep ⟨10,a,bb,n⟩ ⟨⟨next+1,y::z::s,rd,outn,0,cells⟩,kept,out,wrong⟩)=⟨⟨next+1,s,rd,outn,0,cells.set (a+z).toNat y⟩,kept,out,wrong⟩:=by simp[aL,hk]);rw[e1,e2];obtain⟨j,hj⟩:∃j:Nat,a+z=j:=⟨(a+z).toNat,by omega⟩;rw[show 5+a+z=5+(j:Int) by omega,hj,Int.toNat_natCast];exact hp.RA (a:=j) (by omega) y
 by_cases Y2:op=11
 ·subst Y2
  obtain⟨k,s,rfl⟩:∃n s,stack=n::s:=by
   cases stack with
   |nil=>simp[bX] at bK
   |cons n s=>exact⟨n,s,rfl⟩
  have e:(aL inp keep ⟨11,a,bb,n⟩ ⟨⟨next+1,k::s,rd,outn,0,cells⟩,kept,out,wrong⟩).m=⟨next+1,s,rd,outn+1,0,cells⟩:=by
   by_cases Lr:outn=out.length<;>simp[aL,Lr]
  rw[e];have e3:M.aP.ld 3=outn:=h1.aP.on;have:=h1.aP.YY (outn+1);rw[Int.natCast_add] at this;show bD (M.aP.put 3 (M.aP.ld 3+1)).C _;rw[e3];exact this
 by_cases Y3:op=12
 ·subst Y3;obtain⟨BV,Ol⟩:=eA (by decide);obtain⟨a,rfl⟩:∃k:Nat,a=k:=⟨a.toNat,by omega⟩;have e2:M.ld 2=rd:=h1.rd;by_cases hr:inp.length≤rd
  ·(have e1:M.kX inp ⟨12,a,bb,n⟩=M.put 4 14:=by simp[Me.kX,e2,hr]);(have e3:(aL inp keep ⟨12,a,bb,n⟩ ⟨⟨next+1,stack,rd,outn,0,cells⟩,kept,out,wrong⟩)=⟨⟨next+1,stack,rd,outn,14,cells⟩,kept,out,wrong⟩:=by simp[aL,hr]);rw[e1,e3];exact h1.Lq 14
  ·(have SC:¬((inp.length:Int)≤rd):=by omega);(have e1:M.kX inp ⟨12,a,bb,n⟩=(M.put 2 (rd+1)).put (5+a) (inp.getD rd 0):=by simp[Me.kX,e2,hr]);(have e3:(aL inp keep ⟨12,a,bb,n⟩ ⟨⟨next+1,stack,rd,outn,0,cells⟩,kept,out,wrong⟩)=⟨⟨next+1,stack,rd+1,outn,0,cells.set a (inp.getD rd 0)⟩,kept,out,wrong⟩:=by simp[aL,hr]);rw[e1,e3];have:=h1.YX (rd+1);rw[Int.natCast_add] at this;exact this.RA (a:=a) (by omega) _
 by_cases Y4:op=13
 ·subst Y4
  obtain⟨k,s,rfl⟩:∃n s,stack=n::s:=by
   cases stack with
   |nil=>simp[bX] at bK
   |cons n s=>exact⟨n,s,rfl⟩
  obtain⟨a,rfl⟩:∃k:Nat,a=k:=⟨a.toNat,by have:=mj (by decide);omega⟩;have ht:=h1.cH;by_cases hk:k=0
  ·(have e1:M.kX inp ⟨13,a,bb,n⟩=M.aP.put 0 a:=by simp[Me.kX,ht,hk]);(have e2:(aL inp keep ⟨13,a,bb,n⟩ ⟨⟨next+1,k::s,rd,outn,0,cells⟩,kept,out,wrong⟩)=⟨⟨a,s,rd,outn,0,cells⟩,kept,out,wrong⟩:=by simp[aL,hk]);rw[e1,e2];exact h1.aP.Lp a
  ·(have e1:M.kX inp ⟨13,a,bb,n⟩=M.aP:=by simp[Me.kX,ht,hk]);(have e2:(aL inp keep ⟨13,a,bb,n⟩ ⟨⟨next+1,k::s,rd,outn,0,cells⟩,kept,out,wrong⟩)=⟨⟨next+1,s,rd,outn,0,cells⟩,kept,out,wrong⟩:=by simp[aL,hk]);rw[e1,e2];exact h1.aP
 by_cases Y5:op=14
 ·subst Y5;obtain⟨a,rfl⟩:∃k:Nat,a=k:=⟨a.toNat,by have:=mj (by decide);omega⟩;exact h1.Lp a
 by_cases Y6:op=15
 ·subst Y6;cases keep<;>exact h1
 by_cases Y7:op=16
 ·subst Y7;exact h1.Lq 1
 have e1:M.kX inp ⟨op,a,bb,n⟩=M:=by
  simp only[Me.kX];rw[if_neg o1,if_neg o2,if_neg o3,if_neg o4,if_neg o9,if_neg Y0,if_neg Y2,if_neg Y3,if_neg Y4,if_neg Y5,if_neg Y6,if_neg Y7]
 have e2:(aL inp keep ⟨op,a,bb,n⟩ ⟨⟨next+1,stack,rd,outn,0,cells⟩,kept,out,wrong⟩)=⟨⟨next+1,stack,rd,outn,0,cells⟩,kept,out,wrong⟩:=by
  simp only[aL];rw[if_neg o1,if_neg o2,if_neg o3,if_neg o4,if_neg o9,if_neg Y0,if_neg Y2,if_neg Y3,if_neg Y4,if_neg Y5,if_neg Y6,if_neg Y7]
 rw[e1,e2];exact h1
def tj (wrong:Bool):Int:=if wrong then 15 else 0
def bY (pb:Nat) (out:List Int) (wrong:Bool):HP:=fun m=>∃x:Option Addr×Nat,True∧Sat [au pb [.slice x.1 out.length x.2,i64 (tj wrong)] 168,bn 2 1 (.slice x.1 out.length x.2) out.length (ints out)] m
theorem bY.aY {pb:Nat} {out:List Int} {wrong:Bool}:∀m,bY pb out wrong m→∃x:Option Addr×Nat,True∧Sat [au pb [.slice x.1 out.length x.2,i64 (tj wrong)] 168,bn 2 1 (.slice x.1 out.length x.2) out.length (ints out)] m:=fun _ h=>h
theorem bY.mk {pb:Nat} {out:List Int} {wrong:Bool} {p:Option Addr} {c n:Nat} {k:Int} {vs:List Value} (hn:n=out.length) (hk:k=tj wrong) (hv:vs=ints out):∀m,Sat [au pb [.slice p n c,i64 k] 168,bn 2 1 (.slice p n c) n vs] m→bY pb out wrong m:=fun _ h=>⟨(p,c),trivial,by subst hn;subst hk;subst hv;exact h⟩
def zx (out:List Int) (wrong:Bool) (a n:Int):List Int×Bool:=
 if a=out.length then (out++[n],wrong) else if a<0∨(out.length:Int)<a∨out.getD a.toNat 0≠n then (out,true) else (out,wrong)
theorem RB (σ:PH) (pb:Nat) (out:List Int) (wrong:Bool) (a n:Int) (hl:out.length≤1000000):
 ae Tryz.prog 195 #[ptr pb,i64 a,i64 n] σ [bY pb out wrong] (aE fun v ag ah=>v=.tuple #[]∧σ=ag∧ah=[bY pb (zx out wrong a n).1 (zx out wrong a n).2]):=by
 by_cases h1:a=out.length
 ·(have e:zx out wrong a n=(out++[n],wrong):=by rw[zx,if_pos h1]);rw[e];have gG:dn [i64 n]:=jc rfl;refine ob Tryz.func195 ?_;refine bq ?_;(first|refine XA.aY (R:=bY pb out wrong) zL (bY.aY) ?_|refine az.aY (R:=bY pb out wrong) zL (bY.aY) ?_|refine DA.aY (R:=bY pb out wrong) zL (bY.aY) ?_);rintro⟨p,c⟩-;(first|refine XA.cl ?_|refine az.cl ?_|refine DA.cl ?_);refine aW ?_;refine XA.bG rfl (decide_eq_true h1) ?_;refine bt ?_;refine zw rfl (aC.qO (ad rfl) rfl (ad rfl)) ?_;rintro _ _ _ ⟨g20,rfl,rfl,rfl⟩;refine zw rfl (aC.tS (ad rfl) rfl (ad rfl) rfl rfl rfl) ?_;rintro _ _ _ ⟨p21,c21,rfl,rfl,rfl⟩;refine b9 ?_;exact ao.normal (aG.none rfl) (aw.eC zE (bY.mk (by simp) rfl (by simp[ints]))) ⟨rfl,rfl,rfl⟩
 by_cases h2:a<0
 ·(have e:zx out wrong a n=(out,true):=by rw[zx,if_neg h1,if_pos (.inl h2)]);rw[e];refine ob Tryz.func195 ?_;refine bq ?_;(first|refine XA.aY (R:=bY pb out wrong) zL (bY.aY) ?_|refine az.aY (R:=bY pb out wrong) zL (bY.aY) ?_|refine DA.aY (R:=bY pb out wrong) zL (bY.aY) ?_);rintro⟨p,c⟩-;(first|refine XA.cl ?_|refine az.cl ?_|refine DA.cl ?_);refine aW ?_;refine XA.aR rfl (decide_eq_false h1) ?_;refine Ku ?_;refine XA.bG rfl (by first|rfl|exact decide_eq_true h2) ?_;refine bt ?_;exact ao.normal (aG.none rfl) (aw.eC zE (bY.mk rfl rfl rfl)) ⟨rfl,rfl,rfl⟩
 by_cases h3:(out.length:Int)<a
 ·(have e:zx out wrong a n=(out,true):=by rw[zx,if_neg h1,if_pos (.inr (.inl h3))]);rw[e];refine ob Tryz.func195 ?_;refine bq ?_;(first|refine XA.aY (R:=bY pb out wrong) zL (bY.aY) ?_|refine az.aY (R:=bY pb out wrong) zL (bY.aY) ?_|refine DA.aY (R:=bY pb out wrong) zL (bY.aY) ?_);rintro⟨p,c⟩-;(first|refine XA.cl ?_|refine az.cl ?_|refine DA.cl ?_);refine aW ?_;refine XA.aR rfl (decide_eq_false h1) ?_;refine Ku ?_;refine XA.bG rfl (by first|rfl|exact decide_eq_true h3) ?_;refine bt ?_;exact ao.normal (aG.none rfl) (aw.eC zE (bY.mk rfl rfl rfl)) ⟨rfl,rfl,rfl⟩
 obtain⟨k,rfl⟩:∃k:Nat,a=k:=⟨a.toNat,by omega⟩;(have hk:k<out.length:=by omega);obtain⟨y,hy⟩:∃y,y=out.getD k 0:=⟨_,rfl⟩;(have hv:(ints out)[k]? =some (i64 y):=by rw[hy];simp[ints,hk]);by_cases h4:y=n
 ·have e:zx out wrong k n=(out,wrong):=by
   rw[zx,if_neg h1,if_neg];rw[Int.toNat_natCast,←hy];rintro(h|h|h)
   ·exact h2 h
   ·exact h3 h
   ·exact h h4
  rw[e];refine ob Tryz.func195 ?_;refine bq ?_;(first|refine XA.aY (R:=bY pb out wrong) zL (bY.aY) ?_|refine az.aY (R:=bY pb out wrong) zL (bY.aY) ?_|refine DA.aY (R:=bY pb out wrong) zL (bY.aY) ?_);rintro⟨p,c⟩-;(first|refine XA.cl ?_|refine az.cl ?_|refine DA.cl ?_);(first|refine XA.aY (R:=bn 2 1 (.slice p out.length c) _ _) zL (ep (by omega)) ?_|refine az.aY (R:=bn 2 1 (.slice p out.length c) _ _) zL (ep (by omega)) ?_|refine DA.aY (R:=bn 2 1 (.slice p out.length c) _ _) zL (ep (by omega)) ?_);rintro g70 rfl;(first|refine XA.cl ?_|refine az.cl ?_|refine DA.cl ?_);refine aW ?_;refine XA.aR rfl (decide_eq_false h1) ?_;refine Ku ?_;refine XA.aR rfl (decide_eq_false (fun h=>h h4)) ?_;refine aN ?_;exact ao.normal (aG.none rfl) (aw.eC zE (bY.mk rfl rfl rfl)) ⟨rfl,rfl,rfl⟩
 have e:zx out wrong k n=(out,true):=by
  rw[zx,if_neg h1,if_pos (.inr (.inr (by rw[Int.toNat_natCast,←hy];exact h4)))]
 rw[e];refine ob Tryz.func195 ?_;refine bq ?_;(first|refine XA.aY (R:=bY pb out wrong) zL (bY.aY) ?_|refine az.aY (R:=bY pb out wrong) zL (bY.aY) ?_|refine DA.aY (R:=bY pb out wrong) zL (bY.aY) ?_);rintro⟨p,c⟩-;(first|refine XA.cl ?_|refine az.cl ?_|refine DA.cl ?_);(first|refine XA.aY (R:=bn 2 1 (.slice p out.length c) _ _) zL (ep (by omega)) ?_|refine az.aY (R:=bn 2 1 (.slice p out.length c) _ _) zL (ep (by omega)) ?_|refine DA.aY (R:=bn 2 1 (.slice p out.length c) _ _) zL (ep (by omega)) ?_);rintro g70 rfl;(first|refine XA.cl ?_|refine az.cl ?_|refine DA.cl ?_);refine aW ?_;refine XA.aR rfl (decide_eq_false h1) ?_;refine Ku ?_;refine XA.bG rfl (decide_eq_true h4) ?_;refine bt ?_;exact ao.normal (aG.none rfl) (aw.eC zE (bY.mk rfl rfl rfl)) ⟨rfl,rfl,rfl⟩
theorem yy (σ:PH) (v:Value) (xs:List Int) (hv:aV σ v xs) (hl:xs.length≤1000000):
 ae Tryz.prog 106 #[v] σ [] (aE fun v' ag ah=>∃p c,v'=.slice p xs.length c∧σ=ag∧ah=[bn 2 1 (.slice p xs.length c) xs.length (ints xs)]):=by
 obtain⟨q,cq,rfl,hle,EO⟩:=hv.shape;(have vy:(ints xs).length=xs.length*1:=by simp[ints]);have gG:dn (ints xs):=dP _
 cases q with
 |none=>
  obtain rfl:xs=[]:=by
   cases xs with
   |nil=>rfl
   |cons x l=>obtain⟨g,o,e,-⟩:=hv.at (show (x::l)[0]? =some x from rfl);cases e
  refine dF Tryz.func106 ?_;refine a8 ?_;refine zO rfl (Rd.pK (ad rfl) rfl rfl) ?_;refine aN ?_;refine bC ?_;exact ao.ret (aG.one rfl rfl) (aw.fy (e:=2) (size:=1) (aw.nil _)) ⟨none,0,rfl,rfl,rfl⟩
 |some a=>
  cases xs with
  |nil=>
   refine dF Tryz.func106 ?_;refine a8 ?_;refine zO rfl (Rd.pK (ad rfl) rfl rfl) ?_;refine aN ?_;refine b9 ?_;refine zw rfl (aC.bs (fun _ _=>ad) rfl rfl rfl rfl rfl) ?_;rintro _ _ _ ⟨g5,rfl,rfl,rfl⟩;refine b3 ?_;refine zw rfl (Rd.Ux (Rd.si (ad rfl) rfl (ad rfl) rfl rfl (Nat.le_refl _))) ?_;rintro _ _ _ ⟨rfl,rfl,rfl⟩;refine bM ?_;exact ao.ret (aG.one rfl rfl) (aw.vt (R:=au g5 _ _) zL (fun m h=>me h (by simp) (by simp[maxLen])) zE) ⟨_,_,rfl,rfl,rfl⟩
  |cons x l=>
   obtain⟨p',c',e1,e2,e3,e4⟩:=hv;simp only[Value.slice.injEq] at e1;obtain⟨rfl,-,rfl⟩:=e1;obtain⟨g,o,e,hr⟩:=e4 (by simp);cases e;refine dF Tryz.func106 ?_;refine a8 ?_;refine zO rfl (Rd.pK (ad rfl) rfl rfl) ?_;refine aN ?_;refine b9 ?_;refine zw rfl (aC.bs (fun _ _=>ad) rfl rfl rfl rfl rfl) ?_;rintro _ _ _ ⟨g5,rfl,rfl,rfl⟩;refine b3 ?_;refine az.eS (Δ:=[bn 2 1 (.slice (some ⟨g5,0,none⟩) 0 0) 0 []]) (aw.vt (R:=au g5 _ _) zL (fun m h=>me h (by simp) (by simp[maxLen])) zE) ?_;refine zw rfl (aC.append (ad rfl) rfl (ad rfl) rfl rfl zL rfl (At.wN hr) vy gG (by simp) (by simp only[maxLen];omega) (by simp only;omega)) ?_;rintro _ _ _ ⟨p,c',rfl,rfl,rfl⟩;refine bM ?_;rw[Nat.zero_add];exact b8 rfl rfl ⟨_,_,rfl,rfl,rfl⟩
theorem G2 (σ:PH) (q:Option Addr) (n cq:Nat) (xs:List Int) (hn:xs.length=n) (hl:n≤1000000):
 ae Tryz.prog 106 #[.slice q n cq] σ [bn 2 1 (.slice q n cq) n (ints xs)] (aE fun v' ag ah=>∃p c,v'=.slice p n c∧σ=ag∧ah=[bn 2 1 (.slice q n cq) n (ints xs),bn 2 1 (.slice p n c) n (ints xs)]):=by
 subst hn;(have vy:(ints xs).length=xs.length*1:=by simp[ints]);have gG:dn (ints xs):=dP _;by_cases h0:xs=[]
 ·subst h0
  cases q with
  |none=>
   refine dF Tryz.func106 ?_;refine a8 ?_;refine zO rfl (Rd.pK (ad rfl) rfl rfl) ?_;refine aN ?_;refine bC ?_;exact ao.ret (aG.one rfl rfl) (aw.bP .head (aw.fy (e:=2) (size:=1) (aw.nil _))) ⟨none,0,rfl,rfl,rfl⟩
  |some a=>
   refine dF Tryz.func106 ?_;refine a8 ?_;refine zO rfl (Rd.pK (ad rfl) rfl rfl) ?_;refine aN ?_;refine b9 ?_;refine zw rfl (aC.bs (fun _ _=>ad) rfl rfl rfl rfl rfl) ?_;rintro _ _ _ ⟨g5,rfl,rfl,rfl⟩;refine b3 ?_;refine az.eS (Δ:=[bn 2 1 (.slice (some ⟨g5,0,none⟩) 0 0) 0 [],bn 2 1 (.slice (some a) 0 cq) 0 (ints [])]) (aw.vt (R:=au g5 _ _) zL (fun m h=>me h (by simp) (by simp[maxLen])) zE) ?_;refine zw rfl (Rd.Ux (Rd.si (ad rfl) rfl (ad rfl) rfl rfl (Nat.le_refl _))) ?_;rintro _ _ _ ⟨rfl,rfl,rfl⟩;refine bM ?_;exact b8 rfl rfl ⟨_,_,rfl,rfl,rfl⟩
 have rB:0<xs.length:=List.length_pos_iff.2 h0;refine ae.aY .head (ep rB) (enters Tryz.func106 rfl rfl) ?_;rintro g rfl;refine dF Tryz.func106 ?_;refine a8 ?_;refine zO rfl (Rd.pK (ad rfl) rfl rfl) ?_;refine aN ?_;refine b9 ?_;refine zw rfl (aC.bs (fun _ _=>ad) rfl rfl rfl rfl rfl) ?_;rintro _ _ _ ⟨g5,rfl,rfl,rfl⟩;refine b3 ?_;refine az.eS (Δ:=[bn 2 1 (.slice (some ⟨g5,0,none⟩) 0 0) 0 [],bn 2 1 (.slice (some ⟨g,0,none⟩) xs.length cq) xs.length (ints xs)]) (aw.vt (R:=au g5 _ _) zL (fun m h=>me h (by simp) (by simp[maxLen])) zE) ?_;refine zw rfl (aC.append (ad rfl) rfl (ad rfl) rfl rfl zL rfl (At.bn zL (by simp;exact List.take_of_length_le (by simp[ints]))) vy gG rB (by simp only[maxLen];omega) (by simp only;omega)) ?_;rintro _ _ _ ⟨p,c',rfl,rfl,rfl⟩;refine bM ?_;rw[Nat.zero_add];exact b8 rfl rfl ⟨_,_,rfl,rfl,rfl⟩
theorem Ls (σ:PH) (pb:Nat) (out:List Int) (wrong:Bool) (hl:out.length≤1000000):
 ae Tryz.prog 116 #[ptr pb] σ [bY pb out wrong] (aE fun v ag ah=>∃p c,v=.slice p out.length c∧σ=ag∧ah=[bY pb out wrong,bn 2 1 (.slice p out.length c) out.length (ints out)]):=by
 refine dF Tryz.func116 ?_;refine bt ?_;(first|refine XA.aY (R:=bY pb out wrong) zL (bY.aY) ?_|refine az.aY (R:=bY pb out wrong) zL (bY.aY) ?_|refine DA.aY (R:=bY pb out wrong) zL (bY.aY) ?_);rintro⟨q,cq⟩-;(first|refine XA.cl ?_|refine az.cl ?_|refine DA.cl ?_);refine bM ?_;refine zw rfl (aC.cE (G2 σ q out.length cq out rfl hl) rfl) ?_;rintro _ _ _ ⟨_,⟨p,c,rfl,rfl,rfl⟩,rfl⟩;refine az.cl ?_;refine bM ?_;exact ao.ret (aG.one rfl rfl) (aw.e9 (Θ:=[_,_]) zD (bY.mk rfl rfl rfl) zE) ⟨p,c,rfl,rfl,rfl⟩
end Go.Proofs.YtgeoiflbjcehcaaGreatDoor
