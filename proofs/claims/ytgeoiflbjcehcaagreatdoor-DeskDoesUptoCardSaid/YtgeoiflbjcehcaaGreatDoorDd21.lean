import Derived.Test.YtgeoiflbjcehcaaGreatDoorDd20
import Derived.Lib.SplitLaws
import Derived.Lib.Join
import Derived.Shelf.Strings.OnBuilder
import Derived.Shelf.Strings.Search3
import Derived.Shelf.Strings.Count
import Derived.Shelf.Strings.Split
import Derived.Lib.Builder
import Derived.Lib.UnsafeStr
import Derived.Lib.AppendStr
import Derived.Laws.Externs
import Derived.Lib.ItoaLen
set_option maxHeartbeats 4000000
set_option maxRecDepth 2000
set_option linter.unusedVariables false
set_option linter.unusedSimpArgs false
namespace Go.Proofs.YtgeoiflbjcehcaaGreatDoor
open Go X
theorem Ee {p:Pr} {inp:List Int} {K:Int} {bit:Bool}:∀(f:Nat) {L:Li} {k:Nat},fX p inp L k→k+f≤1000000→fX p inp (fe (ak p) inp K bit f L).1 (k+(fe (ak p) inp K bit f L).2)∧(fe (ak p) inp K bit f L).2≤f
 |0,L,k,h,hk=>⟨h,bX _⟩
 |f+1,L,k,h,hk=>by
  rw[fe];split
  ·exact⟨h.ab1 ad,gF⟩
  ·split
   ·obtain⟨h1,h2⟩:=Ee f (h.next ad) ad;exact⟨by rw[show k+((fe (ak p) inp K bit f (eg (ak p) inp L)).2+1)=k+1+(fe (ak p) inp K bit f (eg (ak p) inp L)).2 by omega];exact h1,gF⟩
   ·exact⟨h,cg _⟩
theorem mw {p:Pr} {inp:List Int} {L:Li} {k:Nat} (s:oP) (h:fX p inp L k) (hk:k+3000≤1000000):fX p inp (jV (ak p) inp s L).1 (k+(jV (ak p) inp s L).2)∧(jV (ak p) inp s L).2≤3000∧((jV (ak p) inp s L).2=0∨((jV (ak p) inp s L).2:Int)≤s.n):=by
 rw[jV];split
 ·exact⟨h,aZ,.inl rfl⟩
 ·rename_i hf;have hf:aO s=0:=Classical.byContradiction hf
  have hn:s.kind≠2→0≤s.n∧s.n≤3000:=by
   intro kP;rw[aO] at hf;split at hf
   ·cases hf
   ·split at hf
    ·cases hf
    ·rename_i q;constructor
     ·exact Classical.byContradiction fun z=>q (.inl ⟨kP,.inl ad⟩)
     ·exact Classical.byContradiction fun z=>q (.inl ⟨kP,.inr ad⟩)
  split
  ·rename_i h1;have:=hn ad;obtain⟨q1,q2⟩:=Is s.n.toNat h ad;exact⟨q1,ad,.inr ad⟩
  ·split
   ·rename_i h3;have:=hn ad;obtain⟨q1,q2⟩:=Ee (K:=s.K) (bit:=cU s.mask 0) s.n.toNat h ad;exact⟨q1,ad,.inr ad⟩
   ·exact⟨h.Uf,aZ,.inl rfl⟩
section
variable (σ:PH) (gx db pb:Nat) (pc:Option Addr) (cc nc:Nat) (p:Pr) (inp:List Int) (L:Li) (gn:Int) (k:Nat)
theorem ab5 (s:oP) (Γ:List HP) (Oq:s.K<9223372036854775808) (wm:0≤s.mask) (wE:s.mask<18446744073709551616) (hc:bV 4 tR σ (.slice pc (ak p).length cc) (ak p)) (hL:j6 σ gx db pb pc cc nc p inp L gn Γ) (h:fX p inp L k) (hk:k+3000≤900000) (AL:gn≤k):
 ah Tryz.prog 70 #[ptr gx,.agg #[i64 s.kind,i64 s.n,i64 s.K,.int .u64 s.mask]] σ Γ (aA fun v aj al=>v=.tuple #[i64 ((jV (ak p) inp s L).2:Nat),i64 (aO s)]∧σ.sub aj∧∃Gm:Int,Gm≤(k+(jV (ak p) inp s L).2:Nat)∧(s.kind=2→Gm=gn)∧j6 aj gx db pb pc cc nc p inp (jV (ak p) inp s L).1 Gm al):=by
 obtain⟨kd,n,K,m⟩:=s;simp only at Oq wm wE⊢;have Ea:=hL;(have cZ:=fun n' OQ=>Ye σ gx db pb pc cc nc p inp L gn k n' Γ hc hL h OQ AL);(have Ed:=fun n' K' hK0 Oq OQ=>Ui σ gx db pb pc cc nc p inp L gn k kd n' K' m Γ hK0 Oq wm wE hc hL h OQ AL);obtain⟨g,mb,sb,d,s,pi,ci,pj,cj,hQ,Ug,hG,hi,hj,rfl⟩:=hL;by_cases b1:kd<1
 ·(have hf:aO ⟨kd,n,K,m⟩=2:=by rw[aO,aq (.inl b1)]);(have hd:jV (ak p) inp ⟨kd,n,K,m⟩ L=(L,0):=by rw[jV,aq (by rw[hf];decide)]);rw[hf,hd];(refine cw Tryz.func70 ?_;refine aU ?_;refine cP fun g3=>?_;refine iA ?_);refine XA.aY rfl (by first|rfl|exact aM b1) ?_;refine bt ?_;exact ao.ret (aB.two rfl rfl rfl) zE ⟨rfl,.refl _,gn,by simpa using AL,fun _=>rfl,Ea⟩
 by_cases b2:3<kd
 ·(have hf:aO ⟨kd,n,K,m⟩=2:=by rw[aO,aq (.inr b2)]);(have hd:jV (ak p) inp ⟨kd,n,K,m⟩ L=(L,0):=by rw[jV,aq (by rw[hf];decide)]);rw[hf,hd];(refine cw Tryz.func70 ?_;refine aU ?_;refine cP fun g3=>?_;refine iA ?_);refine XA.aY rfl (by first|rfl|exact aM b2) ?_;refine bt ?_;exact ao.ret (aB.two rfl rfl rfl) zE ⟨rfl,.refl _,gn,by simpa using AL,fun _=>rfl,Ea⟩
 (have hb:¬(kd<1∨3<kd):=by omega);by_cases k2:kd=2
 ·subst k2;(have hf:aO ⟨2,n,K,m⟩=0:=by rw[aO,ag hb,ag];rintro(⟨q,-⟩|⟨q,-⟩);exact q rfl;cases q);(have hd:jV (ak p) inp ⟨2,n,K,m⟩ L=(tZ L,0):=by rw[jV,ag (by rw[hf];decide),ag (show ¬(2:Int)=1 by decide),ag (show ¬(2:Int)=3 by decide)]);rw[hf,hd];(refine cw Tryz.func70 ?_;refine aU ?_;refine cP fun g3=>?_;refine iA ?_;refine ik ?_;refine nC ?_;refine ik ?_;refine C5 ?_;refine et 7 1728 [6] (ar.bB (R:=aw gx _ _) zL (ar.bB (R:=aw g3 _ _) zL (ar.nil _))) ?_;refine a8 ?_);refine aP.b7 rfl rfl Gd.free aC (ax.cE (Iu σ mb sb db d s L.M m wm wE) rfl) ?_;rintro _ _ _ ⟨_,⟨d3,rfl,rfl,RO,RP,rfl⟩,rfl⟩;refine aP.cl ?_;refine dc ?_;refine zw rfl (ax.cE (B8 σ gx db pb _ pc pj (ak p).length cc cj nc inp d3 s RO hj h.iJ.inl) rfl) ?_;rintro _ qf _ ⟨_,⟨g4,Uj,Uk,Ul,Um,rfl,jU,Un,rfl⟩,rfl⟩;refine az.cl ?_;refine bt ?_;rw[RP,hQ];exact ao.ret (aB.two rfl rfl rfl) zE ⟨rfl,jU,s.gen,by simp only[Nat.add_zero];omega,fun _=>Ug,⟨g4,Uj,Uk,d3,s,Ul,Um,pj,cj,RP.trans hQ,rfl,RO,Un,hj.mono jU,rfl⟩⟩
 by_cases n0:n<0
 ·(have hf:aO ⟨kd,n,K,m⟩=1:=by rw[aO,ag hb,aq (.inl ⟨k2,.inl n0⟩)]);(have hd:jV (ak p) inp ⟨kd,n,K,m⟩ L=(L,0):=by rw[jV,aq (by rw[hf];decide)]);rw[hf,hd];(have hkd:kd=1∨kd=3:=by omega);rcases hkd with rfl|rfl
  ·refine cw Tryz.func70 ?_;(refine aU ?_;refine cP fun g3=>?_;refine iA ?_;refine ik ?_;refine nC ?_);refine XA.aY rfl (by first|rfl|exact aM n0) ?_;refine bt ?_;exact ao.ret (aB.two rfl rfl rfl) zE ⟨rfl,.refl _,gn,by simpa using AL,fun _=>rfl,Ea⟩
  ·refine cw Tryz.func70 ?_;(refine aU ?_;refine cP fun g3=>?_;refine iA ?_;refine ik ?_;refine nC ?_);refine XA.aY rfl (by first|rfl|exact aM n0) ?_;refine bt ?_;exact ao.ret (aB.two rfl rfl rfl) zE ⟨rfl,.refl _,gn,by simpa using AL,fun _=>rfl,Ea⟩
 by_cases n1:3000<n
 ·(have hf:aO ⟨kd,n,K,m⟩=1:=by rw[aO,ag hb,aq (.inl ⟨k2,.inr n1⟩)]);(have hd:jV (ak p) inp ⟨kd,n,K,m⟩ L=(L,0):=by rw[jV,aq (by rw[hf];decide)]);rw[hf,hd];(have hkd:kd=1∨kd=3:=by omega);rcases hkd with rfl|rfl
  ·refine cw Tryz.func70 ?_;(refine aU ?_;refine cP fun g3=>?_;refine iA ?_;refine ik ?_;refine nC ?_);refine XA.aY rfl (by first|rfl|exact aM n1) ?_;refine bt ?_;exact ao.ret (aB.two rfl rfl rfl) zE ⟨rfl,.refl _,gn,by simpa using AL,fun _=>rfl,Ea⟩
  ·refine cw Tryz.func70 ?_;(refine aU ?_;refine cP fun g3=>?_;refine iA ?_;refine ik ?_;refine nC ?_);refine XA.aY rfl (by first|rfl|exact aM n1) ?_;refine bt ?_;exact ao.ret (aB.two rfl rfl rfl) zE ⟨rfl,.refl _,gn,by simpa using AL,fun _=>rfl,Ea⟩
 obtain⟨n,rfl⟩:∃j:Nat,n=j:=⟨n.toNat,ad⟩;by_cases k1:kd=1
 ·subst k1
  have hf:aO ⟨1,n,K,m⟩=0:=by
   rw[aO,ag hb,ag];rintro(⟨-,q⟩|⟨q,-⟩)
   ·simp only at q;omega
   ·cases q
  (have hd:jV (ak p) inp ⟨1,n,K,m⟩ L=jn (ak p) inp n L:=by rw[jV,ag (by rw[hf];decide),aq rfl,Int.toNat_natCast]);rw[hf,hd];(refine cw Tryz.func70 ?_;refine aU ?_;refine cP fun g3=>?_;refine iA ?_;refine ik ?_;refine nC ?_;refine ik ?_;refine rM ?_);refine zw rfl (ax.cE (cZ n ad) rfl) ?_;rintro _ cL _ ⟨mY,⟨rfl,bT,gn2,KI,rW⟩,rfl⟩;refine az.cl ?_;obtain⟨g2,ZI,ZJ,d2,s2,Qi,Qj,ZK,ZL,Gp,Qk,J9,vC,wD,rfl⟩:=rW;refine bg ?_;exact ao.ret (aB.two rfl rfl rfl) zE ⟨rfl,bT,gn2,KI,fun q=>absurd q au,⟨g2,ZI,ZJ,d2,s2,Qi,Qj,ZK,ZL,Gp,Qk,J9,vC,wD,rfl⟩⟩
 (obtain rfl:kd=3:=by omega);by_cases q0:K<0
 ·(have hf:aO ⟨3,n,K,m⟩=1:=by rw[aO,ag hb,aq (.inr ⟨rfl,q0⟩)]);(have hd:jV (ak p) inp ⟨3,n,K,m⟩ L=(L,0):=by rw[jV,aq (by rw[hf];decide)]);rw[hf,hd];(refine cw Tryz.func70 ?_;refine aU ?_;refine cP fun g3=>?_;refine iA ?_;refine ik ?_;refine nC ?_);refine XA.aY rfl (by first|rfl|exact aM q0) ?_;refine bt ?_;exact ao.ret (aB.two rfl rfl rfl) zE ⟨rfl,.refl _,gn,by simpa using AL,fun _=>rfl,Ea⟩
 have hf:aO ⟨3,n,K,m⟩=0:=by
  rw[aO,ag hb,ag];rintro(⟨-,q⟩|⟨-,q⟩)
  ·simp only at q;omega
  ·exact q0 q
 (have hd:jV (ak p) inp ⟨3,n,K,m⟩ L=fe (ak p) inp K (cU m 0) n L:=by rw[jV,ag (by rw[hf];decide),ag (show ¬(3:Int)=1 by decide),aq rfl,Int.toNat_natCast]);rw[hf,hd];(refine cw Tryz.func70 ?_;refine aU ?_;refine cP fun g3=>?_;refine iA ?_;refine ik ?_;refine nC ?_;refine ik ?_;refine C5 ?_);refine zw rfl (ax.cE (Ed n K ad Oq ad) rfl) ?_;rintro _ cL _ ⟨mY,⟨rfl,bT,gn2,KI,rW⟩,rfl⟩;refine az.cl ?_;obtain⟨g2,ZI,ZJ,d2,s2,Qi,Qj,ZK,ZL,Gp,Qk,J9,vC,wD,rfl⟩:=rW;refine bg ?_;exact ao.ret (aB.two rfl rfl rfl) zE ⟨rfl,bT,gn2,KI,fun q=>absurd q au,⟨g2,ZI,ZJ,d2,s2,Qi,Qj,ZK,ZL,Gp,Qk,J9,vC,wD,rfl⟩⟩
theorem Up (Γ:List HP) (hL:j6 σ gx db pb pc cc nc p inp L gn Γ) (h:fX p inp L k) (hk:k≤1000000) (hn:nc=L.b.m.cells.length):
 ah Tryz.prog 44 #[ptr gx] σ Γ (aA fun v aj al=>∃po co pv cv,v=.agg #[i64 (qg L.b),.slice po L.b.out.length co,.slice pv nc cv]∧a7 aj (.slice po L.b.out.length co) L.b.out∧a7 aj (.slice pv nc cv) L.b.m.cells∧σ.sub aj∧j6 aj gx db pb pc cc nc p inp L gn al):=by
 obtain⟨g,mb,sb,d,s,pi,ci,pj,cj,hQ,Ug,hG,hi,hj,rfl⟩:=hL;have Gb:=h.iJ.ol;refine cM Tryz.func44 ?_;refine aU ?_;refine di (fun g2=>?_) (ae rfl);refine cx ?_;refine et 10 54702 [8,9] (ar.bB (R:=aw gx _ _) zL (ar.nil _)) ?_;refine bJ ?_;refine aP.b7 rfl rfl Gd.free aC (ax.cE (M7 σ g mb sb db pb (.slice pc (ak p).length cc) (.slice pi inp.length ci) 0 false d s L.M L.b.m L.b.out L.b.wrong nc h.iJ.sh ad ad) rfl) ?_;rintro _ cL _ ⟨_,⟨po,co,pv,cv,rfl,hvo,ZM,bT,rfl⟩,rfl⟩;refine aP.cl ?_;rw[List.take_of_length_le ad] at ZM;refine kS rfl (ax.st (ae rfl) rfl) ?_;refine cx ?_;exact ao.ret (aB.vP rfl rfl (Ld.bn (ae rfl) rfl zL rfl cK cJ)) zE ⟨po,co,pv,cv,rfl,hvo,ZM,bT,⟨g,mb,sb,d,s,pi,ci,pj,cj,hQ,Ug,hG,hi.mono bT,hj.mono bT,rfl⟩⟩
end
def L0 (n:Nat):Li:=⟨sj n,M0,qY⟩
theorem RU {p:Pr} (hc:bZ p=0) (inp:List Int) (hi:inp.length≤1000000) (hl:(ak p).length≤1000000):fX p inp (L0 (sizes p.vars).toNat) 0:=⟨RM hc inp hi hl,RM hc inp hi hl⟩
theorem Ka (σ:PH) (cs:List Value) (p:Pr) (iv:Value) (inp:List Int) (hp:gT σ cs p) (hi:a7 σ iv inp) (hN:fh p.body≤10000) (hc:bZ p=0) (Pw:40<inp.length):
 ah Tryz.prog 66 #[.agg cs.toArray,iv] σ [] (aA fun v aj al=>v=.tuple #[.pointer none,i64 1]∧σ.sub aj∧al=[]):=by
 have lG:=hp;obtain⟨vs,bs,rfl,hv,hb⟩:=hp;obtain⟨pv,cv,rfl,-,-⟩:=hv.shape;obtain⟨pb0,cb,rfl,-,-⟩:=hb.shape;obtain⟨pi0,ci0,rfl,pB,CB⟩:=hi.shape;(refine cw Tryz.func66 ?_;refine aU ?_;refine cP fun g2=>?_;refine bg ?_;refine zw rfl (ax.cE (My σ _ p lG hN) rfl) ?_);rintro _ cL _ ⟨_,⟨sl,rfl,uq,bT,rfl⟩,rfl⟩;refine az.cl ?_;rw[hc];refine sT ?_;refine iQ ?_;refine bJ ?_;exact ao.ret (aB.two rfl rfl rfl) (ar.nil _) ⟨rfl,bT,rfl⟩
theorem Ql (σ:PH) (cs:List Value) (p:Pr) (iv:Value) (inp:List Int) (hp:gT σ cs p) (hi:a7 σ iv inp) (hN:fh p.body≤10000) (hc:bZ p=0) (Pw:inp.length≤40):
 ah Tryz.prog 66 #[.agg cs.toArray,iv] σ [] (aA fun v aj al=>∃gx db pb pc cc,v=.tuple #[ptr gx,i64 0]∧σ.sub aj∧bV 4 tR aj (.slice pc (ak p).length cc) (ak p)∧j6 aj gx db pb pc cc (sizes p.vars).toNat p inp (L0 (sizes p.vars).toNat) 0 al):=by
 have lG:=hp;obtain⟨vs,bs,rfl,hv,hb⟩:=hp;obtain⟨pv,cv,rfl,-,-⟩:=hv.shape;obtain⟨pb0,cb,rfl,-,-⟩:=hb.shape;obtain⟨pi0,ci0,rfl,pB,CB⟩:=hi.shape;obtain⟨hz,Ua⟩:=kK hc;obtain⟨-,-,mK,y5⟩:=dw hc;have um:(0:Int)≤sizes p.vars:=ef mK;obtain⟨nc,CV⟩:∃nc:Nat,sizes p.vars=(nc:Int):=⟨(sizes p.vars).toNat,ad⟩;(have Vl:(sizes p.vars).toNat=nc:=by omega);have hG0:Good av.new s0:=Good.new;rw[Vl];(refine cw Tryz.func66 ?_;refine aU ?_;refine cP fun g2=>?_;refine bg ?_;refine zw rfl (ax.cE (My σ _ p lG hN) rfl) ?_);rintro _ cL _ ⟨_,⟨sl,rfl,uq,bT,rfl⟩,rfl⟩;refine az.cl ?_;rw[aq hc] at uq;rw[hc];obtain⟨q,cq,rfl,-,-⟩:=uq.shape;have sF:=Hg cL _ p (lG.mono bT) hz Ua;rw[CV] at sF;have fG:=D5 cL (.slice pi0 inp.length ci0) inp (hi.mono bT) ad;have Zt:=Xs cL;refine sT ?_;refine ik ?_;refine cx ?_;refine XA.join [(8,8),(20,29)] (fun y:(Nat×(Nat×Nat))×(Option Addr×Nat)=>[(8,ptr y.1.1)]) (fun y aj al=>cL=aj∧al=[aw y.1.1 [.pointer none,ptr y.1.2.1,ptr y.1.2.2,.slice q (ak p).length cq,.slice y.2.1 inp.length y.2.2,i64 nc] 125,bW y.1.2.1 av.new,aw y.1.2.2 [.slice none 0 0,i64 0] 168,aS 2 1 (.slice y.2.1 inp.length y.2.2) inp.length (ints inp)]) ?_ ?_
 ·skip;refine XA.mM aC _ _ [] 11 #[false,false,false,false,false,false,false,false,false,false,false] rfl rfl aC (PH.sub.refl _) (ar.bB (R:=aw g2 _ _) zL (ar.nil _)) ?_;refine qp 1 #[fF,tT,fF,fF,fF,fF,fF,fF,fF,fF,fF] rfl (Rd.bl (fun _ _=>ae) rfl rfl rfl) ?_;refine qp 3 #[fF,tT,fF,tT,fF,fF,fF,fF,fF,fF,fF] rfl Rd.mv ?_;refine qp 4 #[fF,tT,fF,tT,tT,fF,fF,fF,fF,fF,fF] rfl Rd.mv ?_;refine qr 6 #[fF,tT,fF,tT,tT,fF,tT,fF,fF,fF,fF] rfl (Rd.Bl rfl) ?_;refine cX.w2 (i:=0) (j:=2) aC ?_ ?_
  ·refine qw #[tT,tT,fF,tT,tT,fF,tT,fF,fF,fF,fF] rfl (ax.cE Zt rfl) ?_;rintro _ _ _ ⟨_,⟨db,rfl,rfl,rfl⟩,rfl⟩;refine⟨⟨zX,zE⟩,cX.re zC ?_⟩;refine cX.w2 (i:=2) (j:=5) aC ?_ ?_
   ·refine qw #[tT,tT,tT,tT,tT,fF,tT,fF,fF,fF,fF] rfl ax.bx ?_;rintro _ _ _ ⟨g22,rfl,rfl,rfl⟩;refine⟨⟨zX,zE⟩,cX.re zC ?_⟩;refine qa 5 ?_;refine qw #[tT,tT,tT,tT,tT,tT,tT,fF,fF,fF,fF] rfl (ax.cE fG rfl) ?_;rintro _ _ _ ⟨_,⟨pj,cj,rfl,rfl,rfl⟩,rfl⟩;refine⟨⟨zX,zE⟩,cX.re zC ?_⟩;refine qa 7 ?_;refine qw #[tT,tT,tT,tT,tT,tT,tT,tT,fF,fF,fF] rfl (ax.cE sF rfl) ?_;rintro _ _ _ ⟨_,⟨rfl,rfl,rfl⟩,rfl⟩;refine⟨⟨zX,zE⟩,cX.re zC ?_⟩;refine qp 8 #[tT,tT,tT,tT,tT,tT,tT,tT,tT,fF,fF] rfl (Rd.bl (fun _ _=>ae) rfl rfl rfl) ?_;refine qa 9 ?_;refine qw #[tT,tT,tT,tT,tT,tT,tT,tT,tT,tT,fF] rfl ax.bx ?_;rintro _ _ _ ⟨OC,rfl,rfl,rfl⟩;refine⟨⟨zX,zE⟩,cX.re zC ?_⟩;refine qp 10 #[tT,tT,tT,tT,tT,tT,tT,tT,tT,tT,tT] rfl Rd.CZ ?_;refine cX.nil rfl ?_;refine DA.bI ⟨zK,((OC,(db,g22)),(pj,cj)),_,zM,?_,rfl,rfl⟩;exact zE
   ·refine qw #[tT,tT,fF,tT,tT,tT,tT,fF,fF,fF,fF] rfl (ax.cE fG rfl) ?_;rintro _ _ _ ⟨_,⟨pj,cj,rfl,rfl,rfl⟩,rfl⟩;refine⟨⟨zX,zE⟩,cX.re zC ?_⟩;refine cX.w2 (i:=2) (j:=7) aC ?_ ?_
    ·refine qw #[tT,tT,tT,tT,tT,tT,tT,fF,fF,fF,fF] rfl ax.bx ?_;rintro _ _ _ ⟨g22,rfl,rfl,rfl⟩;refine⟨⟨zX,zE⟩,cX.re zC ?_⟩;refine qa 7 ?_;refine qw #[tT,tT,tT,tT,tT,tT,tT,tT,fF,fF,fF] rfl (ax.cE sF rfl) ?_;rintro _ _ _ ⟨_,⟨rfl,rfl,rfl⟩,rfl⟩;refine⟨⟨zX,zE⟩,cX.re zC ?_⟩;refine qp 8 #[tT,tT,tT,tT,tT,tT,tT,tT,tT,fF,fF] rfl (Rd.bl (fun _ _=>ae) rfl rfl rfl) ?_;refine qa 9 ?_;refine qw #[tT,tT,tT,tT,tT,tT,tT,tT,tT,tT,fF] rfl ax.bx ?_;rintro _ _ _ ⟨OC,rfl,rfl,rfl⟩;refine⟨⟨zX,zE⟩,cX.re zC ?_⟩;refine qp 10 #[tT,tT,tT,tT,tT,tT,tT,tT,tT,tT,tT] rfl Rd.CZ ?_;refine cX.nil rfl ?_;refine DA.bI ⟨zK,((OC,(db,g22)),(pj,cj)),_,zM,?_,rfl,rfl⟩;exact zE
    ·refine qw #[tT,tT,fF,tT,tT,tT,tT,tT,fF,fF,fF] rfl (ax.cE sF rfl) ?_;rintro _ _ _ ⟨_,⟨rfl,rfl,rfl⟩,rfl⟩;refine⟨⟨zX,zE⟩,cX.re zC ?_⟩;refine qa 2 ?_;refine qw #[tT,tT,tT,tT,tT,tT,tT,tT,fF,fF,fF] rfl ax.bx ?_;rintro _ _ _ ⟨g22,rfl,rfl,rfl⟩;refine⟨⟨zX,zE⟩,cX.re zC ?_⟩;refine qp 8 #[tT,tT,tT,tT,tT,tT,tT,tT,tT,fF,fF] rfl (Rd.bl (fun _ _=>ae) rfl rfl rfl) ?_;refine qa 9 ?_;refine qw #[tT,tT,tT,tT,tT,tT,tT,tT,tT,tT,fF] rfl ax.bx ?_;rintro _ _ _ ⟨OC,rfl,rfl,rfl⟩;refine⟨⟨zX,zE⟩,cX.re zC ?_⟩;refine qp 10 #[tT,tT,tT,tT,tT,tT,tT,tT,tT,tT,tT] rfl Rd.CZ ?_;refine cX.nil rfl ?_;refine DA.bI ⟨zK,((OC,(db,g22)),(pj,cj)),_,zM,?_,rfl,rfl⟩;exact zE
  ·refine qw #[fF,tT,tT,tT,tT,fF,tT,fF,fF,fF,fF] rfl ax.bx ?_;rintro _ _ _ ⟨g22,rfl,rfl,rfl⟩;refine⟨⟨zX,zE⟩,cX.re zC ?_⟩;refine qa 0 ?_;refine qw #[tT,tT,tT,tT,tT,fF,tT,fF,fF,fF,fF] rfl (ax.cE Zt rfl) ?_;rintro _ _ _ ⟨_,⟨db,rfl,rfl,rfl⟩,rfl⟩;refine⟨⟨zX,zE⟩,cX.re zC ?_⟩;refine qa 5 ?_;refine qw #[tT,tT,tT,tT,tT,tT,tT,fF,fF,fF,fF] rfl (ax.cE fG rfl) ?_;rintro _ _ _ ⟨_,⟨pj,cj,rfl,rfl,rfl⟩,rfl⟩;refine⟨⟨zX,zE⟩,cX.re zC ?_⟩;refine qa 7 ?_;refine qw #[tT,tT,tT,tT,tT,tT,tT,tT,fF,fF,fF] rfl (ax.cE sF rfl) ?_;rintro _ _ _ ⟨_,⟨rfl,rfl,rfl⟩,rfl⟩;refine⟨⟨zX,zE⟩,cX.re zC ?_⟩;refine qp 8 #[tT,tT,tT,tT,tT,tT,tT,tT,tT,fF,fF] rfl (Rd.bl (fun _ _=>ae) rfl rfl rfl) ?_;refine qa 9 ?_;refine qw #[tT,tT,tT,tT,tT,tT,tT,tT,tT,tT,fF] rfl ax.bx ?_;rintro _ _ _ ⟨OC,rfl,rfl,rfl⟩;refine⟨⟨zX,zE⟩,cX.re zC ?_⟩;refine qp 10 #[tT,tT,tT,tT,tT,tT,tT,tT,tT,tT,tT] rfl Rd.CZ ?_;refine cX.nil rfl ?_;refine DA.bI ⟨zK,((OC,(db,g22)),(pj,cj)),_,zM,?_,rfl,rfl⟩;exact zE
 rintro⟨⟨OC,db,g22⟩,pj,cj⟩ δ _ _ ⟨rfl,rfl⟩;dsimp only[dq,List.foldl];refine bY ?_;refine az.eX (ar.dU (e:=2) (size:=1) (ar.refl _)) ?_;refine az.eX (ar.eT (Θ:=[aw g22 _ 168,aS 2 1 (.slice none 0 0) 0 []]) zD (dp.mk (out:=[]) (wrong:=false) rfl rfl rfl) (ar.refl _)) ?_;refine az.mX (R:=aS 2 1 (.slice pj inp.length cj) _ _) zL cm aH ?_;rintro fZ ⟨⟩ sG cQ;have Rx:=fQ rfl sG;refine zw rfl (ax.cE (B8 fZ OC db g22 _ q pj (ak p).length cq cj nc inp av.new s0 hG0 Rx ad) rfl) ?_;rintro _ qf _ ⟨_,⟨g4,Uj,Uk,Ul,Um,rfl,jU,Un,rfl⟩,rfl⟩;refine az.cl ?_;rw[Mj];refine aR ?_;exact ao.ret (aB.two rfl rfl rfl) zE ⟨OC,db,g22,q,cq,rfl,(bT.trans cQ).trans jU,uq.mono (cQ.trans jU) (fun _ _ h=>h),⟨g4,Uj,Uk,av.new,s0,Ul,Um,pj,cj,Mj,rfl,hG0,Un,Rx.mono jU,rfl⟩⟩
def fN:List UInt8→List UInt8→List ByteArray
 |[],w=>if w=[] then [] else [⟨w.toArray⟩]
 |c::r,w=>if c=32 then (if w=[] then fN r [] else ⟨w.toArray⟩::fN r []) else fN r (w++[c])
def gq (s:ByteArray):List ByteArray:=fN s.data.toList []
def iV:List UInt8→List UInt8→List (List UInt8)
 |[],w=>[w]
 |c::r,w=>if c=32 then w::iV r [] else iV r (w++[c])
theorem vQ (c:UInt8):∀(l w:List UInt8),∃x xs,iV l w=x::xs∧iV l (c::w)=(c::x)::xs
 |[],w=>⟨w,[],rfl,rfl⟩
 |d::r,w=>by
  rw[iV,iV];split
  ·exact⟨_,_,rfl,rfl⟩
  ·exact vQ c r (w++[d])
theorem Nd {b c:UInt8} {l:List UInt8} (h:b≠c):Lib.index (b::l) [c]=if Lib.index l [c]==-1 then-1 else Lib.index l [c]+1:=by
 (have hp:([c]:List UInt8).isPrefixOf (b::l)=false:=by simp[List.isPrefixOf,Ne.symm h]);rw[Lib.index,hp];simp
theorem Nf (c:UInt8) (l:List UInt8):Lib.index (c::l) [c]=((0:Nat):Int):=by rw[Lib.index];simp[List.isPrefixOf]
theorem rE:∀(l:List UInt8),Lib.splitK [32] 0 (l.count 32) l=iV l []
 |[]=>rfl
 |c::r=>by
  have ih:=rE r;by_cases hc:c=32
  ·subst hc;rw[List.count_cons_self,iV,aq rfl,Lib.splitK,Nf,ag au,←ih];simp
  ·rw[List.count_cons_of_ne (fun h=>hc (by first|exact h|exact h.symm)),iV,ag hc];obtain⟨x,xs,h1,h2⟩:=vQ c r [];show _=iV r ([]++[c]);rw[List.nil_append,h2];rw[h1] at ih
   cases hk:r.count 32 with
   |zero=>
    rw[hk,Lib.splitK] at ih;cases ih;rw[Lib.splitK]
   |succ k=>
    rw[hk,Lib.splitK] at ih;rw[Lib.splitK,Nd hc];by_cases hi:(Lib.index r [32]==-1)=true
    ·rw[aq hi] at ih;cases ih;rw[aq hi,aq au]
    ·rw[ag hi] at ih;have ix:Lib.index r [32]≠-1:=fun e=>hi (beq_iff_eq.2 e)
     have Fj:0≤Lib.index r [32]:=by
      rcases Lib.index_spec r [32] with ⟨a,-⟩|⟨i,a,-⟩
      ·exact absurd a ix
      ·rw[a];omega
     obtain⟨i,ZN⟩:∃i:Nat,Lib.index r [32]=i:=⟨(Lib.index r [32]).toNat,ad⟩;rw[ag hi,ag (by rw[ZN];exact fun e=>by have:=beq_iff_eq.1 e;omega)];rw[ZN] at ih⊢;(have e1:((i:Int)+1).toNat=i+1:=by omega);(have e2:((i:Int)).toNat=i:=by omega);rw[e2] at ih;rw[e1];simp only[bF,List.length_nil,Nat.add_zero,Nat.zero_add,List.take_succ_cons,List.drop_succ_cons] at ih⊢;cases ih;rfl
theorem lC:∀(l w:List UInt8),((iV l w).filter (fun x=>decide (x≠[]))).map (fun x=>(⟨x.toArray⟩:ByteArray))=fN l w
 |[],w=>by
  rw[iV,fN];by_cases h:w=[]
  ·subst h;rfl
  ·rw[ag h,List.filter_cons_of_pos (by simpa using h)];rfl
 |c::r,w=>by
  rw[iV,fN];split
  ·by_cases h:w=[]
   ·subst h;rw[aq rfl,List.filter_cons_of_neg aZ];exact lC r []
   ·rw[ag h,List.filter_cons_of_pos (by simpa using h),List.map_cons,lC r []]
  ·exact lC r _
theorem Ef (s:ByteArray):(Lib.splitB ⟨#[32]⟩ 0 (Lib.countB s ⟨#[32]⟩) s).filter (fun x=>decide (x≠ByteArray.empty))=gq s:=by
 have h:=Lib.splitB_data ⟨#[32]⟩ 0 (Lib.countB s ⟨#[32]⟩) s;rw[show Lib.countB s ⟨#[32]⟩=s.data.toList.count 32 from Lib.count_one 32 s.data.toList] at h⊢;rw[show (ByteArray.mk #[32]).data.toList=[32] from rfl,rE] at h;rw[gq,←lC,←h];generalize Lib.splitB ⟨#[32]⟩ 0 (s.data.toList.count 32) s=L;clear h
 induction L with
 |nil=>rfl
 |cons x L ih=>
  (have e:(⟨x.data.toList.toArray⟩:ByteArray)=x:=by simp);by_cases hx:x=ByteArray.empty
  ·subst hx;rw[List.map_cons,List.filter_cons_of_neg aZ,List.filter_cons_of_neg aZ,ih]
  ·(have lF:x.data.toList≠[]:=fun q=>hx (by rw[←e,q];rfl));rw[List.map_cons,List.filter_cons_of_pos (by simpa using hx),List.filter_cons_of_pos (by simpa using lF),List.map_cons,←ih,e]
def jc:List ByteArray→Option (List Int)
 |[]=>some []
 |w::l=>match eY w with
  |none=>none
  |some n=>(jc l).map (n:: ·)
def vR:ByteArray:=⟨#[10]⟩
def wN:ByteArray:=⟨#[32]⟩
def fq (t s:ByteArray):ByteArray:=t++(s++vR)
def dR (t:ByteArray) (l:List ByteArray):ByteArray:=l.foldl fq t
def dD (l:List Int):ByteArray:=l.foldl (fun s n=>s++(wN++cY n)) ByteArray.empty
def k8:ByteArray:=⟨#[99,111,100,101]⟩
def zv:ByteArray:=⟨#[111,117,116]⟩
def vg:ByteArray:=⟨#[99,101,108,108,115]⟩
def eM:ByteArray:=⟨#[110,111]⟩
def VD:ByteArray:=⟨#[111,107]⟩
def zx:ByteArray:=⟨#[100,105,100]⟩
def k9:ByteArray:=⟨#[116,111,111,107]⟩
def jQ:ByteArray:=⟨#[119,104,97,116]⟩
def cD (a:ByteArray) (n:Int):ByteArray:=a++(wN++cY n)
def jr (c:Int) (out cells:List Int):List ByteArray:=[cD k8 c,zv++dD out,vg++dD cells]
def jW:List ByteArray→ByteArray
 |[]=>ByteArray.empty
 |x::r=>r.foldl (fun t y=>t++vR++y) x
structure nt where
 text:List ByteArray
 input:List Int
 ua:Option (Pr×List Int×Li)
def j7 (n:Int):Int:=IntKind.wrap .u64 n
def ia (d:nt) (p:Pr) (inp:List Int) (L:Li) (s:oP):nt×List ByteArray:=
 if aO s≠0 then (d,[cD eM (aO s)]) else ({d with ua:=some (p,inp,(jV (ak p) inp s L).1)},[cD zx ((jV (ak p) inp s L).2:Nat)])
def oQ (x:Int×Int):ByteArray:=cD (cD eM x.1) x.2
def Eg:ByteArray:=⟨#[110,101,119]⟩
def Gq:ByteArray:=⟨#[105,110,112,117,116]⟩
def vS:ByteArray:=⟨#[98,111,111,116]⟩
def jR:ByteArray:=⟨#[105,100,101,97,108]⟩
def rl:ByteArray:=⟨#[114,117,110]⟩
def qi:ByteArray:=⟨#[99,114,97,115,104]⟩
def la:ByteArray:=⟨#[116,101,97,114]⟩
def Eh:ByteArray:=⟨#[110,111,119]⟩
def iK (d:nt):nt×List ByteArray:=match br (jW d.text) with
 |.error x=>(d,[oQ x])
 |.ok p=>if 40<d.input.length then (d,[cD eM 1]) else ({d with ua:=some (p,d.input,L0 (sizes p.vars).toNat)},[VD])
def sn (p:Pr) (inp:List Int) (fuel:Nat):List ByteArray:=
 cD k9 ((runM (ak p) inp fuel (sj (sizes p.vars).toNat)).2:Nat)::jr (qg (runM (ak p) inp fuel (sj (sizes p.vars).toNat)).1) (runM (ak p) inp fuel (sj (sizes p.vars).toNat)).1.out (runM (ak p) inp fuel (sj (sizes p.vars).toNat)).1.m.cells
def iL (d:nt) (fuel:Int):List ByteArray:=match br (jW d.text) with
 |.error x=>[oQ x]
 |.ok p=>if 40<d.input.length∨fuel<0∨3000<fuel then [cD eM 1] else sn p d.input fuel.toNat
def ib (d:nt) (p:Pr) (inp:List Int) (L:Li) (w:ByteArray) (n:List Int):nt×List ByteArray:=
 if w=rl∧n.length=1 then ia d p inp L ⟨1,n.getD 0 0,0,0⟩
 else if w=qi∧n.length=1 then ia d p inp L ⟨2,0,0,j7 (n.getD 0 0)⟩
 else if w=la∧n.length=3 then ia d p inp L ⟨3,n.getD 0 0,n.getD 1 0,j7 (n.getD 2 0)⟩
 else if w=Eh∧n.length=0 then (d,jr (qg L.b) L.b.out L.b.m.cells)
 else (d,[jQ])
def iW (d:nt) (w:ByteArray) (n:List Int):nt×List ByteArray:=
 if w=Eg∧n.length=0 then ({d with text:=[]},[])
 else if w=Gq then ({d with input:=n},[])
 else if w=vS∧n.length=0 then iK d
 else if w=jR∧n.length=1 then (d,iL d (n.getD 0 0))
 else match d.ua with
  |none=>(d,[jQ])
  |some (p,inp,L)=>ib d p inp L w n
def fK (d:nt) (s:ByteArray):nt×List ByteArray:=
 if 0<s.size∧aJ s 0=124 then ({d with text:=d.text++[s.extract 1 s.size]},[])
 else match gq s with
  |[]=>(d,[])
  |w::r=>match jc r with
   |none=>(d,[jQ])
   |some n=>iW d w n
def dy:nt→List ByteArray→nt×List ByteArray
 |d,[]=>(d,[])
 |d,s::l=>((dy (fK d s).1 l).1,(fK d s).2++(dy (fK d s).1 l).2)
def Qm:nt:=⟨[],[],none⟩
theorem yu:∀(a b:List ByteArray) (d:nt),dy d (a++b)=((dy (dy d a).1 b).1,(dy d a).2++(dy (dy d a).1 b).2)
 |[],b,d=>rfl
 |s::a,b,d=>by
  rw[List.cons_append,dy,yu a b,dy];simp only[List.append_assoc]
theorem so (t:ByteArray) (a b:List ByteArray):dR t (a++b)=dR (dR t a) b:=List.foldl_append
theorem vT:∀(l:List ByteArray) (t:ByteArray),dR t l=t++dR ByteArray.empty l
 |[],t=>by simp[dR]
 |s::l,t=>by
  show dR (fq t s) l=t++dR (fq ByteArray.empty s) l;rw[vT l (fq t s),vT l (fq ByteArray.empty s),fq,fq,ByteArray.append_assoc,ByteArray.empty_append]
def told:List ByteArray→Nat
 |[]=>0
 |s::l=>s.size+1+told l
theorem vU:∀(l:List ByteArray) (t:ByteArray),(dR t l).size=t.size+told l
 |[],t=>rfl
 |s::l,t=>by
  show (dR (fq t s) l).size=_;rw[vU l,fq,told];simp only[jX];have e:vR.size=1:=rfl;omega
def rF (s:ByteArray):Bool:=s.data.toList.any (· ==10)
def CK:Int→List ByteArray→Int×Int
 |_,[]=>(0,0)
 |i,s::l=>if rF s=true then (14,i) else CK (i+1) l
def dj (l:List ByteArray):Int×Int:=if 150<l.length then (3,-1) else CK 0 l
end Go.Proofs.YtgeoiflbjcehcaaGreatDoor
namespace Go.Proofs
open Go.Shelf
def Tryz.lays156_ren:Go.Shelf.Ren:=⟨fun|156=>46|165=>74|166=>45|169=>15|240=>73|241=>119|276=>118|277=>162|n=>n,fun|31=>22|9=>9|3=>3|4=>4|0=>0|20=>20|72=>46|76=>92|70=>43|37=>44|75=>87|127=>62|164=>182|5=>5|80=>52|n=>n,fun|n=>n⟩
theorem Tryz.lays156:Go.Proofs.Lays.n156 Tryz.prog Tryz.lays156_ren:={
 mixed:=by kernel_rfl
 f156:=Tryz.func46.trans (congrArg some (by kernel_rfl))
 f165:=Tryz.func74.trans (congrArg some (by kernel_rfl))
 f166:=Tryz.func45.trans (congrArg some (by kernel_rfl))
 f169:=Tryz.func15.trans (congrArg some (by kernel_rfl))
 f240:=Tryz.func73.trans (congrArg some (by kernel_rfl))
 f241:=Tryz.func119.trans (congrArg some (by kernel_rfl))
 f276:=Tryz.func118.trans (congrArg some (by kernel_rfl))
 f277:=Tryz.func162.trans (congrArg some (by kernel_rfl))
 t0:=Tryz.underlying0
 a0:=Tryz.isAgg0
 z0:=Tryz.sizeOf0
 v0:=Tryz.zeroValue0
 t3:=Tryz.underlying3
 a3:=Tryz.isAgg3
 z3:=Tryz.sizeOf3
 v3:=Tryz.zeroValue3
 t4:=Tryz.underlying4
 a4:=Tryz.isAgg4
 z4:=Tryz.sizeOf4
 v4:=Tryz.zeroValue4
 t9:=Tryz.underlying9
 a9:=Tryz.isAgg9
 z9:=Tryz.sizeOf9
 v9:=Tryz.zeroValue9
 t20:=Tryz.underlying20
 a20:=Tryz.isAgg20
 z20:=Tryz.sizeOf20
 v20:=Tryz.zeroValue20
 t31:=Tryz.underlying22
 a31:=Tryz.isAgg22
 z31:=Tryz.sizeOf22
 v31:=Tryz.zeroValue22
 t37:=Tryz.underlying44
 a37:=Tryz.isAgg44
 z37:=Tryz.sizeOf44
 v37:=Tryz.zeroValue44
 t70:=Tryz.underlying43
 a70:=Tryz.isAgg43
 z70:=Tryz.sizeOf43
 v70:=Tryz.zeroValue43
 t72:=Tryz.underlying46
 a72:=Tryz.isAgg46
 z72:=Tryz.sizeOf46
 v72:=Tryz.zeroValue46
 t75:=Tryz.underlying87
 a75:=Tryz.isAgg87
 z75:=Tryz.sizeOf87
 v75:=Tryz.zeroValue87
 t76:=Tryz.underlying92
 a76:=Tryz.isAgg92
 z76:=Tryz.sizeOf92
 v76:=Tryz.zeroValue92
 t127:=Tryz.underlying62
 a127:=Tryz.isAgg62
 z127:=Tryz.sizeOf62
 v127:=Tryz.zeroValue62
 t164:=Tryz.underlying182
 a164:=Tryz.isAgg182
 z164:=Tryz.sizeOf182
 v164:=Tryz.zeroValue182}
theorem Tryz.Builder_Extra_156:Builder.Extra Tryz.prog Tryz.lays156_ren:={
 sizeBuilder:=by kernel_rfl
 liesBuilder:=by kernel_rfl
 t5:=Tryz.underlying5
 a5:=Tryz.isAgg5
 z5:=Tryz.sizeOf5
 v5:=Tryz.zeroValue5
 infoByte:=by kernel_rfl
 cellsByte:=by kernel_rfl
 sizeByte:=by kernel_rfl
 neB5:=by decide}
open Go.RowKit in
theorem Tryz.strings_Join_none (a:Option Addr) (c:Nat) (sep:ByteArray) (w:World):
 Calls Tryz.prog 46 #[.slice a 0 c,.string sep] w fun e w'=>e=.returned (.string ⟨#[]⟩)∧w'=w:=Any.strings_Join_none Tryz.lays156 Tryz.Builder_Extra_156 a c sep w
open Go.RowKit in
theorem Tryz.strings_Join (bk o c:Nat) (xs:List ByteArray) (sep:ByteArray) (w:World) (cB:∀(j:Nat) x,xs[j]? =some x→w.cell? ⟨bk,o+j,none⟩=some (.string x)) (ZB:bk<w.heap.size) (hN:xs.length≤140737488355328) (Bo:xs.length≤c) (hlen:(Lib.join (xs.map (·.data.toList)) sep.data.toList).length≤140737488355328):
 Calls Tryz.prog 46 #[.slice (some ⟨bk,o,none⟩) xs.length c,.string sep] w fun e w'=>e=.returned (.string ⟨(Lib.join (xs.map (·.data.toList)) sep.data.toList).toArray⟩)∧Below w.heap.size w w':=Any.strings_Join Tryz.lays156 Tryz.Builder_Extra_156 bk o c xs sep w cB ZB hN Bo hlen
def Tryz.lays143_ren:Go.Shelf.Ren:=⟨fun|143=>18|219=>35|217=>56|225=>57|224=>58|267=>59|266=>89|314=>90|n=>n,fun|9=>9|3=>3|4=>4|5=>5|46=>40|146=>148|51=>147|n=>n,fun|1=>0|n=>n⟩
theorem Tryz.lays143:Go.Proofs.Lays.n143 Tryz.prog Tryz.lays143_ren:={
 mixed:=by kernel_rfl
 f143:=Tryz.func18.trans (congrArg some (by kernel_rfl))
 f217:=Tryz.func56.trans (congrArg some (by kernel_rfl))
 f219:=Tryz.func35.trans (congrArg some (by kernel_rfl))
 f224:=Tryz.func58.trans (congrArg some (by kernel_rfl))
 f225:=Tryz.func57.trans (congrArg some (by kernel_rfl))
 f266:=Tryz.func89.trans (congrArg some (by kernel_rfl))
 f267:=Tryz.func59.trans (congrArg some (by kernel_rfl))
 f314:=Tryz.func90.trans (congrArg some (by kernel_rfl))
 t3:=Tryz.underlying3
 a3:=Tryz.isAgg3
 z3:=Tryz.sizeOf3
 v3:=Tryz.zeroValue3
 t4:=Tryz.underlying4
 a4:=Tryz.isAgg4
 z4:=Tryz.sizeOf4
 v4:=Tryz.zeroValue4
 t5:=Tryz.underlying5
 a5:=Tryz.isAgg5
 z5:=Tryz.sizeOf5
 v5:=Tryz.zeroValue5
 t9:=Tryz.underlying9
 a9:=Tryz.isAgg9
 z9:=Tryz.sizeOf9
 v9:=Tryz.zeroValue9
 t46:=Tryz.underlying40
 a46:=Tryz.isAgg40
 z46:=Tryz.sizeOf40
 v46:=Tryz.zeroValue40
 t51:=Tryz.underlying147
 a51:=Tryz.isAgg147
 z51:=Tryz.sizeOf147
 v51:=Tryz.zeroValue147
 t146:=Tryz.underlying148
 a146:=Tryz.isAgg148
 z146:=Tryz.sizeOf148
 v146:=Tryz.zeroValue148
 g1:=by kernel_rfl}
open Go.RowKit Go.Lib in
theorem Tryz.strings_Index_one (s:ByteArray) (c:UInt8) (w:World):
 Calls Tryz.prog 18 #[.string s,.string ⟨#[c]⟩] w fun e w'=>e=.returned (.int .i64 (Lib.indexByte s.data.toList c))∧w'=w:=Any.strings_Index_one Tryz.lays143 s c w
def Tryz.lays144_ren:Go.Shelf.Ren:=⟨fun|144=>12|143=>18|219=>35|217=>56|225=>57|224=>58|267=>59|266=>89|314=>90|n=>n,fun|9=>9|4=>4|3=>3|5=>5|46=>40|146=>148|51=>147|n=>n,fun|1=>0|n=>n⟩
theorem Tryz.lays144:Go.Proofs.Lays.n144 Tryz.prog Tryz.lays144_ren:={
 mixed:=by kernel_rfl
 f143:=Tryz.func18.trans (congrArg some (by kernel_rfl))
 f144:=Tryz.func12.trans (congrArg some (by kernel_rfl))
 f217:=Tryz.func56.trans (congrArg some (by kernel_rfl))
 f219:=Tryz.func35.trans (congrArg some (by kernel_rfl))
 f224:=Tryz.func58.trans (congrArg some (by kernel_rfl))
 f225:=Tryz.func57.trans (congrArg some (by kernel_rfl))
 f266:=Tryz.func89.trans (congrArg some (by kernel_rfl))
 f267:=Tryz.func59.trans (congrArg some (by kernel_rfl))
 f314:=Tryz.func90.trans (congrArg some (by kernel_rfl))
 t3:=Tryz.underlying3
 a3:=Tryz.isAgg3
 z3:=Tryz.sizeOf3
 v3:=Tryz.zeroValue3
 t4:=Tryz.underlying4
 a4:=Tryz.isAgg4
 z4:=Tryz.sizeOf4
 v4:=Tryz.zeroValue4
 t5:=Tryz.underlying5
 a5:=Tryz.isAgg5
 z5:=Tryz.sizeOf5
 v5:=Tryz.zeroValue5
 t9:=Tryz.underlying9
 a9:=Tryz.isAgg9
 z9:=Tryz.sizeOf9
 v9:=Tryz.zeroValue9
 t46:=Tryz.underlying40
 a46:=Tryz.isAgg40
 z46:=Tryz.sizeOf40
 v46:=Tryz.zeroValue40
 t51:=Tryz.underlying147
 a51:=Tryz.isAgg147
 z51:=Tryz.sizeOf147
 v51:=Tryz.zeroValue147
 t146:=Tryz.underlying148
 a146:=Tryz.isAgg148
 z146:=Tryz.sizeOf148
 v146:=Tryz.zeroValue148
 g1:=by kernel_rfl}
open Go.RowKit Go.Lib in
theorem Tryz.strings_Contains_one (s:ByteArray) (c:UInt8) (w:World):
 Calls Tryz.prog 12 #[.string s,.string ⟨#[c]⟩] w fun e w'=>e=.returned (.bool (decide (0≤Lib.indexByte s.data.toList c)))∧w'=w:=Any.strings_Contains_one Tryz.lays144 s c w
def Tryz.lays138_ren:Go.Shelf.Ren:=⟨fun|138=>61|195=>91|218=>93|143=>18|219=>35|217=>56|225=>57|224=>58|267=>59|266=>89|314=>90|n=>n,fun|9=>9|3=>3|4=>4|5=>5|0=>0|46=>40|146=>148|51=>147|n=>n,fun|1=>0|n=>n⟩
theorem Tryz.lays138:Go.Proofs.Lays.n138 Tryz.prog Tryz.lays138_ren:={
 mixed:=by kernel_rfl
 f138:=Tryz.func61.trans (congrArg some (by kernel_rfl))
 f143:=Tryz.func18.trans (congrArg some (by kernel_rfl))
 f195:=Tryz.func91.trans (congrArg some (by kernel_rfl))
 f217:=Tryz.func56.trans (congrArg some (by kernel_rfl))
 f218:=Tryz.func93.trans (congrArg some (by kernel_rfl))
 f219:=Tryz.func35.trans (congrArg some (by kernel_rfl))
 f224:=Tryz.func58.trans (congrArg some (by kernel_rfl))
 f225:=Tryz.func57.trans (congrArg some (by kernel_rfl))
 f266:=Tryz.func89.trans (congrArg some (by kernel_rfl))
 f267:=Tryz.func59.trans (congrArg some (by kernel_rfl))
 f314:=Tryz.func90.trans (congrArg some (by kernel_rfl))
 t0:=Tryz.underlying0
 a0:=Tryz.isAgg0
 z0:=Tryz.sizeOf0
 v0:=Tryz.zeroValue0
 t3:=Tryz.underlying3
 a3:=Tryz.isAgg3
 z3:=Tryz.sizeOf3
 v3:=Tryz.zeroValue3
 t4:=Tryz.underlying4
 a4:=Tryz.isAgg4
 z4:=Tryz.sizeOf4
 v4:=Tryz.zeroValue4
 t5:=Tryz.underlying5
 a5:=Tryz.isAgg5
 z5:=Tryz.sizeOf5
 v5:=Tryz.zeroValue5
 t9:=Tryz.underlying9
 a9:=Tryz.isAgg9
 z9:=Tryz.sizeOf9
 v9:=Tryz.zeroValue9
 t46:=Tryz.underlying40
 a46:=Tryz.isAgg40
 z46:=Tryz.sizeOf40
 v46:=Tryz.zeroValue40
 t51:=Tryz.underlying147
 a51:=Tryz.isAgg147
 z51:=Tryz.sizeOf147
 v51:=Tryz.zeroValue147
 t146:=Tryz.underlying148
 a146:=Tryz.isAgg148
 z146:=Tryz.sizeOf148
 v146:=Tryz.zeroValue148
 g1:=by kernel_rfl}
open Go.RowKit Go.Lib in
theorem Tryz.strings_Count_one (s:ByteArray) (c:UInt8) (w:World):
 Calls Tryz.prog 61 #[.string s,.string ⟨#[c]⟩] w fun e w'=>e=.returned (.int .i64 (Lib.countByte s.data.toList c))∧w'=w:=Any.strings_Count_one Tryz.lays138 s c w
def Tryz.lays221_ren:Go.Shelf.Ren:=⟨fun|221=>37|268=>60|138=>61|143=>18|195=>91|197=>92|218=>93|219=>35|260=>133|217=>56|225=>57|224=>58|267=>59|266=>89|314=>90|n=>n,fun|9=>9|3=>3|31=>22|4=>4|0=>0|105=>151|21=>21|5=>5|46=>40|119=>248|139=>251|138=>250|146=>148|51=>147|n=>n,fun|1=>0|3=>4|4=>5|n=>n⟩
theorem Tryz.lays221:Go.Proofs.Lays.n221 Tryz.prog Tryz.lays221_ren:={
 mixed:=by kernel_rfl
 f138:=Tryz.func61.trans (congrArg some (by kernel_rfl))
 f143:=Tryz.func18.trans (congrArg some (by kernel_rfl))
 f195:=Tryz.func91.trans (congrArg some (by kernel_rfl))
 f197:=Tryz.func92.trans (congrArg some (by kernel_rfl))
 f217:=Tryz.func56.trans (congrArg some (by kernel_rfl))
 f218:=Tryz.func93.trans (congrArg some (by kernel_rfl))
 f219:=Tryz.func35.trans (congrArg some (by kernel_rfl))
 f221:=Tryz.func37.trans (congrArg some (by kernel_rfl))
 f224:=Tryz.func58.trans (congrArg some (by kernel_rfl))
 f225:=Tryz.func57.trans (congrArg some (by kernel_rfl))
 f260:=Tryz.func133.trans (congrArg some (by kernel_rfl))
 f266:=Tryz.func89.trans (congrArg some (by kernel_rfl))
 f267:=Tryz.func59.trans (congrArg some (by kernel_rfl))
 f268:=Tryz.func60.trans (congrArg some (by kernel_rfl))
 f314:=Tryz.func90.trans (congrArg some (by kernel_rfl))
 t0:=Tryz.underlying0
 a0:=Tryz.isAgg0
 z0:=Tryz.sizeOf0
 v0:=Tryz.zeroValue0
 t3:=Tryz.underlying3
 a3:=Tryz.isAgg3
 z3:=Tryz.sizeOf3
 v3:=Tryz.zeroValue3
 t4:=Tryz.underlying4
 a4:=Tryz.isAgg4
 z4:=Tryz.sizeOf4
 v4:=Tryz.zeroValue4
 t5:=Tryz.underlying5
 a5:=Tryz.isAgg5
 z5:=Tryz.sizeOf5
 v5:=Tryz.zeroValue5
 t9:=Tryz.underlying9
 a9:=Tryz.isAgg9
 z9:=Tryz.sizeOf9
 v9:=Tryz.zeroValue9
 t21:=Tryz.underlying21
 a21:=Tryz.isAgg21
 z21:=Tryz.sizeOf21
 v21:=Tryz.zeroValue21
 t31:=Tryz.underlying22
 a31:=Tryz.isAgg22
 z31:=Tryz.sizeOf22
 v31:=Tryz.zeroValue22
 t46:=Tryz.underlying40
 a46:=Tryz.isAgg40
 z46:=Tryz.sizeOf40
 v46:=Tryz.zeroValue40
 t51:=Tryz.underlying147
 a51:=Tryz.isAgg147
 z51:=Tryz.sizeOf147
 v51:=Tryz.zeroValue147
 t105:=Tryz.underlying151
 a105:=Tryz.isAgg151
 z105:=Tryz.sizeOf151
 v105:=Tryz.zeroValue151
 t119:=Tryz.underlying248
 a119:=Tryz.isAgg248
 z119:=Tryz.sizeOf248
 t138:=Tryz.underlying250
 a138:=Tryz.isAgg250
 z138:=Tryz.sizeOf250
 v138:=Tryz.zeroValue250
 t139:=Tryz.underlying251
 a139:=Tryz.isAgg251
 z139:=Tryz.sizeOf251
 v139:=Tryz.zeroValue251
 t146:=Tryz.underlying148
 a146:=Tryz.isAgg148
 z146:=Tryz.sizeOf148
 v146:=Tryz.zeroValue148
 g1:=by kernel_rfl
 g3:=by kernel_rfl
 g4:=by kernel_rfl}
end Go.Proofs
namespace Go.Proofs.YtgeoiflbjcehcaaGreatDoor
open Go X
theorem X.ah.Uq {P:Program} {σ:PH} {fid:FuncId} {vs:Array Value} {R:Nat→Value→Prop} {l:List Value} {T:TypeId} (he:Enters P fid) (hc:∀w:World,σ.le w.heap→Calls P fid vs w (fun e w'=>(∃v,e=.returned v∧R w.heap.size v)∧w'=w.alloc (.cells l.toArray T))):
 ah P fid vs σ [] (aA fun v aj al=>∃g,R g v∧σ=aj∧al=[aw g l T]):=by
 refine⟨he,fun fr h hh=>⟨he,fun w hw=>?_⟩⟩;subst hw;refine(hc w hh.Fu).mono ?_;rintro e w' ⟨⟨v,rfl,hr⟩,rfl⟩;exact⟨⟨rfl,rfl,rfl⟩,σ,[aw w.heap.size l T],⟨_,hr,rfl,rfl⟩,hh.alloc l T⟩
theorem Iw {σ:PH} {w:World} (hw:σ.le w.heap) {g o:Nat} {v:Value} (h:cH σ g o [v]):w.cell? ⟨g,o,none⟩=some v:=by
 obtain⟨l,T,fr,a,b⟩:=h.row hw
 have h0:l[o]? =some v:=by
  have:=congrArg (·[0]?) b;simpa using this
 simp[World.cell?,a,h0]
def B9 (xs:List ByteArray) (sep:ByteArray):ByteArray:=⟨(Lib.join (xs.map (·.data.toList)) sep.data.toList).toArray⟩
theorem Ng (σ:PH) (v:Value) (xs:List ByteArray) (sep:ByteArray) (h:bV 1 pw σ v xs) (hn:xs.length≤1000000) (hlen:(B9 xs sep).size≤1000000000):
 ah Tryz.prog 46 #[v,.string sep] σ [] (aA fun r aj al=>r=.string (B9 xs sep)∧σ=aj∧al=[]):=by
 obtain⟨p,c,rfl,h1,h2⟩:=h.shape;refine ah.below (enters Tryz.func46 rfl rfl) fun w hw=>?_
 cases xs with
 |nil=>
  refine(Tryz.strings_Join_none p c sep w).mono ?_;rintro e w' ⟨rfl,rfl⟩;exact⟨_,rfl,rfl,.refl _ _⟩
 |cons x r=>
  obtain⟨g,o,row,rfl,-,-,bG⟩:=h.at (k:=0) rfl
  have hg:g<w.heap.size:=by
   obtain⟨l,T,fr,a,-⟩:=bG.row hw;exact(Array.getElem?_eq_some_iff.1 a).1
  refine(Tryz.strings_Join g o c (x::r) sep w ?_ hg ad h1 ?_).mono ?_
  ·intro j y hj;obtain⟨g',o',C3,e,⟨rfl,-⟩,-,ny⟩:=h.at hj;cases e;rw[Nat.mul_one] at ny;exact Iw hw ny
  ·(have:(B9 (x::r) sep).size=(Lib.join ((x::r).map (·.data.toList)) sep.data.toList).length:=by simp[B9,ByteArray.size]);omega
  ·rintro e w' ⟨rfl,hb⟩;exact⟨_,rfl,rfl,hb⟩
theorem AN (c:UInt8):∀(l:List UInt8),decide (0≤Lib.indexByte l c)=l.any (· ==c)
 |[]=>by rw[Lib.indexByte];rfl
 |b::l=>by
  have ih:=AN c l;rw[Lib.indexByte,List.any_cons];split
  ·rename_i h;simp[h]
  ·rename_i h;rw[←ih];have Fj:=Lib.indexByte_ge l c;(have hb:(b==c)=false:=by simpa using h);rw[hb,Bool.false_or];split
   ·rename_i h2;simp_all
   ·rename_i h2;(have:Lib.indexByte l c≠-1:=by simpa using h2);simp only[decide_eq_decide];omega
theorem Ei (σ:PH) (s:ByteArray):ah Tryz.prog 12 #[.string s,.string ⟨#[10]⟩] σ [] (aA fun r aj al=>r=.bool (rF s)∧σ=aj∧al=[]):=by
 (refine ah.below (enters Tryz.func12 rfl rfl) fun w hw=>?_;refine(Tryz.strings_Contains_one s 10 w).mono ?_);rintro e w' ⟨rfl,rfl⟩;exact⟨_,rfl,by rw[AN,rF],.refl _ _⟩
def kX (s:ByteArray):List ByteArray:=Lib.splitB ⟨#[32]⟩ 0 (Lib.countB s ⟨#[32]⟩) s
theorem sq (s:ByteArray):(kX s).length=Lib.countB s ⟨#[32]⟩+1:=Lib.splitB_all _ au 0 _ s rfl
theorem Gr (σ:PH) (s:ByteArray) (hs:s.size≤100000000):
 ah Tryz.prog 37 #[.string s,.string ⟨#[32]⟩,i64 0,i64 (-1)] σ [] (aA fun r aj al=>∃g,r=.slice (some ⟨g,0,none⟩) (kX s).length (kX s).length∧σ=aj∧al=[aw g ((kX s).map Value.string) 9]):=by
 (refine ah.Uq (enters Tryz.func37 rfl rfl) fun w hw=>?_);have hle:=Lib.countB_le ⟨#[32]⟩ au s.size s (bX _)
 have c:=Any.strings_genSplit_core Tryz.lays221 aC s ⟨#[32]⟩ 0 (-1) (Lib.countB s ⟨#[32]⟩+1) w ad au (cg _)
  (fun x c hx=>(Tryz.strings_Index_one x 32 _).mono fun e w' ⟨a,b⟩=>⟨by rw[a,show Lib.indexB x ⟨#[32]⟩=Lib.indexByte x.data.toList 32 from (by show Lib.index _ _=_;exact Lib.index_one _ _)],b⟩)
  ((Tryz.strings_Count_one s 32 w).mono fun e w' ⟨a,b⟩=>⟨by rw[a,show Lib.countB s ⟨#[32]⟩=Lib.countByte s.data.toList 32 from Lib.count_one 32 s.data.toList],b⟩)
  au au (by rw[aq au];omega)
 refine c.mono ?_;rintro e w' ⟨rfl,rfl⟩;rw[Nat.add_sub_cancel];refine⟨⟨_,rfl,?_⟩,?_⟩
 ·show Value.slice _ (kX s).length _=_;rw[sq]
 ·rw[←sq,show Lib.splitB ⟨#[32]⟩ 0 (Lib.countB s ⟨#[32]⟩) s=kX s from rfl,Lib.cellsOf_full];rfl
theorem Qn (σ:PH) (s:ByteArray) (hs:s.size≤100000000):
 ah Tryz.prog 20 #[.string s,.string ⟨#[32]⟩] σ [] (aA fun r aj al=>∃g,r=.slice (some ⟨g,0,none⟩) (kX s).length (kX s).length∧σ=aj∧al=[aw g ((kX s).map Value.string) 9]):=by
 refine cw Tryz.func20 ?_;refine bt ?_;refine zw rfl (ax.cE (Gr σ s hs) rfl) ?_;rintro _ _ _ ⟨_,⟨g,rfl,rfl,rfl⟩,rfl⟩;refine az.cl ?_;refine bY ?_;exact bC rfl rfl ⟨g,rfl,rfl,rfl⟩
section
variable {P:Program} {ρ:Env} {S:Heap→Prop} {ty:TypeId} {σ:PH} {Γ al:List HP}
theorem X.Rd.Gs {T T' e:TypeId} {x y:Operand} {r re:Ty} {a:Addr} (hT:aX P T=some r) (hk:r.k=.pointer e) (hE:aX P e=some re) (hx:ev ρ x=.pointer (some a)) (hy:ev ρ y=.pointer (some a)):Rd P ρ S (.binOp .neq T x y T') ty (.bool false):=by
 (refine .pure fun d pos af gd w=>?_);obtain⟨dd,i,z,e1,e2,-⟩:=aF hT;obtain⟨wW,i',z',sA,rI,mH,-⟩:=aF hE;rw[hk] at e2;(cases dd<;>simp[kindOf] at e2);rw[e2] at e1;have h1:=Lib.run_neq_ptr_same (P:=P) w a e1 mH;simp only[execOp,eqGuard,hx,hy,Sem.run_bind];simp[h1]
theorem X.Rd.AO {T T' e:TypeId} {x:Operand} {r:Ty} {a:Option Addr} (hT:aX P T=some r) (hk:r.k=.pointer e) (hx:ev ρ x=.pointer a):Rd P ρ S (.binOp .eql T x (.const (.pointer none)) T') ty (.bool a.isNone):=by
 (refine .pure fun d pos af gd w=>?_);obtain⟨dd,i,z,e1,e2,-⟩:=aF hT;rw[hk] at e2;(cases dd<;>simp[kindOf] at e2);rw[e2] at e1;(have hp:P.underlying T=some (.pointer (P.pointee T)):=by simp[Program.pointee,e1]);have h1:=run_equal_pointer_nil (P:=P) w T a hp;simp only[execOp,eqGuard,hx,ev,binOp,Sem.run_bind];simp[h1]
theorem vh {h:Heap} {g:Nat} {l:List Value} {T:TypeId} (hb:CO h g l T) {w:World} (hw:w.heap=h):w.shape? g=some (T,l.length):=by
 subst hw;simp[World.shape?,hb.get]
theorem X.Rd.Nh {T U e T':TypeId} {x:Operand} {r re:Ty} {g:Nat} {l:List Value} (hT:aX P T=some r) (hk:r.k=.pointer e) (hE:aX P e=some re) (hz:Nat.beq re.size 0=false) (hU:P.underlying U=some .unsafePointer) (hx:ev ρ x=.pointer (some ⟨g,0,none⟩)) (s:dm Γ (X.aw g l T') al) (hl:0<l.length):
 Rd P ρ (Ho σ Γ) (.convert T U x) ty (.pointer (some ⟨g,0,none⟩)):=⟨fun d pos af gd w hS=>by
 obtain⟨dd,i,z,e1,e2,-⟩:=aF hT;obtain⟨wW,i',z',sA,rI,mH,oa,-⟩:=aF hE;rw[hk] at e2;(cases dd<;>simp[kindOf] at e2);rw[e2] at e1;(have gO:i'.size≠0:=by rw[oa];intro h;rw[h] at hz;cases hz);have h1:=Lib.run_to_unsafe (P:=P) w ⟨g,0,none⟩ e1 hU mH gO (vh (hS.aw s) rfl) hl;simp only[execOp,hx,Sem.run_bind]
 simp[h1]⟩
theorem X.Rd.Gt {T U e T':TypeId} {x:Operand} {r re:Ty} {g n:Nat} {l:List Value} (hT:aX P T=some r) (hk:r.k=.pointer e) (hE:aX P e=some re) (hU:P.underlying U=some .unsafePointer) (hx:ev ρ x=.pointer (some ⟨g,0,none⟩)) (s:dm Γ (X.aw g l T') al) (hl:l.length=n) (ub:liesAt P P.depth T' (n/P.cellsOf T') 0 e 1=true):
 Rd P ρ (Ho σ Γ) (.convert U T x) ty (.pointer (some ⟨g,0,none⟩)):=⟨fun d pos af gd w hS=>by
 obtain⟨dd,i,z,e1,e2,-⟩:=aF hT;obtain⟨wW,i',z',sA,rI,mH,oa,-⟩:=aF hE;rw[hk] at e2;(cases dd<;>simp[kindOf] at e2);rw[e2] at e1;have h1:=Lib.run_from_unsafe (P:=P) w ⟨g,0,none⟩ hU e1 mH (vh (hS.aw s) rfl) (by rw[hl];exact ub);simp only[execOp,hx,Sem.run_bind]
 simp[h1]⟩
theorem X.Rd.Ni {f:FuncId} {fn:Func} {x:Operand} {v:Value} {mE:Array TypeId} (hf:P.funcs[f]? =some fn) (qj:(fn.name== "runtime.NumGoroutine")=false) (hb:fn.body.isNone=true) (hn:Extern.findNext fn=none) (he:Extern.find fn=some Extern.AbiNoEscape.same) (hx:ev ρ x=v):
 Rd P ρ S (.call {callee:=.value (.func f),args:=#[x],argTypes:=mE}) ty v:=by
 (refine .pure fun d pos af gd w=>?_);have h1:=run_callFunc_extern (P:=P) hf qj hb hn he #[v] w;rw[Lib.run_noEscape] at h1;simp only[execOp,resolve,Sem.run_bind,ev,Deferred.ofValue,Sem.run_pure,Result.andThen_ok,invoke];simp[hx,h1]
theorem X.Rd.Kb {x:Operand} {mE:Array TypeId} {a:Addr} {n c:Nat} (hx:ev ρ x=.slice (some a) n c) (hc:c≠0):Rd P ρ S (.call {callee:=.builtin .unsafeSliceData,args:=#[x],argTypes:=mE}) ty (.pointer (some a)):=by
 (refine .pure fun d pos af gd w=>?_);have h1:=Lib.run_unsafeSliceData_row (P:=P) w mE ty a n c hc;simp only[execOp,resolve,invoke,builtin,Sem.run_bind,Sem.run_pure,Result.andThen_ok,List.map_toArray,List.map_cons,List.map_nil,hx];simp[hx,h1]
theorem X.Rd.Ca {x:Operand} {mE:Array TypeId} {n c:Nat} (hx:ev ρ x=.slice none n c):Rd P ρ S (.call {callee:=.builtin .unsafeSliceData,args:=#[x],argTypes:=mE}) ty (.pointer none):=by
 (refine .pure fun d pos af gd w=>?_);have h1:=Lib.run_unsafeSliceData_nil (P:=P) w mE ty n c;simp only[execOp,resolve,invoke,builtin,Sem.run_bind,Sem.run_pure,Result.andThen_ok,List.map_toArray,List.map_cons,List.map_nil,hx];simp[hx,h1]
theorem X.Rd.Gu {x y:Operand} {pt it:TypeId} {p:Option Addr} (hx:ev ρ x=.pointer p) (hy:ev ρ y=i64 0):Rd P ρ S (.call {callee:=.builtin .unsafeString,args:=#[x,y],argTypes:=#[pt,it]}) ty (.string ByteArray.empty):=by
 (refine .pure fun d pos af gd w=>?_);have h1:=Lib.run_unsafeString_none (P:=P) w pt it ty p;simp only[execOp,resolve,invoke,builtin,Sem.run_bind,Sem.run_pure,Result.andThen_ok,List.map_toArray,List.map_cons,List.map_nil,hx,hy];simp[hx,hy,h1]
end
theorem zy {w:World} {p:Addr} {n k:Nat} (h:k≠p.block):(w.freeze p n).heap[k]? =w.heap[k]? :=by
 unfold World.freeze;split
 ·rfl
 ·simp only[Array.getElem?_modify];rw[ag (fun e=>h e.symm)]
theorem Ej (w:World) (p:Addr) (n:Nat):X.gC w (w.freeze p n):=by
 unfold World.freeze;split
 ·exact⟨rfl,rfl,rfl⟩
 ·exact⟨rfl,rfl,rfl⟩
theorem X.Holds.Qo {σ f:PH} {Γ al:List HP} {h h':Heap} {e size n c g:Nat} {xs:List Value} (x:Holds σ Γ f h) (s:dm Γ (aS e size (.slice (some ⟨g,0,none⟩) n c) n xs) al) (hb:∀k,k≠g→h'[k]? =h[k]?):Holds σ al f h':=by
 obtain⟨m,a,b,c1,d,i,p,q⟩:=x;obtain⟨m1,m2,⟨r0,r1⟩,r2,r3,r4,r5⟩:=s.to a
 have own:∃o,m1 g=some o:=by
  rcases r1 with ⟨r1,-⟩|⟨g',cap,r1,cur,w1,-⟩
  ·cases r1
  ·simp only[Value.slice.injEq,Option.some.injEq,Addr.mk.injEq,and_true,true_and] at r1;obtain⟨rfl,-⟩:=r1;exact⟨_,w1⟩
 obtain⟨o,ho⟩:=own
 have keep:∀{n:PH},n.le h→m1.rr n→n.le h':=fun {n} hn hd k o' hk=>by
  (have ix:k≠g:=fun e=>by subst e;exact hd k _ _ ho hk);rw[hb k ix];exact hn k o' hk
 exact⟨m2,r2,keep (r5.le b) r3,keep c1 (i.mono r4 (.refl _)),keep d (p.mono r4 (.refl _)),i.mono r5 (.refl _),p.mono r5 (.refl _),q⟩
section
variable {P:Program} {ρ:Env} {ty:TypeId} {σ:PH} {Γ al:List HP}
theorem X.Wr.vj {h:Heap} {T U e:TypeId} {x y:Operand} {r ru re:Ty} {v:Value} {n:Nat} {xs:List Value} {s:ByteArray} {F:Nat→Prop} (hT:aX P T=some r) (hk:r.k=.slice e) (hU:aX P U=some ru) (hku:ru.k=.string) (hE:aX P e=some re) (Cz:re.size=1) (TH:re.bytes=1) (hEz:re.zero.length=1)
 (CU:zd h e 1 v n xs F) (hs:ev ρ x=v) (hy:ev ρ y=.string s) (hb:n+s.size≤1000000000):
 Wr P ρ h (.call {callee:=.builtin .append,args:=#[x,y],argTypes:=#[T,U]}) ty (fun v' h'=>zd h' e 1 v' (n+s.size) (xs++Lib.strCells s) (fun k=>F k∨h.size≤k)∧Fs h h' v.ownBlock∧(v=.slice none 0 0→s.size=0→v'=.slice none 0 0)) qY:=by
 (refine Wr.run fun d pos af gd w hw=>?_);obtain⟨dd,i,z,e1,e2,-⟩:=aF hT;obtain⟨du,iu,zu,u1,u2,-⟩:=aF hU;obtain⟨wW,i',z',sA,rI,mH,oa,Fo,Bh,E4⟩:=aF hE;rw[hk] at e2;(cases dd<;>simp[kindOf] at e2);rw[e2] at e1;clear e2;rw[hku] at u2;(cases du<;>simp[kindOf] at u2);rw[Cz] at oa;rw[TH] at Fo;(have za:z'.cells.size=1:=by rw[←Array.length_toList,E4,hEz]);(have ze:n+s.size≤maxLen:=by simp only[maxLen];omega);(have wc:xs.length=n:=by simpa using CU.len);have hlen:(xs++Lib.strCells s).length=(n+s.size)*1:=by rw[bq,wc,Lib.strCells_length,Nat.mul_one]
 have grown:∀(w8:Nat),w8<n+s.size→∀(row:Option Nat),
  zd (w.drew.alloc (.cells (xs.toArray++(Lib.strCells s).toArray++Builtin.zeroCells z'.cells (grownCap w (n+s.size) w8 e-(n+s.size))) e)).heap e 1
   (.slice (some ⟨w.heap.size,0,none⟩) (n+s.size) (grownCap w (n+s.size) w8 e)) (n+s.size) (xs++Lib.strCells s) (fun k=>F k∨h.size≤k)∧
  Fs h (w.drew.alloc (.cells (xs.toArray++(Lib.strCells s).toArray++Builtin.zeroCells z'.cells (grownCap w (n+s.size) w8 e-(n+s.size))) e)).heap row:=by
  intro w8 ho row;have Fj:=grownCap_ge w (n+s.size) w8 e;have vy:grownCap w (n+s.size) w8 e≤maxLen:=grownCap_le_maxLen w (n+s.size) w8 e ze;refine⟨⟨hlen,.inr ⟨w.heap.size,_,(xs.toArray++(Lib.strCells s).toArray++Builtin.zeroCells z'.cells (grownCap w (n+s.size) w8 e-(n+s.size))).toList,rfl,.inr (by rw[←hw];exact bX _),?_,Fj,vy,?_,?_⟩⟩,⟨by rw[←hw];simp[World.alloc],fun k hk _=>by rw[←hw] at hk⊢;exact lg hk⟩⟩
  ·exact⟨by rw[Array.toArray_toList];exact lh rfl⟩
  ·simp only[Array.length_toList,Array.size_append,List.size_toArray,size_zeroCells,za,wc,Lib.strCells_length];omega
  ·simp only[Array.toList_append,List.append_assoc];rw[←List.append_assoc,←hlen];exact List.take_left
 have rq:∀v' w',(Builtin.append_ #[T,U] ty #[v,.string s]).run P w=.ok v' w'→(execOp (ev ρ) ⟨d,.call {callee:=.builtin .append,args:=#[x,y],argTypes:=#[T,U]},ty,pos,af,gd⟩).run P w=.ok (.value v') w':=fun v' w' hr=>by
  simp only[execOp,resolve,invoke,builtin,Sem.run_bind,Sem.run_pure,Result.andThen_ok,List.map_toArray,List.map_cons,List.map_nil,hs,hy,hr]
 rcases CU.alt with ⟨rfl,rfl⟩|⟨gg,cap,cur,rfl,hF,hg,CV,vy,Cv,CW⟩
 ·have hx:xs=[]:=List.eq_nil_of_length_eq_zero wc;subst hx;by_cases hm:s.size=0
  ·have hn:Lib.strCells s=[]:=List.eq_nil_of_length_eq_zero (by rw[Lib.strCells_length];exact hm);have hf:=Lib.run_firstCells_string (P:=P) w 1 s;rw[hm] at hf;refine⟨.slice none 0 0,w,rq _ _ ?_,⟨rfl,rfl,rfl⟩,by rw[hm,hn];exact zd.nil _ _ _ _,⟨by rw[hw];exact bX _,fun k _ _=>by rw[hw]⟩,fun _ _=>rfl⟩;simp[Builtin.append_,run_underlying e1,run_underlying u1,sizeOf,typeInfo,mH,oa,Builtin.lenOf,hm,hf]
  ·have hr:=run_append_nil_string (P:=P) w T U ty e i' z' e1 u1 mH Bh s ad ad (by rw[Fo];omega);have I8:=grown 0 ad (Value.ownBlock (.slice none 0 0));simp only[Nat.zero_add,List.nil_append,Array.empty_append] at I8⊢
   have e1:(s.data.map fun b=>Value.int .u8 b.toNat)=(Lib.strCells s).toArray:=by
    apply Array.ext';simp[Lib.strCells]
   rw[e1] at hr;exact⟨_,_,rq _ _ hr,⟨rfl,rfl,rfl⟩,I8.1,I8.2,fun _ h0=>absurd h0 hm⟩
 ·(have OT:w.heap[gg]? =some (.cells cur.toArray e (0,0)):=by rw[hw];exact hg.get);(have ahG:cap≤cur.length:=by simpa using Cv);by_cases sM:n+s.size≤cap
  ·have hr:=Lib.run_append_room_string (P:=P) w T U ty e i' e1 u1 mH oa gg n cap cur.toArray OT s sM sU;refine⟨_,_,rq _ _ hr,⟨rfl,rfl,rfl⟩,⟨hlen,.inr ⟨gg,cap,cur.take n++Lib.strCells s++cur.drop (n+s.size),rfl,.inl hF,?_,sM,vy,?_,?_⟩⟩,⟨by rw[←hw];simp,fun k _ hk=>?_⟩,fun h0=>by cases h0⟩
   ·exact⟨setRow_heap w gg cur.toArray _ e _ OT⟩
   ·simp only[bq,List.length_take,List.length_drop,Lib.strCells_length];omega
   ·(have ht':cur.take n=xs:=by simpa using CW);rw[ht',←hlen];exact List.take_left
   ·rw[←hw];exact setRow_other w gg k _ (fun e=>hk (by simp[Value.ownBlock,e]))
  ·have holds:∀j u,xs[j]? =some u→w.cell? ((⟨gg,0,none⟩:Addr).add j)=some u:=fun j u hu=>by
    rw[addr_add];rw[←CW] at hu
    have hc:cur[j]? =some u:=by
     rw[List.getElem?_take] at hu;split at hu
     ·exact hu
     ·cases hu
    simp[World.cell?,OT,hc]
   have hr:=Lib.run_append_grow_string (P:=P) w T U ty e i' z' e1 u1 mH Bh ⟨gg,0,none⟩ n cap xs (by rw[oa,wc,Nat.mul_one]) holds s ad ad (growslice_fits ad (by rw[Fo];omega));have I8:=grown cap ad (Value.ownBlock (.slice (some ⟨gg,0,none⟩) n cap));exact⟨_,_,rq _ _ hr,⟨rfl,rfl,rfl⟩,I8.1,I8.2,fun h0=>by cases h0⟩
theorem X.ax.vj {T U e:TypeId} {x y:Operand} {r ru re:Ty} {v:Value} {n:Nat} {xs:List Value} {s:ByteArray} (hT:aX P T=some r) (hk:r.k=.slice e) (hU:aX P U=some ru) (hku:ru.k=.string) (hE:aX P e=some re) (Cz:re.size=1) (TH:re.bytes=1) (hEz:re.zero.length=1)
 (hs:ev ρ x=v) (hy:ev ρ y=.string s) (bB:dm Γ (aS e 1 v n xs) al) (h0:n=0→v=.slice none 0 0) (hb:n+s.size≤1000000000):
 ax P ρ σ Γ (.call {callee:=.builtin .append,args:=#[x,y],argTypes:=#[T,U]}) ty (fun v' aj Δ=>∃p c,v'=.slice p (n+s.size) c∧(n+s.size=0→p=none∧c=0)∧σ=aj∧Δ=aS e 1 (.slice p (n+s.size) c) (n+s.size) (xs++Lib.strCells s)::al) ig:=
 ⟨fun f h hh=>⟨fun d pos af gd a w next Q' he hw hn hp=>
  (Wr.vj hT hk hU hku hE Cz TH hEz (hh.own bB) hs hy hb).out d pos af gd a w next Q' he hw (fun v' w' sm q=>by
   obtain⟨p,c,rfl⟩:=q.1.shape
   exact hn _ w' sm ⟨σ,_,⟨p,c,rfl,fun hz=>by
    have:=q.2.2 (h0 ad) ad;simp only[Value.slice.injEq] at this
    exact⟨this.1,this.2.2⟩,rfl,rfl⟩,hh.app bB q.1 q.2.1⟩) (fun _ _ _ q=>q.elim)⟩⟩
theorem X.ax.unsafeString {x y:Operand} {pt it e:TypeId} {rp re:Ty} {g c:Nat} {acc:ByteArray} (hpt:aX P pt=some rp) (hk:rp.k=.pointer e) (hE:aX P e=some re) (Cz:re.size=1) (hx:ev ρ x=.pointer (some ⟨g,0,none⟩)) (hy:ev ρ y=i64 acc.size) (s:dm Γ (aS e 1 (.slice (some ⟨g,0,none⟩) acc.size c) acc.size (Lib.strCells acc)) al) (h0:0<acc.size):
 ax P ρ σ Γ (.call {callee:=.builtin .unsafeString,args:=#[x,y],argTypes:=#[pt,it]}) ty (fun v aj Δ=>v=.string acc∧σ=aj∧Δ=al) ig:=by
 obtain⟨dd,i,z,e1,e2,-⟩:=aF hpt;rw[hk] at e2;(cases dd<;>simp[kindOf] at e2);rw[e2] at e1;(refine Wr.Ok (Q:=fun h v h'=>v=.string acc∧∀k,k≠g→h'[k]? =h[k]?) (fun h hh=>Wr.run fun d pos af gd w hw=>?_) fun f h v h' hh ⟨e1,e2⟩=>⟨σ,_,⟨e1,rfl,rfl⟩,hh.Qo s e2⟩);obtain⟨f,hh⟩:=hh;have own:=hh.own s;rcases own.alt with ⟨h1,-⟩|⟨g',cap,cur,h1,h2,h3,h4,h5,h6,h7⟩
 ·cases h1
 ·simp only[Value.slice.injEq,Option.some.injEq,Addr.mk.injEq,and_true,true_and] at h1;obtain⟨rfl,rfl⟩:=h1;(have OT:w.heap[g]? =some (.cells cur.toArray e (0,0)):=by rw[hw];exact h3.get);have hsh:w.shape? g=some (e,cur.length):=vh h3 hw;have hl:acc.data.toList.length=acc.size:=rfl;have rh:acc.size≤cur.length:=by omega
  have eL:∀(j:Nat) (x:UInt8),acc.data.toList[j]? =some x→w.cell? ((⟨g,0,none⟩:Addr).add j)=some (.int .u8 x.toNat):=fun j x hx=>by
   (have hu:(Lib.strCells acc)[j]? =some (.int .u8 x.toNat):=by rw[Lib.strCells,List.getElem?_map,hx];rfl);rw[addr_add];rw[←h7] at hu
   have hc:cur[j]? =some (.int .u8 x.toNat):=by
    rw[List.getElem?_take] at hu;split at hu
    ·exact hu
    ·cases hu
   simp[World.cell?,OT,hc]
  have hr:=Lib.run_unsafeString_row (P:=P) w pt it ty e e1 (by rw[Fx hE,Cz]) g cur.length hsh acc.data.toList (fun h=>by rw[←hl,h] at h0;exact Nat.lt_irrefl _ h0) ad (by simp only[maxLen] at h5;omega) eL;rw[hl] at hr;refine⟨.string acc,w.freeze ⟨g,0,none⟩ acc.size,?_,Ej _ _ _,rfl,fun k hk=>by rw[←hw];exact zy hk⟩;simp only[execOp,resolve,invoke,builtin,Sem.run_bind,Sem.run_pure,Result.andThen_ok,List.map_toArray,List.map_cons,List.map_nil,hx,hy,hr]
end
theorem X.ah.post {P:Program} {f:FuncId} {vs:Array Value} {σ:PH} {Γ:List HP} {R R':Value→PH→List HP→Prop} (hc:ah P f vs σ Γ (aA R)) (k:∀v aj al,R v aj al→∃mY,R' v aj mY∧ar al mY):ah P f vs σ Γ (aA R'):=
 ⟨hc.1,fun fr hp hh=>(hc.2 fr hp hh).mono fun e h' ⟨aj,al,a,b⟩=>by
  cases e with
  |returned v=>obtain⟨mY,a2,he⟩:=k v aj al a;exact⟨aj,mY,a2,b.eX he⟩
  |panicked c=>exact a.elim
  |outgrown=>exact a.elim⟩
theorem X.ah.pre {P:Program} {f:FuncId} {vs:Array Value} {σ:PH} {Γ b6:List HP} {R:Ending→PH→List HP→Prop} (he:ar Γ b6) (hc:ah P f vs σ b6 R):ah P f vs σ Γ R:=⟨hc.1,fun fr h hh=>hc.2 fr h (hh.eX he)⟩
def oR (u:Bool) (b:Nat):Value:=.pointer (if u=true then some ⟨b,0,none⟩ else none)
section
variable (σ:PH) (T:TypeId) (b:Nat) (vs:List Value)
theorem Ur (u:Bool) (sl:Value) (ub:liesAt Tryz.prog Tryz.prog.depth T ((vs.length+2)/Tryz.prog.cellsOf T) 0 46 1=true):
 ah Tryz.prog 73 #[ptr b] σ [aw b (oR u b::sl::vs) T] (aA fun v aj al=>v=.tuple #[]∧σ=aj∧al=[aw b (ptr b::sl::vs) T]):=by
 have pH:∀_:Unit,0+1≤vs.length+1+1:=fun _=>by omega
 cases u with
 |true=>
  refine cM Tryz.func73 ?_;refine a8 ?_;refine zO rfl (X.Rd.AO (ae rfl) rfl rfl) ?_;refine aR ?_;refine zO rfl (X.Rd.Gs (ae rfl) rfl (ae rfl) rfl rfl) ?_;refine bY ?_;exact iN rfl ⟨rfl,rfl,rfl⟩
 |false=>
  refine cM Tryz.func73 ?_;refine a8 ?_;refine zO rfl (X.Rd.AO (ae rfl) rfl rfl) ?_;refine a8 ?_;refine zO rfl (X.Rd.Nh (ae rfl) rfl (ae rfl) rfl aC rfl zL aZ) ?_;refine zO rfl (X.Rd.Ni Tryz.func118 aC aC aC aC rfl) ?_;refine zO rfl (X.Rd.Gt (n:=vs.length+2) (ae rfl) rfl (ae rfl) aC rfl zL aZ ub) ?_;refine aU ?_;clear ub;refine aU ?_;exact iN rfl ⟨rfl,rfl,rfl⟩
theorem Qp (u:Bool) (p:Option Addr) (n c:Nat) (xs:List Value) (s:ByteArray) (hz:n=0→p=none∧c=0) (hb:n+s.size≤1000000000) (ub:liesAt Tryz.prog Tryz.prog.depth T ((vs.length+2)/Tryz.prog.cellsOf T) 0 46 1=true):
 ah Tryz.prog 45 #[ptr b,.string s] σ [aw b (oR u b::.slice p n c::vs) T,aS 5 1 (.slice p n c) n xs] (aA fun v aj al=>∃p' c',v=.tuple #[i64 s.size,.nilIface]∧(n+s.size=0→p'=none∧c'=0)∧σ=aj∧al=[aw b (ptr b::.slice p' (n+s.size) c'::vs) T,aS 5 1 (.slice p' (n+s.size) c') (n+s.size) (xs++Lib.strCells s)]):=by
 (have pH:∀_:Unit,1+1≤vs.length+1+1:=fun _=>by omega);(have h0:n=0→(Value.slice p n c)=.slice none 0 0:=fun h=>by obtain⟨rfl,rfl⟩:=hz h;rw[h]);have RV:=Ur σ T b vs u (.slice p n c) ub;clear ub;refine cw Tryz.func45 ?_;refine bt ?_;refine yC (RV) ?_;clear RV;refine aR ?_;refine zw rfl (X.ax.vj (ae rfl) rfl (ae rfl) rfl (ae rfl) rfl rfl rfl rfl rfl zL h0 hb) ?_;rintro _ _ _ ⟨p',c',rfl,VQ,rfl,rfl⟩;refine eA ?_;exact ao.ret (aB.two rfl rfl rfl) zE ⟨p',c',rfl,VQ,rfl,rfl⟩
end
def eF (T:TypeId) (b:Nat) (vs:List Value) (acc:ByteArray):HP:=fun m=>∃(u:Bool) (p:Option Addr) (c:Nat),(acc.size=0→p=none∧c=0)∧Sat [aw b (oR u b::.slice p acc.size c::vs) T,aS 5 1 (.slice p acc.size c) acc.size (Lib.strCells acc)] m
theorem eF.o {T:TypeId} {b:Nat} {vs:List Value} {acc:ByteArray}:∀m,eF T b vs acc m→∃x:Bool×(Option Addr×Nat),(acc.size=0→x.2.1=none∧x.2.2=0)∧Sat [aw b (oR x.1 b::.slice x.2.1 acc.size x.2.2::vs) T,aS 5 1 (.slice x.2.1 acc.size x.2.2) acc.size (Lib.strCells acc)] m:=fun m ⟨u,p,c,h1,h2⟩=>⟨(u,(p,c)),h1,h2⟩
theorem eF.mk {T:TypeId} {b:Nat} {vs:List Value} {acc:ByteArray} {p:Option Addr} {c:Nat} (u:Bool) (h:acc.size=0→p=none∧c=0):ar [aw b (oR u b::.slice p acc.size c::vs) T,aS 5 1 (.slice p acc.size c) acc.size (Lib.strCells acc)] [eF T b vs acc]:=
 ar.eS (ar.refl _) fun m hm=>⟨u,p,c,h,hm⟩
theorem Cb (a b:ByteArray):Lib.strCells (a++b)=Lib.strCells a++Lib.strCells b:=by simp[Lib.strCells]
theorem my {e size n c:Nat} {p:Option Addr} {xs:List Value} (hn:0<n):∀m,aS e size (.slice p n c) n xs m→∃g:Nat,(p=some ⟨g,0,none⟩∧c≠0)∧Sat [aS e size (.slice (some ⟨g,0,none⟩) n c) n xs] m:=fun m h=>by
 have h0:=h;obtain⟨h1,⟨h2,h3⟩|⟨g,cap,h2,cur,h3,h4,h5⟩⟩:=h
 ·omega
 ·simp only[Value.slice.injEq] at h2;obtain⟨rfl,-,rfl⟩:=h2;exact⟨g,⟨rfl,ad⟩,m,PH.none,h0,trivial,PH.ez m,.refl m,PH.gL _⟩
section
variable (σ:PH) (T:TypeId) (b:Nat) (vs:List Value)
theorem Qq (acc s:ByteArray) (hb:acc.size+s.size≤1000000000) (ub:liesAt Tryz.prog Tryz.prog.depth T ((vs.length+2)/Tryz.prog.cellsOf T) 0 46 1=true):
 ah Tryz.prog 45 #[ptr b,.string s] σ [eF T b vs acc] (aA fun v aj al=>v=.tuple #[i64 s.size,.nilIface]∧σ=aj∧al=[eF T b vs (acc++s)]):=by
 (refine ah.aW (s:=dm.head) eF.o (enters Tryz.func45 rfl rfl) fun x hx=>?_;refine(Qp σ T b vs x.1 x.2.1 acc.size x.2.2 (Lib.strCells acc) s hx hb ub).post ?_);rintro v aj al ⟨p',c',rfl,VQ,rfl,rfl⟩;refine⟨_,⟨rfl,rfl,rfl⟩,?_⟩;rw[←Cb,←jX];exact eF.mk true (fun h=>VQ (by rw[←jX];exact h))
theorem Nj (acc:ByteArray):ah Tryz.prog 15 #[ptr b] σ [eF T b vs acc] (aA fun v aj al=>v=.string acc∧σ=aj∧∃q sl,al=[aw b (q::sl::vs) T]):=by
 (refine ah.aW (s:=dm.head) eF.o (enters Tryz.func15 rfl rfl) fun x hx=>?_);obtain⟨u,p,c⟩:=x;simp only at hx;by_cases h0:acc.size=0
 ·obtain⟨rfl,rfl⟩:=hx h0
  have ha:acc=ByteArray.empty:=by
   apply ByteArray.ext;apply Array.eq_empty_of_size_eq_zero;exact h0
  rw[h0,ha];show ah _ _ _ _ [aw b (oR u b::.slice none 0 0::vs) T,aS 5 1 (.slice none 0 0) 0 (Lib.strCells ByteArray.empty)] _;clear hx;refine cM Tryz.func15 ?_;refine a8 ?_;refine XA.draw aC _ _ [10] [(0,.pu),(1,.pu),(2,.pu),(3,.rd),(5,.pu),(6,.pu),(7,.pu),(8,.rd),(9,.pu),(4,.wr),(10,.wr),(11,.pu)] aC (PH.sub.refl _) (ar.bB (R:=aw b _ _) zL (ar.nil _)) ?_;refine bt ?_;refine aP.fw rfl rfl Gd.free (X.Rd.O4 (X.Rd.Ca rfl)) ?_;rintro _ _ _ ⟨rfl,rfl,rfl⟩;refine stays ?_;refine aP.b7 rfl rfl Gd.free aC (X.Rd.O4 (X.Rd.Gu rfl rfl)) ?_;rintro _ _ _ ⟨rfl,rfl,rfl⟩;refine bY ?_;exact bC rfl rfl ⟨rfl,rfl,_,_,rfl⟩
 ·(refine ah.aW (s:=dm.tail dm.head) (my ad) (enters Tryz.func15 rfl rfl) fun g hg=>?_);obtain⟨rfl,hc⟩:=hg;(have uB:0<acc.size:=by omega);show ah _ _ _ _ [aS 5 1 (.slice (some ⟨g,0,none⟩) acc.size c) acc.size (Lib.strCells acc),aw b (oR u b::.slice (some ⟨g,0,none⟩) acc.size c::vs) T] _;clear hx h0;refine cM Tryz.func15 ?_;refine a8 ?_;refine XA.draw aC _ _ [10] [(0,.pu),(1,.pu),(2,.pu),(3,.rd),(5,.pu),(6,.pu),(7,.pu),(8,.rd),(9,.pu),(4,.wr),(10,.wr),(11,.pu)] aC (PH.sub.refl _) (ar.bB (R:=aw b _ _) zL (ar.nil _)) ?_;refine bt ?_;refine aP.fw rfl rfl Gd.free (X.Rd.O4 (X.Rd.Kb rfl hc)) ?_;rintro _ _ _ ⟨rfl,rfl,rfl⟩;refine stays ?_;refine aP.b7 rfl rfl Gd.free aC (X.ax.unsafeString (ae rfl) rfl (ae rfl) rfl rfl rfl zL uB) ?_;rintro _ _ _ ⟨rfl,rfl,rfl⟩;refine bY ?_;exact bC rfl rfl ⟨rfl,rfl,_,_,rfl⟩
end
theorem eP {n:Int} (h:aG n):(cY n).size≤21:=Lib.itoa_length_le n h.1 h.2
section
variable (σ:PH) (b:Nat) (v:Value) (acc:ByteArray) (g c:Nat)
end
end Go.Proofs.YtgeoiflbjcehcaaGreatDoor
