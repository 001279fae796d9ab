import Derived.Test.YtgeoiflbjcehcaaGreatDoorDd25
set_option maxHeartbeats 4000000
set_option maxRecDepth 2000
set_option linter.unusedVariables false
set_option linter.unusedSimpArgs false
namespace Go.Proofs.YtgeoiflbjcehcaaGreatDoor
open Go X
def mB {α:Type} (P:List Tk→PR α) (s:iO) (x:α):Prop:=∀l y l',s=.ok l→P l=.ok (y,l')→x=y
theorem NQ {vl:List Va} {e d:Int} {f:Nat} (hf:d+f=13) (hd:0≤d) (l:List Tk):bL vl e f l=aT (fY e d 8 cS l) fun k l2=>aT (fH vl e k l2) fun vn l3=>aT (dX (bL vl e (f-1)) (partsOf k).toNat l3 []) fun xs l4=>cT e (.mk k vn.1 vn.2 xs) l4:=by
 cases f with
 |zero=>
  (have:(12:Int)<d:=by have:d+(0:Nat)=13:=hf;omega);rw[bL,fY,aq this,aT]
 |succ f=>
  (have:¬(12:Int)<d:=by omega);rw[bL,fY,ag this];split
  ·cases iC cS 8 l.tail with
   |none=>rfl
   |some k=>
    simp only[aT]
    cases fH vl e k l.tail.tail with
    |error x=>rfl
    |ok y=>
     obtain⟨vn,l3⟩:=y;simp only[Nat.add_sub_cancel]
     cases dX (bL vl e f) (partsOf k).toNat l3 [] with
     |error x=>rfl
     |ok z=>rfl
  ·rfl
theorem mC {α:Type} {P:List Tk→PR α} {l l':List Tk} {x:α} (h:P l=.ok (x,l')):dJ P (.ok l)=.ok l':=by rw[dJ,h]
theorem gK {α:Type} {P:List Tk→PR α} {l:List Tk} {y:Int×Int} (h:P l=.error y):dJ P (.ok l)=.error y:=by rw[dJ,h]
theorem yQ {α:Type} (e:Int) (x:α) (l:List Tk):dJ (iw e eD) (.ok l)=dJ (cT e x) (.ok l)∧mB (cT e x) (.ok l) x:=by
 refine⟨?_,fun l0 y l' h1 h2=>?_⟩
 ·rw[dJ,dJ,iw,cT];by_cases q:ku eD l=true
  ·rw[aq q,aq q]
  ·rw[ag q,ag q]
 ·cases h1;rw[cT] at h2;split at h2
  ·cases h2;rfl
  ·cases h2
def Kl (E:List Tk→PR Ex) (m i:Nat) (s2 sc:iO) (acc:List Ex):Prop:=
 (∃l3,s2=.ok l3∧((∃lc,sc=.ok lc∧dX E m l3 []=dX E (m-i) lc acc)∨(∃y,sc=.error y∧dX E m l3 []=.error y)))∨(∃y,s2=.error y∧sc=.error y)
theorem YG {E:List Tk→PR Ex} {m:Nat} {s2:iO}:Kl E m 0 s2 s2 []:=by
 cases s2 with
 |ok l3=>exact .inl ⟨l3,rfl,.inl ⟨l3,rfl,rfl⟩⟩
 |error y=>exact .inr ⟨y,rfl,rfl⟩
theorem NR {E:List Tk→PR Ex} {m i:Nat} {s2:iO} {lc:List Tk} {acc:List Ex} {x:Ex} (h:Kl E m i s2 (.ok lc) acc) (hi:i<m) (hx:mB E (.ok lc) x):Kl E m (i+1) s2 (dJ E (.ok lc)) (acc++[x]):=by
 rcases h with ⟨l3,rfl,⟨lc',h1,h2⟩|⟨y,h1,-⟩⟩|⟨y,-,h1⟩
 ·cases h1;refine .inl ⟨l3,rfl,?_⟩;rw[show m-i=(m-(i+1))+1 by omega,dX] at h2
  cases hE:E lc with
  |error y=>rw[hE] at h2;exact .inr ⟨y,gK hE,h2⟩
  |ok z=>
   obtain⟨y,l'⟩:=z;rw[hE] at h2;rw[hx lc y l' rfl hE];exact .inl ⟨l',mC hE,h2⟩
 ·cases h1
 ·cases h1
theorem GM {vl:List Va} {e d:Int} {f:Nat} (hf:d+f=13) (hd:0≤d) {s sc:iO} {acc:List Ex} {i:Nat} (Df:∀lc,sc=.ok lc→i=(partsOf (dI (fY e d 8 cS) 0 s:Nat)).toNat)
 (h:Kl (bL vl e (f-1)) (partsOf (dI (fY e d 8 cS) 0 s:Nat)).toNat i (dJ (fH vl e (dI (fY e d 8 cS) 0 s)) (dJ (fY e d 8 cS) s)) sc acc):
 dJ (iw e eD) sc=dJ (bL vl e f) s∧mB (bL vl e f) s (.mk (dI (fY e d 8 cS) 0 s:Nat) (dI (fH vl e (dI (fY e d 8 cS) 0 s)) (0,0) (dJ (fY e d 8 cS) s)).1 (dI (fH vl e (dI (fY e d 8 cS) 0 s)) (0,0) (dJ (fY e d 8 cS) s)).2 acc):=by
 have heq:=NQ (vl:=vl) (e:=e) hf hd
 cases s with
 |error y=>
  rcases h with ⟨l3,h1,-⟩|⟨y',h1,h2⟩
  ·cases h1
  ·cases h1;rw[h2];exact⟨rfl,fun l x l' h=>by cases h⟩
 |ok l=>
  cases hb:fY e d 8 cS l with
  |error y=>
   (have hE:bL vl e f l=.error y:=by rw[heq,hb];rfl);rw[gK hb] at h;rcases h with ⟨l3,h1,-⟩|⟨y',h1,h2⟩
   ·cases h1
   ·cases h1;rw[h2,gK hE];exact⟨rfl,fun l x l' h q=>by cases h;rw[hE] at q;cases q⟩
  |ok z=>
   obtain⟨k,l2⟩:=z;(have hk:dI (fY e d 8 cS) 0 (.ok l)=k:=by rw[dI,hb]);rw[mC hb,hk] at h⊢;rw[hk] at Df
   cases hh:fH vl e k l2 with
   |error y=>
    (have hE:bL vl e f l=.error y:=by rw[heq,hb];simp only[aT];rw[hh]);rw[gK hh] at h;rcases h with ⟨l3,h1,-⟩|⟨y',h1,h2⟩
    ·cases h1
    ·cases h1;rw[h2,gK hE];exact⟨rfl,fun l x l' h q=>by cases h;rw[hE] at q;cases q⟩
   |ok z=>
    obtain⟨vn,l3⟩:=z;(have hv:dI (fH vl e k) (0,0) (.ok l2)=vn:=by rw[dI,hh]);rw[mC hh] at h;rw[hv];rcases h with ⟨l3',h1,h2⟩|⟨y',h1,h2⟩
    ·cases h1;rcases h2 with ⟨lc,rfl,h2⟩|⟨y,rfl,h2⟩
     ·rw[Df lc rfl,Nat.sub_self,dX] at h2;(have hE:bL vl e f l=cT e (.mk k vn.1 vn.2 acc) lc:=by rw[heq,hb];simp only[aT];rw[hh];simp only;rw[h2]);obtain⟨q1,q2⟩:=yQ e (Ex.mk k vn.1 vn.2 acc) lc;refine⟨?_,fun l0 x l' h q=>?_⟩
      ·rw[q1,dJ,dJ,hE]
      ·cases h;rw[hE] at q;exact q2 lc x l' rfl q
     ·(have hE:bL vl e f l=.error y:=by rw[heq,hb];simp only[aT];rw[hh];simp only;rw[h2]);rw[gK hE];exact⟨rfl,fun l x l' h q=>by cases h;rw[hE] at q;cases q⟩
    ·cases h1
theorem head_eq {vl:List Va} {e:Int} {k:Nat} {s:iO}:
 dJ (fH vl e k) s=(if k=2∨k=3 then dJ (gk vl e) (if k=1 then dJ (gM e) s else s) else if k=1 then dJ (gM e) s else s)∧
 dI (fH vl e k) (0,0) s=((if k=2∨k=3 then dI (gk vl e) 0 (if k=1 then dJ (gM e) s else s) else 0),if k=1 then dI (gM e) 0 s else 0):=by
 by_cases h1:k=1
 ·subst h1;rw[ag au,aq rfl,ag au,aq rfl]
  cases s with
  |error y=>exact⟨rfl,rfl⟩
  |ok l=>
   rw[dJ,dJ,dI,dI,fH,aq rfl]
   cases gM e l with
   |error x=>exact⟨rfl,rfl⟩
   |ok y=>exact⟨rfl,rfl⟩
 ·by_cases h2:k=2∨k=3
  ·rw[aq h2,ag h1,aq h2,ag h1]
   cases s with
   |error y=>exact⟨rfl,rfl⟩
   |ok l=>
    rw[dJ,dJ,dI,dI,fH,ag h1,aq h2]
    cases gk vl e l with
    |error x=>exact⟨rfl,rfl⟩
    |ok y=>exact⟨rfl,rfl⟩
  ·rw[ag h2,ag h1,ag h2,ag h1]
   cases s with
   |error y=>exact⟨rfl,rfl⟩
   |ok l=>rw[dJ,dI,fH,ag h1,ag h2];exact⟨rfl,rfl⟩
theorem A6 {e d:Int} {most:Nat} {W:Int→ByteArray} {s:iO}:dI (fY e d most W) 0 s≤most∧((dI (fY e d most W) 0 s=0∧∃y,dJ (fY e d most W) s=.error y)∨(1≤dI (fY e d most W) 0 s∧d≤12)):=by
 cases s with
 |error y=>exact⟨cg _,.inl ⟨rfl,y,rfl⟩⟩
 |ok l=>
  cases hb:fY e d most W l with
  |error y=>rw[dI,dJ,hb];exact⟨cg _,.inl ⟨rfl,y,rfl⟩⟩
  |ok z=>
   obtain⟨k,l2⟩:=z;have Lw:=hb;rw[fY] at hb;split at hb
   ·cases hb
   ·split at hb
    ·cases hp:iC W most l.tail with
     |none=>rw[hp] at hb;cases hb
     |some k'=>
      rw[hp] at hb;cases hb;obtain⟨a1,a2,-,-⟩:=lY most 1 hp;rw[dI,Lw];exact⟨by show k≤most;omega,.inr ⟨a1,ad⟩⟩
    ·cases hb
theorem EL {vl:List Va} {e:Int} {s:iO} (hv:vl.length≤9223372036854775807):aG (dI (gk vl e) 0 s):=by
 cases s with
 |error y=>exact Sd
 |ok l=>
  cases h:gk vl e l with
  |error y=>rw[dI,h];exact Sd
  |ok z=>
   obtain⟨v,l'⟩:=z;obtain⟨t,i,-,rfl,-,h4⟩:=oD h;have:=oB _ _ _ h4;rw[dI,h];exact⟨by show (-9223372036854775808:Int)≤(i:Int);omega,by show (i:Int)≤9223372036854775807;omega⟩
def NS (L:List Tk) (p:Option Addr) (c0:Nat) (e:Int) (vl:List Va) (pv:Option Addr) (cv:Nat) (b:Nat) (f:Nat):Prop:=
 ∀(σ:PH) (s:iO) (d:Int),bV 4 je σ (.slice p L.length c0) L→(∀t∈L,lH t)→bV 2 sB σ (.slice pv vl.length cv) vl→d+f=13→0≤d→
 ah Tryz.prog 128 #[ptr b,i64 d] σ [Rg L (.slice p L.length c0) e (.slice pv vl.length cv) b s] (aA fun v aj al=>∃cs x,v=.agg (List.toArray cs)∧dL aj cs x∧mB (bL vl e f) s x∧σ.sub aj∧al=[Rg L (.slice p L.length c0) e (.slice pv vl.length cv) b (dJ (bL vl e f) s)])
theorem NT (L:List Tk) (p:Option Addr) (c0:Nat) (e:Int) (vl:List Va) (pv:Option Addr) (cv:Nat) (b f:Nat) (ih:∀g,f=g+1→NS L p c0 e vl pv cv b g):NS L p c0 e vl pv cv b f:=by
 intro σ s d hL hF hv hf hd;have IV:=hv.jK;have GN:Words 164 cS:=QH;obtain⟨Ov,tl⟩:=A6 (e:=e) (d:=d) (most:=8) (W:=cS) (s:=s);(have mD:=fun(sc:iO) (acc:List Ex) (i:Nat)=>GM (vl:=vl) (e:=e) hf hd (s:=s) (sc:=sc) (acc:=acc) (i:=i));obtain⟨SO,he2⟩:=head_eq (vl:=vl) (e:=e) (k:=dI (fY e d 8 cS) 0 s) (s:=dJ (fY e d 8 cS) s);rw[SO,he2] at mD;obtain⟨k,hk⟩:∃k,dI (fY e d 8 cS) 0 s=k:=⟨_,rfl⟩;obtain⟨s1,bz⟩:∃t,dJ (fY e d 8 cS) s=t:=⟨_,rfl⟩;have Km:=IU σ L p c0 e (.slice pv vl.length cv) b s 164 cS GN 8 au d hL;rw[hk,bz] at Km;rw[hk] at Ov;rw[hk,bz] at tl;simp only[hk,bz] at mD;clear SO he2;obtain⟨VJ,NU⟩:∃t,(if k=1 then dJ (gM e) s1 else s1)=t:=⟨_,rfl⟩;obtain⟨n1,rQ⟩:∃t,(if k=1 then dI (gM e) 0 s1 else 0)=t:=⟨_,rfl⟩;rw[NU,rQ] at mD;obtain⟨s2,bT⟩:∃t,(if k=2∨k=3 then dJ (gk vl e) VJ else VJ)=t:=⟨_,rfl⟩;obtain⟨v1,mK⟩:∃t,(if k=2∨k=3 then dI (gk vl e) 0 VJ else 0)=t:=⟨_,rfl⟩;rw[bT,mK] at mD;(have QJ:aG v1:=by rw[←mK];split;(exact EL IV);exact Sd);obtain⟨m,hm⟩:∃m,(partsOf k).toNat=m:=⟨_,rfl⟩;rw[hm] at mD;(have Zj:m≤2:=by rw[←hm];have:=l9 k;omega);(have hmk:∀i:Nat,((i:Int)<partsOf k)↔i<m:=fun i=>by rw[←hm];omega);refine cw Tryz.func128 ?_;refine aU ?_;refine di (fun g4=>?_) (ae rfl);refine a8 ?_;refine zw rfl (ax.cE (Km) rfl) ?_;rintro _ _ _ ⟨_,⟨⟨rfl,rfl⟩,rfl⟩,rfl⟩;refine az.cl ?_;refine bS ?_;refine di (fun g5=>?_) (ae rfl);refine cp ?_;refine XA.join [(14,16)] (fun _:Unit=>[]) (fun _ aj al=>σ=aj∧aG n1∧al=[Rg L (.slice p L.length c0) e (.slice pv vl.length cv) b VJ,aw g4 [i64 0,i64 0,i64 0,.slice none 0 0] 138,aw g5 [i64 k,i64 0,i64 n1,.slice none 0 0] 138]) ?_ ?_
 ·skip;refine XA.bE rfl (fun q1=>?_) (fun q1=>?_)
  ·(have q1':k=1:=by omega);rw[aq q1'] at NU rQ;have s9:=EJ σ L p c0 e (.slice pv vl.length cv) b s1 hL hF;rw[NU,rQ] at s9;refine aU ?_;refine zw rfl (ax.cE (s9) rfl) ?_;rintro _ _ _ ⟨_,⟨⟨rfl,QK,rfl⟩,rfl⟩,rfl⟩;refine az.cl ?_;refine bY ?_;refine⟨bQ,(),_,zM,?_,⟨rfl,QK,rfl⟩⟩
   ·exact zE
  ·(have q1':¬k=1:=by omega);rw[ag q1'] at NU rQ;subst NU rQ;refine aU ?_;refine⟨bQ,(),_,zM,?_,⟨rfl,Sd,rfl⟩⟩
   ·exact zE
 rintro _ δ _ _ ⟨rfl,QK,rfl⟩;dsimp only[dq,List.foldl];refine cx ?_;refine XA.join [(17,24)] (fun _:Unit=>[(24,.bool (decide (k=2∨k=3)))]) (fun _ aj al=>σ=aj∧al=[Rg L (.slice p L.length c0) e (.slice pv vl.length cv) b VJ,aw g4 [i64 0,i64 0,i64 0,.slice none 0 0] 138,aw g5 [i64 k,i64 0,i64 n1,.slice none 0 0] 138]) ?_ ?_
 ·skip;by_cases h2:k=2
  ·have e1:decide (k=2∨k=3)=true:=aM (.inl h2);have e2:decide ((k:Int)=2)=true:=aM ad;rw[e1];refine cp ?_;refine⟨bQ,(),_,zM,?_,⟨rfl,rfl⟩⟩
   ·exact zE
  ·by_cases h3:k=3
   ·have e1:decide (k=2∨k=3)=true:=aM (.inr h3);have e2:decide ((k:Int)=2)=false:=aE ad;have e3:decide ((k:Int)=3)=true:=aM ad;rw[e1.trans e3.symm];refine cp ?_;refine⟨bQ,(),_,zM,?_,⟨rfl,rfl⟩⟩
    ·exact zE
   ·have e1:decide (k=2∨k=3)=false:=aE ad;have e2:decide ((k:Int)=2)=false:=aE ad;have e3:decide ((k:Int)=3)=false:=aE ad;rw[e1.trans e3.symm];refine cp ?_;refine⟨bQ,(),_,zM,?_,⟨rfl,rfl⟩⟩
    ·exact zE
 rintro _ δ _ _ ⟨rfl,rfl⟩;dsimp only[dq,List.foldl];refine bS ?_;refine XA.join [(25,27)] (fun _:Unit=>[]) (fun _ aj al=>σ=aj∧al=[Rg L (.slice p L.length c0) e (.slice pv vl.length cv) b s2,aw g4 [i64 0,i64 0,i64 0,.slice none 0 0] 138,aw g5 [i64 k,i64 v1,i64 n1,.slice none 0 0] 138]) ?_ ?_
 ·skip;refine XA.bE rfl (fun q2=>?_) (fun q2=>?_)
  ·rw[aq q2] at bT mK;have NV:=yP σ L p c0 e b VJ vl pv cv hv hL hF;rw[bT,mK] at NV;refine aU ?_;refine zw rfl (ax.cE (NV) rfl) ?_;rintro _ _ _ ⟨_,⟨⟨rfl,rfl⟩,rfl⟩,rfl⟩;refine az.cl ?_;refine bY ?_;refine⟨bQ,(),_,zM,?_,⟨rfl,rfl⟩⟩
   ·exact zE
  ·rw[ag q2] at bT mK;subst bT mK;refine aU ?_;refine⟨bQ,(),_,zM,?_,⟨rfl,rfl⟩⟩
   ·exact zE
 rintro _ δ _ _ ⟨rfl,rfl⟩;dsimp only[dq,List.foldl];(refine bJ ?_;refine XA.eX (ar.dU (e:=138) (size:=4) (ar.refl _)) ?_;refine XA.gen [(0,_),(1,_),(4,_),(5,_),(6,_)] iX fun δ=>?_);dsimp only[List.foldl];refine XA.loop [(6,6),(28,47)] (fun i:Nat=>[(6,i64 i)]) (fun i aj al=>σ.sub aj∧i≤m∧∃(sc:iO) (acc:List Ex) (pl:Option Addr) (cl:Nat) (rows:List (List Value)),Kl (bL vl e (f-1)) m i s2 sc acc∧acc.length=i∧cN 4 dL aj rows acc∧al=[aS 138 4 (.slice pl i cl) i rows.flatten,Rg L (.slice p L.length c0) e (.slice pv vl.length cv) b sc,aw g4 [i64 0,i64 0,i64 0,.slice none 0 0] 138,aw g5 [i64 k,i64 v1,i64 n1,.slice pl i cl] 138]) (fun i=>m-i) 0 eb (Δ0:=_) ?_ (⟨.refl _,cg _,s2,[],none,0,[],YG,rfl,cN.nil _ _ _,rfl⟩) ?_
 ·exact zE
 rintro i δ cO _ ⟨qv,hi,sc,acc,pl,cl,rows,hSub,dr,ep,rfl⟩;dsimp only[dq,List.foldl];have hi:i≤m:=hi;have kN:=hL.mono qv (fun _ _ h=>h);have U3:=hv.mono qv (fun _ _ h=>h);by_cases aV:i<m
 ·have sO:(i:Int)<partsOf k:=(hmk i).2 aV
  cases sc with
  |ok lc=>
   have aaL:d≤12:=by
    rcases tl with ⟨h0,-⟩|⟨-,h0⟩
    ·rw[h0,show (partsOf ((0:Nat):Int)).toNat=0 from rfl] at hm;omega
    ·exact h0
   obtain⟨g,rfl⟩:∃g,f=g+1:=⟨f-1,ad⟩;have nG:=ih g rfl cO (.ok lc) (d+1) kN hF U3 ad ad;refine a8 ?_;refine yC (sZ cO k) ?_;refine cx ?_;refine zG ?_;refine zw rfl (ax.cE (zW cO L e _ b (.ok lc) _) rfl) ?_;rintro _ _ _ ⟨_,⟨⟨rfl,rfl⟩,rfl⟩,rfl⟩;refine az.cl ?_;refine bJ ?_;refine et 10 45687 [7,9] (ar.bB (R:=aw g5 _ _) zL (ar.nil _)) ?_;refine dc ?_;refine aP.fw rfl rfl Gd.free (ax.cE (nG) rfl) ?_;rintro _ cL _ ⟨_,⟨wh,x',rfl,ju,n7,NW,rfl⟩,rfl⟩;refine stays (aP.cl ?_);have rV:=ju.len;have tg:=ju.dT;have YH:Kl (bL vl e (g+1-1)) m (i+1) s2 (dJ (bL vl e g) (.ok lc)) (acc++[x']):=NR hSub aV n7;have eR:cN 4 dL cL (rows++[wh]) (acc++[x']):=(ep.mono (fun _ _ h=>h.mono NW)).snoc rV ju;refine aP.fw rfl rfl Gd.free (ax.jY (ae rfl) rfl (ae rfl)) ?_;rintro _ _ _ ⟨g45,rfl,rfl,rfl⟩;refine stays ?_;refine aP.b7 rfl rfl Gd.free aC (ax.kM (ae rfl) rfl (ae rfl) rfl rfl rfl) ?_;rintro _ _ _ ⟨p46,c46,rfl,rfl,rfl⟩;refine bS ?_;refine kS rfl (ax.st (ae rfl) rfl) ?_;refine bt ?_;refine⟨bQ,i+1,_,zM,?_,⟨qv.trans NW,aV,_,acc++[x'],p46,c46,rows++[wh],YH,(by rw[bq,dr];rfl),eR,rfl⟩,ad⟩
   ·rw[k6];exact zE
  |error y=>
   obtain⟨w1,w2⟩:=mD (.error y) acc i (fun lc h=>by cases h) hSub;refine a8 ?_;refine yC (sZ cO k) ?_;refine cx ?_;refine zG ?_;refine zw rfl (ax.cE (zW cO L e _ b (.error y) _) rfl) ?_;rintro _ _ _ ⟨_,⟨⟨rfl,rfl⟩,rfl⟩,rfl⟩;refine az.cl ?_;refine bm ?_;refine zw rfl (ax.cE (sw cO L p c0 e _ b (.error y) eD kN) rfl) ?_;rintro _ _ _ ⟨_,⟨⟨rfl,rfl⟩,rfl⟩,rfl⟩;refine az.cl ?_;rw[w1];refine bt ?_;refine DA.mX (R:=aS 138 4 (.slice pl i cl) _ _) zL cm aH ?_;rintro fZ ⟨⟩ sG cQ;have gG:dL fZ [i64 k,i64 v1,i64 n1,.slice pl i cl] (.mk k v1 n1 acc):=dL.of ⟨ad,ad⟩ QJ QK ((ep.mono (fun _ _ h=>h.mono cQ)).Cx dr.symm sG);exact ao.ret (aB.cell rfl rfl (Ld.bn (ae rfl) rfl zL rfl cK cJ)) zE ⟨_,_,rfl,gG,w2,qv.trans cQ,rfl⟩
 ·(have sO:¬(i:Int)<partsOf k:=fun h=>aV ((hmk i).1 h));obtain⟨w1,w2⟩:=mD sc acc i (fun lc h=>by omega) hSub;refine a8 ?_;refine yC (sZ cO k) ?_;refine dC ?_;refine zw rfl (ax.cE (sw cO L p c0 e _ b sc eD kN) rfl) ?_;rintro _ _ _ ⟨_,⟨⟨rfl,rfl⟩,rfl⟩,rfl⟩;refine az.cl ?_;rw[w1];refine bt ?_;refine DA.mX (R:=aS 138 4 (.slice pl i cl) _ _) zL cm aH ?_;rintro fZ ⟨⟩ sG cQ;have gG:dL fZ [i64 k,i64 v1,i64 n1,.slice pl i cl] (.mk k v1 n1 acc):=dL.of ⟨ad,ad⟩ QJ QK ((ep.mono (fun _ _ h=>h.mono cQ)).Cx dr.symm sG);exact ao.ret (aB.cell rfl rfl (Ld.bn (ae rfl) rfl zL rfl cK cJ)) zE ⟨_,_,rfl,gG,w2,qv.trans cQ,rfl⟩
theorem EM (L:List Tk) (p:Option Addr) (c0:Nat) (e:Int) (vl:List Va) (pv:Option Addr) (cv:Nat) (b:Nat):∀f,NS L p c0 e vl pv cv b f
 |0=>NT L p c0 e vl pv cv b 0 (fun g h=>by omega)
 |f+1=>NT L p c0 e vl pv cv b (f+1) (fun g h=>by cases h;exact EM L p c0 e vl pv cv b f)
theorem qX {α β:Type} {P:List Tk→PR α} {K:α→List Tk→PR β} {s:iO} {x:α} (hx:mB P s x):dJ (fun l=>aT (P l) K) s=dJ (K x) (dJ P s)∧∀z,mB (K x) (dJ P s) z→mB (fun l=>aT (P l) K) s z:=by
 cases s with
 |error y=>exact⟨rfl,fun z _ l w l' h=>by cases h⟩
 |ok l=>
  cases hP:P l with
  |error y=>
   (have hb:(fun l=>aT (P l) K) l=.error y:=by show aT (P l) K=_;rw[hP];rfl);exact⟨by rw[gK hb,gK hP];rfl,fun z _ l0 w l' h q=>by cases h;rw[hb] at q;cases q⟩
  |ok y=>
   obtain⟨x',l1⟩:=y;have e:=hx l x' l1 rfl hP;subst e;(have hb:(fun l=>aT (P l) K) l=K x l1:=by show aT (P l) K=_;rw[hP];rfl);rw[mC hP];refine⟨by rw[dJ,hP];rfl,fun z hz l0 w l' h q=>?_⟩;cases h;rw[hb] at q;exact hz l1 w l' rfl q
theorem NY {α:Type} {P:List Tk→PR α} {d:α} {s:iO}:mB P s (dI P d s):=fun l y l' h q=>by subst h;rw[dI,q]
theorem nq {α:Type} {z:α} {a:List Tk→PR α}:cA true z a=a:=by funext l;rw[cA,aq rfl]
theorem U4 {α:Type} {z:α} {a:List Tk→PR α}:cA false z a=fun l=>.ok (z,l):=by funext l;rw[cA,ag Bool.noConfusion]
theorem uk {α:Type} {z:α} {a:List Tk→PR α} {s:iO}:dJ (cA false z a) s=s∧mB (cA false z a) s z:=by
 rw[U4]
 cases s with
 |error y=>exact⟨rfl,fun l w l' h=>by cases h⟩
 |ok l=>exact⟨rfl,fun l w l' h q=>by cases q;rfl⟩
theorem N0 {α:Type} {a:List Tk→PR α} {s:iO} (x:α) (h:s.Mb=false):dJ a s=s∧mB a s x:=by
 cases s with
 |error y=>exact⟨rfl,fun l w l' h=>by cases h⟩
 |ok l=>cases h
theorem N1 {α:Type} {e:Int} {x:α} {s:iO}:dJ (cT e x) s=dJ (iw e eD) s∧mB (cT e x) s x:=by
 cases s with
 |error y=>exact⟨rfl,fun l w l' h=>by cases h⟩
 |ok l=>obtain⟨a,b⟩:=yQ e x l;exact⟨a.symm,b⟩
def Kn (S:List Tk→PR St) (s1 sc:iO) (acc:List St):Prop:=
 (∃l1,s1=.ok l1∧((∃lc gc,sc=.ok lc∧lc.length<gc∧iF S (l1.length+1) l1 []=iF S gc lc acc)∨(∃y,sc=.error y∧iF S (l1.length+1) l1 []=.error y)))∨(∃y,s1=.error y∧sc=.error y)
theorem YI {S:List Tk→PR St} {s1:iO}:Kn S s1 s1 []:=by
 cases s1 with
 |ok l=>exact .inl ⟨l,rfl,.inl ⟨l,l.length+1,rfl,Nat.lt_succ_self _,rfl⟩⟩
 |error y=>exact .inr ⟨y,rfl,rfl⟩
theorem N2 {S:List Tk→PR St} (hS:∀l x l',S l=.ok (x,l')→l'.length<l.length) {s1:iO} {lc:List Tk} {acc:List St} {x:St} (h:Kn S s1 (.ok lc) acc) (hr:ku eD lc=false) (hx:mB S (.ok lc) x):Kn S s1 (dJ S (.ok lc)) (acc++[x]):=by
 rcases h with ⟨l1,rfl,⟨lc',gc,h1,hg,h2⟩|⟨y,h1,-⟩⟩|⟨y,-,h1⟩
 ·cases h1;refine .inl ⟨l1,rfl,?_⟩;obtain⟨gc,rfl⟩:∃g,gc=g+1:=⟨gc-1,ad⟩;rw[iF.eq_def S (gc+1)] at h2;simp only at h2;rw[ag (by rw[hr];exact Bool.noConfusion)] at h2
  cases hE:S lc with
  |error y=>rw[hE] at h2;exact .inr ⟨y,gK hE,h2⟩
  |ok z=>
   obtain⟨y,l'⟩:=z;rw[hE] at h2;rw[hx lc y l' rfl hE];have:=hS lc y l' hE;exact .inl ⟨l',gc,mC hE,ad,h2⟩
 ·cases h1
 ·cases h1
theorem Ko {S:List Tk→PR St} {e:Int} {s sc:iO} {acc:List St} (h:Kn S (dJ (iw e lr) s) sc acc) (Df:∀lc,sc=.ok lc→ku eD lc=true):dJ (iw e eD) sc=dJ (dA S e) s∧mB (dA S e) s acc:=by
 cases s with
 |error y=>
  rcases h with ⟨l1,h1,-⟩|⟨y',h1,h2⟩
  ·cases h1
  ·cases h1;rw[h2];exact⟨rfl,fun l w l' h=>by cases h⟩
 |ok l=>
  by_cases q:ku lr l=true
  ·(have hm:dJ (iw e lr) (.ok l)=.ok l.tail:=by rw[dJ,iw,aq q]);(have hl:dA S e l=iF S (l.tail.length+1) l.tail []:=by rw[dA,aq q]);rw[hm] at h;rcases h with ⟨l1,h1,⟨lc,gc,rfl,hg,h2⟩|⟨y,rfl,h2⟩⟩|⟨y,h1,-⟩
   ·cases h1;obtain⟨gc,rfl⟩:∃g,gc=g+1:=⟨gc-1,ad⟩;have hr:=Df lc rfl;rw[iF.eq_def S (gc+1)] at h2;simp only at h2;rw[aq hr] at h2;rw[h2] at hl;refine⟨by rw[mC hl,dJ,iw,aq hr],fun l0 w l' h q=>?_⟩;cases h;rw[hl] at q;cases q;rfl
   ·cases h1;rw[h2] at hl;rw[gK hl];exact⟨rfl,fun l0 w l' h q=>by cases h;rw[hl] at q;cases q⟩
   ·cases h1
  ·(have hm:dJ (iw e lr) (.ok l)=.error (bD e l 5):=by rw[dJ,iw,ag q]);(have hl:dA S e l=.error (bD e l 5):=by rw[dA,ag q]);rw[hm] at h;rcases h with ⟨l1,h1,-⟩|⟨y',h1,h2⟩
   ·cases h1
   ·cases h1;rw[h2,gK hl];exact⟨rfl,fun l0 w l' h q=>by cases h;rw[hl] at q;cases q⟩
def IW (L:List Tk) (p:Option Addr) (c0:Nat) (e:Int) (vl:List Va) (pv:Option Addr) (cv:Nat) (b:Nat) (f:Nat):Prop:=
 ∀(σ:PH) (s:iO) (d:Int),bV 4 je σ (.slice p L.length c0) L→L.length≤100000→(∀t∈L,lH t)→bV 2 sB σ (.slice pv vl.length cv) vl→d+f=13→0≤d→
 ah Tryz.prog 80 #[ptr b,i64 d] σ [Rg L (.slice p L.length c0) e (.slice pv vl.length cv) b s] (aA fun v aj al=>∃cs x,v=.agg (List.toArray cs)∧dF aj cs x∧mB (bH vl e f) s x∧σ.sub aj∧al=[Rg L (.slice p L.length c0) e (.slice pv vl.length cv) b (dJ (bH vl e f) s)])
def Se (L:List Tk) (p:Option Addr) (c0:Nat) (e:Int) (vl:List Va) (pv:Option Addr) (cv:Nat) (b:Nat) (f:Nat):Prop:=
 ∀(σ:PH) (s:iO) (d:Int),bV 4 je σ (.slice p L.length c0) L→L.length≤100000→(∀t∈L,lH t)→bV 2 sB σ (.slice pv vl.length cv) vl→d+f=13→0≤d→
 ah Tryz.prog 129 #[ptr b,i64 d] σ [Rg L (.slice p L.length c0) e (.slice pv vl.length cv) b s] (aA fun v aj al=>∃pl cl x,v=.slice pl x.length cl∧bV 12 dF aj (.slice pl x.length cl) x∧mB (dA (bH vl e f) e) s x∧σ.sub aj∧al=[Rg L (.slice p L.length c0) e (.slice pv vl.length cv) b (dJ (dA (bH vl e f) e) s)])
def iO.len:iO→Nat|.ok l=>l.length+1|.error _=>0
theorem Rg.len {L:List Tk} {sl vs:Value} {e:Int} {b:Nat} {s:iO}:∀m,Rg L sl e vs b s m→s.len≤L.length+1:=by
 rintro m ⟨k,c,a,h,hk,hd⟩
 cases s with
 |ok l=>
  obtain⟨-,-,hd⟩:=hd;show l.length+1≤_;rw[←hd,List.length_drop];omega
 |error y=>exact cg _
theorem U5 (L:List Tk) (p:Option Addr) (c0:Nat) (e:Int) (vl:List Va) (pv:Option Addr) (cv:Nat) (b f:Nat) (ih:IW L p c0 e vl pv cv b f):Se L p c0 e vl pv cv b f:=by
 intro σ s d hL YJ hF hv hf hd;(have aV:∀l x l',bH vl e f l=.ok (x,l')→l'.length<l.length:=fun l x l' h=>(eI f l x l' h).2);(have mD:=fun(sc:iO) (acc:List St)=>Ko (S:=bH vl e f) (e:=e) (s:=s) (sc:=sc) (acc:=acc));obtain⟨s1,bz⟩:∃t,dJ (iw e lr) s=t:=⟨_,rfl⟩;have Sf:=sw σ L p c0 e (.slice pv vl.length cv) b s lr hL;rw[bz] at Sf mD;refine cw Tryz.func129 ?_;refine dB ?_;refine zw rfl (ax.cE (Sf) rfl) ?_;rintro _ _ _ ⟨_,⟨⟨rfl,rfl⟩,rfl⟩,rfl⟩;refine az.cl ?_;refine bY ?_;(first|refine XA.fact (R:=Rg _ _ _ _ _ _) zL (Rg.len) ?_|refine az.fact (R:=Rg _ _ _ _ _ _) zL (Rg.len) ?_|refine DA.fact (R:=Rg _ _ _ _ _ _) zL (Rg.len) ?_);rintro adl;(refine XA.eX (ar.dU (e:=140) (size:=12) (ar.refl _)) ?_;refine XA.gen [(0,_),(1,_),(4,_),(5,_)] iX fun δ=>?_);dsimp only[List.foldl];refine XA.loop [(5,5),(8,20)] (fun x:(Nat×(Option Addr×Nat))×iO=>[(5,.slice x.1.2.1 x.1.1 x.1.2.2)]) (fun x aj al=>σ.sub aj∧x.1.1+x.2.len≤s1.len∧∃(acc:List St) (rows:List (List Value)),Kn (bH vl e f) s1 x.2 acc∧acc.length=x.1.1∧cN 12 dF aj rows acc∧al=[aS 140 12 (.slice x.1.2.1 x.1.1 x.1.2.2) x.1.1 rows.flatten,Rg L (.slice p L.length c0) e (.slice pv vl.length cv) b x.2]) (fun x=>x.2.len) ((0,(none,0)),s1) eb (Δ0:=_) ?_ (⟨.refl _,aZ,[],[],YI,rfl,cN.nil _ _ _,rfl⟩) ?_
 ·exact zE
 rintro⟨⟨i,pl,cl⟩,sc⟩ δ cO _ ⟨qv,U6,acc,rows,QL,dr,ep,rfl⟩;dsimp only[dq,List.foldl];have kN:=hL.mono qv (fun _ _ h=>h);have U3:=hv.mono qv (fun _ _ h=>h);simp only at U6 QL dr
 cases sc with
 |ok lc=>
  have j3:iO.len (.ok lc)=lc.length+1:=rfl
  cases hr:ku eD lc with
  |true=>
   obtain⟨w1,w2⟩:=mD (.ok lc) acc QL (fun l h=>by cases h;exact hr);have y8:=EI cO L p c0 e (.slice pv vl.length cv) b (.ok lc) eD kN;rw[show zU eD (.ok lc)=true from hr] at y8;refine bY ?_;refine zw rfl (ax.cE (zW cO L e _ b (.ok lc) _) rfl) ?_;rintro _ _ _ ⟨_,⟨⟨rfl,rfl⟩,rfl⟩,rfl⟩;refine az.cl ?_;refine aU ?_;refine zG ?_;refine zw rfl (ax.cE (y8) rfl) ?_;rintro _ _ _ ⟨_,⟨⟨rfl,rfl⟩,rfl⟩,rfl⟩;refine az.cl ?_;refine dB ?_;refine zw rfl (ax.cE (sw cO L p c0 e _ b (.ok lc) eD kN) rfl) ?_;rintro _ _ _ ⟨_,⟨⟨rfl,rfl⟩,rfl⟩,rfl⟩;refine az.cl ?_;rw[w1];refine bt ?_;refine DA.mX (R:=aS 140 12 (.slice pl i cl) _ _) zL cm aH ?_;rintro fZ ⟨⟩ sG cQ;subst dr;exact bC rfl rfl ⟨pl,cl,acc,rfl,(ep.mono (fun _ _ h=>h.mono cQ)).Cx rfl sG,w2,qv.trans cQ,rfl⟩
  |false=>
   have nG:=ih cO (.ok lc) d kN YJ hF U3 hf hd;have y8:=EI cO L p c0 e (.slice pv vl.length cv) b (.ok lc) eD kN;rw[show zU eD (.ok lc)=false from hr] at y8
   have xy:iO.len (dJ (bH vl e f) (.ok lc))<iO.len (.ok lc):=by
    cases hE:bH vl e f lc with
    |ok z=>obtain⟨x,l'⟩:=z;rw[mC hE];have:=aV lc x l' hE;show l'.length+1<lc.length+1;omega
    |error y=>rw[gK hE];show 0<lc.length+1;omega
   refine bY ?_;refine zw rfl (ax.cE (zW cO L e _ b (.ok lc) _) rfl) ?_;rintro _ _ _ ⟨_,⟨⟨rfl,rfl⟩,rfl⟩,rfl⟩;refine az.cl ?_;refine aU ?_;refine zG ?_;refine zw rfl (ax.cE (y8) rfl) ?_;rintro _ _ _ ⟨_,⟨⟨rfl,rfl⟩,rfl⟩,rfl⟩;refine az.cl ?_;refine bm ?_;refine zw rfl (ax.cE (nG) rfl) ?_;rintro _ cL _ ⟨_,⟨wh,x',rfl,ju,n7,NW,rfl⟩,rfl⟩;refine az.cl ?_;have rV:=ju.len;have tg:=ju.dT;have YK:Kn (bH vl e f) s1 (dJ (bH vl e f) (.ok lc)) (acc++[x']):=N2 aV QL hr n7;have eR:cN 12 dF cL (rows++[wh]) (acc++[x']):=(ep.mono (fun _ _ h=>h.mono NW)).snoc rV ju;refine zw rfl (ax.jY (ae rfl) rfl (ae rfl)) ?_;rintro _ _ _ ⟨g19,rfl,rfl,rfl⟩;refine zw rfl (ax.kM (ae rfl) rfl (ae rfl) rfl rfl rfl) ?_;rintro _ _ _ ⟨p20,c20,rfl,rfl,rfl⟩;refine bY ?_;refine⟨bQ,((i+1,(p20,c20)),dJ (bH vl e f) (.ok lc)),_,zM,?_,⟨qv.trans NW,by show i+1+iO.len (dJ (bH vl e f) (.ok lc))≤s1.len;omega,acc++[x'],rows++[wh],YK,(by rw[bq,dr];rfl),eR,rfl⟩,xy⟩
   ·rw[k6];exact zE
 |error y=>
  obtain⟨w1,w2⟩:=mD (.error y) acc QL (fun l h=>by cases h);refine bY ?_;refine zw rfl (ax.cE (zW cO L e _ b (.error y) _) rfl) ?_;rintro _ _ _ ⟨_,⟨⟨rfl,rfl⟩,rfl⟩,rfl⟩;refine az.cl ?_;refine dC ?_;refine zw rfl (ax.cE (sw cO L p c0 e _ b (.error y) eD kN) rfl) ?_;rintro _ _ _ ⟨_,⟨⟨rfl,rfl⟩,rfl⟩,rfl⟩;refine az.cl ?_;rw[w1];refine bt ?_;refine DA.mX (R:=aS 140 12 (.slice pl i cl) _ _) zL cm aH ?_;rintro fZ ⟨⟩ sG cQ;subst dr;exact bC rfl rfl ⟨pl,cl,acc,rfl,(ep.mono (fun _ _ h=>h.mono cQ)).Cx rfl sG,w2,qv.trans cQ,rfl⟩
set_option maxRecDepth 4000
theorem N3 {vl:List Va} {e d:Int} {f:Nat} (hf:d+f=13) (hd:0≤d):bH vl e f=fun l=>aT (fY e d 7 eH l) fun k l2=>aT (cA (k7 k) 0 (gk vl e) l2) fun v l3=>aT (cA (dE k) eU (bL vl e (f-1)) l3) fun x l4=>aT (cA (fS k) eU (bL vl e (f-1)) l4) fun y l5=>
 aT (cA (jw k) [] (dA (bH vl e (f-1)) e) l5) fun bd l6=>aT (cA (jj k) [] (dA (bH vl e (f-1)) e) l6) fun el l7=>cT e (St.mk k v x y bd el) l7:=by
 funext l
 cases f with
 |zero=>
  (have:(12:Int)<d:=by have:d+(0:Nat)=13:=hf;omega);rw[bH,fY,aq this];rfl
 |succ f=>
  (have:¬(12:Int)<d:=by omega);rw[bH,fY,ag this];split
  ·cases iC eH 7 l.tail with
   |none=>rfl
   |some k=>rfl
  ·rfl
theorem yR (σ:PH) (op:Int) (c:Nat) (q:Bool) (h:kr (lX op) c=q):ah Tryz.prog 126 #[i64 op,.int .u8 c] σ [] (aA fun v aj al=>v=.bool q∧σ=aj∧al=[]):=h▸eG σ op c
theorem EN {σ:PH} {cs:List Value} {x:Ex} (h:dL σ cs x):∃y:Option Addr×Nat,cs=[i64 x.op,i64 x.v,i64 x.n,.slice y.1 x.l.length y.2]∧dL σ [i64 x.op,i64 x.v,i64 x.n,.slice y.1 x.l.length y.2] x:=by
 have h0:=h;obtain⟨p,c,rfl,-⟩:=h.inv;exact⟨(p,c),rfl,h0⟩
theorem N4 (L:List Tk) (p:Option Addr) (c0:Nat) (e:Int) (vl:List Va) (pv:Option Addr) (cv:Nat) (b f:Nat) (ih:∀g,f=g+1→IW L p c0 e vl pv cv b g):IW L p c0 e vl pv cv b f:=by
 intro σ s d hL YJ hF hv hf hd;have IV:=hv.jK;have GN:Words 125 eH:=QI;obtain⟨Ov,tl⟩:=A6 (e:=e) (d:=d) (most:=7) (W:=eH) (s:=s);have hvk:=NY (P:=fY e d 7 eH) (d:=0) (s:=s);have Km:=IU σ L p c0 e (.slice pv vl.length cv) b s 125 eH GN 7 au d hL;obtain⟨k,hk⟩:∃k,dI (fY e d 7 eH) 0 s=k:=⟨_,rfl⟩;rw[hk] at Ov tl hvk Km
 obtain⟨b1,b2⟩:=qX (K:=fun(k:Nat) l2=>aT (cA (k7 k) 0 (gk vl e) l2) fun v l3=>aT (cA (dE k) eU (bL vl e (f-1)) l3) fun x l4=>aT (cA (fS k) eU (bL vl e (f-1)) l4) fun y l5=>
  aT (cA (jw k) [] (dA (bH vl e (f-1)) e) l5) fun bd l6=>aT (cA (jj k) [] (dA (bH vl e (f-1)) e) l6) fun el l7=>cT e (St.mk k v x y bd el) l7) hvk
 rw[←N3 hf hd] at b1 b2;obtain⟨s1,bz⟩:∃t,dJ (fY e d 7 eH) s=t:=⟨_,rfl⟩;rw[bz] at Km b1 b2 tl;obtain⟨YL,YM,YN,YO,YP⟩:=ln k
 have uK:k7 k=true∨dE k=true∨fS k=true∨jw k=true∨jj k=true→1≤k:=fun h=>by
  apply Decidable.byContradiction;intro q;(have:k=0:=by omega);subst this;revert h;decide
 have YQ:1≤k→d+1+(f-1:Nat)=13:=fun h=>by
  rcases tl with ⟨h0,-⟩|⟨-,h0⟩<;>omega
 (have hLi:1≤k→Se L p c0 e vl pv cv b (f-1):=fun h=>U5 L p c0 e vl pv cv b (f-1) (ih (f-1) (by have:=YQ h;omega)));have hEx:=EM L p c0 e vl pv cv b (f-1);refine cw Tryz.func80 ?_;refine aU ?_;refine di (fun g4=>?_) (ae rfl);refine a8 ?_;refine zw rfl (ax.cE (Km) rfl) ?_;rintro _ _ _ ⟨_,⟨⟨rfl,rfl⟩,rfl⟩,rfl⟩;refine az.cl ?_;refine bS ?_;refine di (fun g5=>?_) (ae rfl);refine bJ ?_;refine yC (yR σ k 118 _ YN) ?_;refine aU ?_;obtain⟨s2,bT⟩:∃t,dJ (cA (k7 k) 0 (gk vl e)) s1=t:=⟨_,rfl⟩;refine XA.join [(13,15)] (fun y:Int=>[]) (fun y aj al=>σ=aj∧aG y∧mB (cA (k7 k) 0 (gk vl e)) s1 y∧al=[Rg L (.slice p L.length c0) e (.slice pv vl.length cv) b s2,aw g4 [i64 0,i64 0,i64 0,i64 0,i64 0,.slice none 0 0,i64 0,i64 0,i64 0,.slice none 0 0,.slice none 0 0,.slice none 0 0] 140,aw g5 [i64 k,i64 y,i64 0,i64 0,i64 0,.slice none 0 0,i64 0,i64 0,i64 0,.slice none 0 0,.slice none 0 0,.slice none 0 0] 140]) ?_ ?_
 ·skip;refine XA.cond rfl (fun hq=>?_) (fun hq=>?_)
  ·rw[hq,nq] at bT;have NV:=yP σ L p c0 e b s1 vl pv cv hv hL hF;rw[bT] at NV;have ZP:=NY (P:=gk vl e) (d:=0) (s:=s1);have h64:=EL (vl:=vl) (e:=e) (s:=s1) IV;rw[hq,nq];refine aU ?_;refine zw rfl (ax.cE (NV) rfl) ?_;rintro _ _ _ ⟨_,⟨⟨rfl,rfl⟩,rfl⟩,rfl⟩;refine az.cl ?_;refine bY ?_;refine⟨bQ,_,_,zM,?_,⟨rfl,h64,ZP,rfl⟩⟩
   ·exact zE
  ·obtain⟨n1,n2⟩:=uk (z:=(0:Int)) (a:=gk vl e) (s:=s1);rw[hq,n1] at bT;subst bT;rw[hq];refine aU ?_;refine⟨bQ,_,_,zM,?_,⟨rfl,Sd,n2,rfl⟩⟩
   ·exact zE
 rintro v1 δ _ _ ⟨rfl,QJ,hvv,rfl⟩;dsimp only[dq,List.foldl];refine bS ?_
 obtain⟨c1,c2⟩:=qX (K:=fun v l3=>aT (cA (dE k) eU (bL vl e (f-1)) l3) fun x l4=>aT (cA (fS k) eU (bL vl e (f-1)) l4) fun y l5=>
  aT (cA (jw k) [] (dA (bH vl e (f-1)) e) l5) fun bd l6=>aT (cA (jj k) [] (dA (bH vl e (f-1)) e) l6) fun el l7=>cT e (St.mk k v x y bd el) l7) hvv
 rw[bT] at c1 c2;refine aU ?_;refine XA.join [(16,22)] (fun _:Unit=>[(22,.bool (dE k&&s2.Mb))]) (fun _ aj al=>σ=aj∧al=[Rg L (.slice p L.length c0) e (.slice pv vl.length cv) b s2,aw g4 [i64 0,i64 0,i64 0,i64 0,i64 0,.slice none 0 0,i64 0,i64 0,i64 0,.slice none 0 0,.slice none 0 0,.slice none 0 0] 140,aw g5 [i64 k,i64 v1,i64 0,i64 0,i64 0,.slice none 0 0,i64 0,i64 0,i64 0,.slice none 0 0,.slice none 0 0,.slice none 0 0] 140]) ?_ ?_
 ·refine cx ?_;refine yC (yR σ k 101 _ YL) ?_
  cases hq:dE k with
  |true=>
   refine aU ?_;refine zG ?_;refine zw rfl (ax.cE (zW σ L e _ b s2 _) rfl) ?_;rintro _ _ _ ⟨_,⟨⟨rfl,rfl⟩,rfl⟩,rfl⟩;refine az.cl ?_;refine cx ?_;refine⟨bQ,(),_,zM,?_,⟨rfl,rfl⟩⟩
   ·exact zE
  |false=>
   refine a8 ?_;refine⟨bQ,(),_,zM,?_,⟨rfl,rfl⟩⟩
   ·exact zE
 rintro _ δ _ _ ⟨rfl,rfl⟩;dsimp only[dq,List.foldl];refine bS ?_;obtain⟨s3,cQ⟩:∃t,dJ (cA (dE k) eU (bL vl e (f-1))) s2=t:=⟨_,rfl⟩;refine XA.join [(23,27)] (fun y:Ex×(Option Addr×Nat)=>[]) (fun y aj al=>σ.sub aj∧dL aj [i64 y.1.op,i64 y.1.v,i64 y.1.n,.slice y.2.1 y.1.l.length y.2.2] y.1∧mB (cA (dE k) eU (bL vl e (f-1))) s2 y.1∧al=[Rg L (.slice p L.length c0) e (.slice pv vl.length cv) b s3,aw g4 [i64 0,i64 0,i64 0,i64 0,i64 0,.slice none 0 0,i64 0,i64 0,i64 0,.slice none 0 0,.slice none 0 0,.slice none 0 0] 140,aw g5 [i64 k,i64 v1,i64 y.1.op,i64 y.1.v,i64 y.1.n,.slice y.2.1 y.1.l.length y.2.2,i64 0,i64 0,i64 0,.slice none 0 0,.slice none 0 0,.slice none 0 0] 140]) ?_ ?_
 ·skip;refine XA.cond rfl (fun hb=>?_) (fun hb=>?_)
  ·simp only[Bool.and_eq_true] at hb;obtain⟨hq,hg⟩:=hb;have hk:=uK (by simp[hq]);have nG:=hEx σ s2 (d+1) hL hF hv (YQ hk) ad;rw[hq,nq] at cQ;rw[cQ] at nG;rw[hq,nq];refine bY ?_;refine zw rfl (ax.cE (nG) rfl) ?_;rintro _ σn _ ⟨_,⟨cs,x,rfl,Cv,n7,um,rfl⟩,rfl⟩;refine az.cl ?_;obtain⟨y2,rfl,ju⟩:=EN Cv;refine bY ?_;refine⟨bQ,(x,y2),_,zM,?_,⟨um,ju,n7,rfl⟩⟩
   ·exact zE
  ·have hn:dJ (cA (dE k) eU (bL vl e (f-1))) s2=s2∧mB (cA (dE k) eU (bL vl e (f-1))) s2 eU:=by
    cases hq:dE k with
    |false=>exact uk
    |true=>rw[hq,Bool.true_and] at hb;exact N0 eU hb
   obtain⟨n1,n2⟩:=hn;rw[n1] at cQ;subst cQ;refine aU ?_;refine⟨bQ,(eU,(none,0)),_,zM,?_,⟨.refl _,jl _,n2,rfl⟩⟩
   ·exact zE
 rintro x δ YR _ ⟨VH,hxx,E7,rfl⟩;dsimp only[dq,List.foldl];refine bS ?_;obtain⟨d1,d2⟩:=qX (K:=fun x l4=>aT (cA (fS k) eU (bL vl e (f-1)) l4) fun y l5=>aT (cA (jw k) [] (dA (bH vl e (f-1)) e) l5) fun bd l6=>aT (cA (jj k) [] (dA (bH vl e (f-1)) e) l6) fun el l7=>cT e (St.mk k v1 x y bd el) l7) E7;rw[cQ] at d1 d2;have hLx:=hL.mono VH (fun _ _ h=>h);have vL:=hv.mono VH (fun _ _ h=>h);refine aU ?_;refine XA.join [(28,34)] (fun _:Unit=>[(34,.bool (fS k&&s3.Mb))]) (fun _ aj al=>YR=aj∧al=[Rg L (.slice p L.length c0) e (.slice pv vl.length cv) b s3,aw g4 [i64 0,i64 0,i64 0,i64 0,i64 0,.slice none 0 0,i64 0,i64 0,i64 0,.slice none 0 0,.slice none 0 0,.slice none 0 0] 140,aw g5 [i64 k,i64 v1,i64 x.1.op,i64 x.1.v,i64 x.1.n,.slice x.2.1 x.1.l.length x.2.2,i64 0,i64 0,i64 0,.slice none 0 0,.slice none 0 0,.slice none 0 0] 140]) ?_ ?_
 ·refine cx ?_;refine yC (yR YR k 102 _ YM) ?_
  cases hq:fS k with
  |true=>
   refine aU ?_;refine zG ?_;refine zw rfl (ax.cE (zW YR L e _ b s3 _) rfl) ?_;rintro _ _ _ ⟨_,⟨⟨rfl,rfl⟩,rfl⟩,rfl⟩;refine az.cl ?_;refine cx ?_;refine⟨bQ,(),_,zM,?_,⟨rfl,rfl⟩⟩
   ·exact zE
  |false=>
   refine a8 ?_;refine⟨bQ,(),_,zM,?_,⟨rfl,rfl⟩⟩
   ·exact zE
 rintro _ δ _ _ ⟨rfl,rfl⟩;dsimp only[dq,List.foldl];refine bS ?_;obtain⟨s4,jU⟩:∃t,dJ (cA (fS k) eU (bL vl e (f-1))) s3=t:=⟨_,rfl⟩;refine XA.join [(35,39)] (fun y:Ex×(Option Addr×Nat)=>[]) (fun y aj al=>YR.sub aj∧dL aj [i64 y.1.op,i64 y.1.v,i64 y.1.n,.slice y.2.1 y.1.l.length y.2.2] y.1∧mB (cA (fS k) eU (bL vl e (f-1))) s3 y.1∧al=[Rg L (.slice p L.length c0) e (.slice pv vl.length cv) b s4,aw g4 [i64 0,i64 0,i64 0,i64 0,i64 0,.slice none 0 0,i64 0,i64 0,i64 0,.slice none 0 0,.slice none 0 0,.slice none 0 0] 140,aw g5 [i64 k,i64 v1,i64 x.1.op,i64 x.1.v,i64 x.1.n,.slice x.2.1 x.1.l.length x.2.2,i64 y.1.op,i64 y.1.v,i64 y.1.n,.slice y.2.1 y.1.l.length y.2.2,.slice none 0 0,.slice none 0 0] 140]) ?_ ?_
 ·skip;refine XA.cond rfl (fun hb=>?_) (fun hb=>?_)
  ·simp only[Bool.and_eq_true] at hb;obtain⟨hq,hg⟩:=hb;have hk:=uK (by simp[hq]);have nG:=hEx YR s3 (d+1) hLx hF vL (YQ hk) ad;rw[hq,nq] at jU;rw[jU] at nG;rw[hq,nq];refine bY ?_;refine zw rfl (ax.cE (nG) rfl) ?_;rintro _ σn _ ⟨_,⟨cs,x,rfl,Cv,n7,um,rfl⟩,rfl⟩;refine az.cl ?_;obtain⟨y2,rfl,ju⟩:=EN Cv;refine bY ?_;refine⟨bQ,(x,y2),_,zM,?_,⟨um,ju,n7,rfl⟩⟩
   ·exact zE
  ·have hn:dJ (cA (fS k) eU (bL vl e (f-1))) s3=s3∧mB (cA (fS k) eU (bL vl e (f-1))) s3 eU:=by
    cases hq:fS k with
    |false=>exact uk
    |true=>rw[hq,Bool.true_and] at hb;exact N0 eU hb
   obtain⟨n1,n2⟩:=hn;rw[n1] at jU;subst jU;refine aU ?_;refine⟨bQ,(eU,(none,0)),_,zM,?_,⟨.refl _,jl _,n2,rfl⟩⟩
   ·exact zE
 rintro z δ σz _ ⟨gO,ZC,hzv,rfl⟩;dsimp only[dq,List.foldl];refine bS ?_;obtain⟨e1,e2⟩:=qX (K:=fun y l5=>aT (cA (jw k) [] (dA (bH vl e (f-1)) e) l5) fun bd l6=>aT (cA (jj k) [] (dA (bH vl e (f-1)) e) l6) fun el l7=>cT e (St.mk k v1 x.1 y bd el) l7) hzv;rw[jU] at e1 e2;have hLz:=hLx.mono gO (fun _ _ h=>h);have hvz:=vL.mono gO (fun _ _ h=>h);refine dc ?_;refine yC (yR σz k 98 _ YO) ?_;refine aU ?_;obtain⟨s5,CL⟩:∃t,dJ (cA (jw k) [] (dA (bH vl e (f-1)) e)) s4=t:=⟨_,rfl⟩;refine XA.join [(43,47)] (fun y:List St×(Option Addr×Nat)=>[]) (fun y aj al=>σz.sub aj∧bV 12 dF aj (.slice y.2.1 y.1.length y.2.2) y.1∧mB (cA (jw k) [] (dA (bH vl e (f-1)) e)) s4 y.1∧al=[Rg L (.slice p L.length c0) e (.slice pv vl.length cv) b s5,aw g4 [i64 0,i64 0,i64 0,i64 0,i64 0,.slice none 0 0,i64 0,i64 0,i64 0,.slice none 0 0,.slice none 0 0,.slice none 0 0] 140,aw g5 [i64 k,i64 v1,i64 x.1.op,i64 x.1.v,i64 x.1.n,.slice x.2.1 x.1.l.length x.2.2,i64 z.1.op,i64 z.1.v,i64 z.1.n,.slice z.2.1 z.1.l.length z.2.2,.slice y.2.1 y.1.length y.2.2,.slice none 0 0] 140]) ?_ ?_
 ·skip;refine XA.cond rfl (fun hq=>?_) (fun hq=>?_)
  ·have hk:=uK (by simp[hq]);have nG:=hLi hk σz s4 (d+1) hLz YJ hF hvz (YQ hk) ad;rw[hq,nq] at CL;rw[CL] at nG;rw[hq,nq];refine bY ?_;refine zw rfl (ax.cE (nG) rfl) ?_;rintro _ σn _ ⟨_,⟨pl,cl,x,rfl,uR,n7,um,rfl⟩,rfl⟩;refine az.cl ?_;refine bY ?_;refine⟨bQ,(x,(pl,cl)),_,zM,?_,⟨um,uR,n7,rfl⟩⟩
   ·exact zE
  ·obtain⟨n1,n2⟩:=uk (z:=([]:List St)) (a:=dA (bH vl e (f-1)) e) (s:=s4);rw[hq,n1] at CL;subst CL;rw[hq];refine aU ?_;refine⟨bQ,([],(none,0)),_,zM,?_,⟨.refl _,bV.nil _ _ _,n2,rfl⟩⟩
   ·exact zE
 rintro u δ σu _ ⟨Tb,hux,huv,rfl⟩;dsimp only[dq,List.foldl];refine bS ?_;obtain⟨g1,g2⟩:=qX (K:=fun bd l6=>aT (cA (jj k) [] (dA (bH vl e (f-1)) e) l6) fun el l7=>cT e (St.mk k v1 x.1 z.1 bd el) l7) huv;rw[CL] at g1 g2;have hLu:=hLz.mono Tb (fun _ _ h=>h);have hvu:=hvz.mono Tb (fun _ _ h=>h);refine dc ?_;refine yC (yR σu k 111 _ YP) ?_;refine aU ?_;obtain⟨s6,YS⟩:∃t,dJ (cA (jj k) [] (dA (bH vl e (f-1)) e)) s5=t:=⟨_,rfl⟩;refine XA.join [(51,55)] (fun y:List St×(Option Addr×Nat)=>[]) (fun y aj al=>σu.sub aj∧bV 12 dF aj (.slice y.2.1 y.1.length y.2.2) y.1∧mB (cA (jj k) [] (dA (bH vl e (f-1)) e)) s5 y.1∧al=[Rg L (.slice p L.length c0) e (.slice pv vl.length cv) b s6,aw g4 [i64 0,i64 0,i64 0,i64 0,i64 0,.slice none 0 0,i64 0,i64 0,i64 0,.slice none 0 0,.slice none 0 0,.slice none 0 0] 140,aw g5 [i64 k,i64 v1,i64 x.1.op,i64 x.1.v,i64 x.1.n,.slice x.2.1 x.1.l.length x.2.2,i64 z.1.op,i64 z.1.v,i64 z.1.n,.slice z.2.1 z.1.l.length z.2.2,.slice u.2.1 u.1.length u.2.2,.slice y.2.1 y.1.length y.2.2] 140]) ?_ ?_
 ·skip;refine XA.cond rfl (fun hq=>?_) (fun hq=>?_)
  ·have hk:=uK (by simp[hq]);have nG:=hLi hk σu s5 (d+1) hLu YJ hF hvu (YQ hk) ad;rw[hq,nq] at YS;rw[YS] at nG;rw[hq,nq];refine bY ?_;refine zw rfl (ax.cE (nG) rfl) ?_;rintro _ σn _ ⟨_,⟨pl,cl,x,rfl,uR,n7,um,rfl⟩,rfl⟩;refine az.cl ?_;refine bY ?_;refine⟨bQ,(x,(pl,cl)),_,zM,?_,⟨um,uR,n7,rfl⟩⟩
   ·exact zE
  ·obtain⟨n1,n2⟩:=uk (z:=([]:List St)) (a:=dA (bH vl e (f-1)) e) (s:=s5);rw[hq,n1] at YS;subst YS;rw[hq];refine aU ?_;refine⟨bQ,([],(none,0)),_,zM,?_,⟨.refl _,bV.nil _ _ _,n2,rfl⟩⟩
   ·exact zE
 rintro w δ σw _ ⟨VK,hwx,hwv,rfl⟩;dsimp only[dq,List.foldl];refine bS ?_;obtain⟨j1,j2⟩:=qX (K:=fun el l7=>cT e (St.mk k v1 x.1 z.1 u.1 el) l7) hwv;rw[YS] at j1 j2;have hLw:=hLu.mono VK (fun _ _ h=>h);obtain⟨q1,q2⟩:=N1 (e:=e) (x:=St.mk k v1 x.1 z.1 u.1 w.1) (s:=s6);(have jC:dJ (iw e eD) s6=dJ (bH vl e f) s:=by rw[←q1,←j1,←g1,←e1,←d1,←c1,←b1]);have n7:=b2 _ (c2 _ (d2 _ (e2 _ (g2 _ (j2 _ q2)))));refine cx ?_;refine zw rfl (ax.cE (sw σw L p c0 e _ b s6 eD hLw) rfl) ?_;rintro _ _ _ ⟨_,⟨⟨rfl,rfl⟩,rfl⟩,rfl⟩;refine az.cl ?_;rw[jC];refine bt ?_;have ads:σ.sub σw:=((VH.trans gO).trans Tb).trans VK;have hxx:=((hxx.mono gO).mono Tb).mono VK;have ZC:=(ZC.mono Tb).mono VK;have hux:=hux.mono VK (fun _ _ h=>h.mono VK);have gG:dF σw (i64 k::i64 v1::([i64 x.1.op,i64 x.1.v,i64 x.1.n,.slice x.2.1 x.1.l.length x.2.2]++[i64 z.1.op,i64 z.1.v,i64 z.1.n,.slice z.2.1 z.1.l.length z.2.2]++[.slice u.2.1 u.1.length u.2.2,.slice w.2.1 w.1.length w.2.2])) (.mk k v1 x.1 z.1 u.1 w.1):=dF.of ⟨ad,ad⟩ QJ hxx ZC hux hwx;exact ao.ret (aB.cell rfl rfl (Ld.bn (ae rfl) rfl zL rfl cK cJ)) zE ⟨_,_,rfl,gG,n7,ads,rfl⟩
theorem EO (L:List Tk) (p:Option Addr) (c0:Nat) (e:Int) (vl:List Va) (pv:Option Addr) (cv:Nat) (b:Nat):∀f,IW L p c0 e vl pv cv b f
 |0=>N4 L p c0 e vl pv cv b 0 (fun g h=>by omega)
 |f+1=>N4 L p c0 e vl pv cv b (f+1) (fun g h=>by cases h;exact EO L p c0 e vl pv cv b f)
end Go.Proofs.YtgeoiflbjcehcaaGreatDoor
namespace Go.Proofs.YtgeoiflbjcehcaaGreatDoor
open Go X
set_option maxRecDepth 4000
theorem GO {s:ByteArray} {x:Int×Int} (h:fy s=.error x):¬x.1=0:=by
 rw[fy] at h;split at h
 ·cases h;show ¬(3:Int)=0;decide
 ·cases hl:iY s (s.size+1) (bf dH s 0) [] with
  |ok l'=>rw[hl] at h;cases h
  |error i=>rw[hl] at h;cases h;show ¬(7:Int)=0;decide
theorem GQ {e:Int} {r:List Tk} (hF:∀t∈r,lH t):(dI (dY e) ByteArray.empty (.ok r)).size≤maxLen:=by
 cases hn:dY e r with
 |error y=>rw[dI,hn];exact cg _
 |ok z=>
  obtain⟨nm,r1⟩:=z;obtain⟨t1,rfl,-,rfl⟩:=kE hn;rw[dI,hn];exact(hF t1 aZ).1
def N5 (e:Int) (L:List Tk) (sc:iO) (acc:List Va):Prop:=(∃lc gc,sc=.ok lc∧lc.length<gc∧iZ e (L.length+1) L []=iZ e gc lc acc)∨(∃y,sc=.error y∧iZ e (L.length+1) L []=.error y)
theorem YT {e:Int} {L:List Tk}:N5 e L (.ok L) []:=.inl ⟨L,L.length+1,rfl,Nat.lt_succ_self _,rfl⟩
theorem N6 {e:Int} {L:List Tk} {t:Tk} {r:List Tk} {acc:List Va} (h:N5 e L (.ok (t::r)) acc) (hl:ku tp (t::r)=true):
 N5 e L (dJ (gM e) (dJ (dY e) (.ok r))) (acc++[⟨dI (dY e) ByteArray.empty (.ok r),rX (dI (gM e) 0 (dJ (dY e) (.ok r)))⟩])∧iO.len (dJ (gM e) (dJ (dY e) (.ok r)))<iO.len (.ok (t::r)):=by
 rcases h with ⟨lc,gc,h1,hg,h2⟩|⟨y,h1,-⟩
 ·cases h1;obtain⟨gc,rfl⟩:∃g,gc=g+1:=⟨gc-1,ad⟩;rw[iZ.eq_def e (gc+1)] at h2;simp only at h2;rw[aq hl,List.tail_cons] at h2;simp only[bF] at hg
  cases hn:dY e r with
  |error y=>
   rw[hn] at h2;rw[gK hn];exact⟨.inr ⟨y,rfl,h2⟩,by show 0<(t::r).length+1;omega⟩
  |ok z=>
   obtain⟨nm,r1⟩:=z;obtain⟨t1,rfl,-,-⟩:=kE hn;rw[hn] at h2;simp only[aT] at h2;(have hv:dI (dY e) ByteArray.empty (.ok (t1::r1))=nm:=by rw[dI,hn]);rw[mC hn,hv]
   cases hm:gM e r1 with
   |error y=>
    rw[hm] at h2;rw[gK hm];exact⟨.inr ⟨y,rfl,h2⟩,by show 0<(t::t1::r1).length+1;omega⟩
   |ok z=>
    obtain⟨n,r2⟩:=z;obtain⟨t2,rfl,-,-⟩:=oC hm;rw[hm] at h2;(have tq:dI (gM e) 0 (.ok (t2::r2))=n:=by rw[dI,hm]);rw[mC hm,tq];simp only[bF] at hg;exact⟨.inl ⟨r2,gc,rfl,ad,h2⟩,by show r2.length+1<(t::t1::t2::r2).length+1;simp only[bF];omega⟩
 ·cases h1
def N7 (S:List Tk→PR St) (s1 sc:iO) (acc:List St):Prop:=
 (∃l1,s1=.ok l1∧((∃lc gc,sc=.ok lc∧lc.length<gc∧ja S (l1.length+1) l1 []=ja S gc lc acc)∨(∃y,sc=.error y∧ja S (l1.length+1) l1 []=.error y)))∨(∃y,s1=.error y∧sc=.error y)
theorem YU {S:List Tk→PR St} {s1:iO}:N7 S s1 s1 []:=by
 cases s1 with
 |ok l=>exact .inl ⟨l,rfl,.inl ⟨l,l.length+1,rfl,Nat.lt_succ_self _,rfl⟩⟩
 |error y=>exact .inr ⟨y,rfl,rfl⟩
theorem N8 {S:List Tk→PR St} (hS:∀l x l',S l=.ok (x,l')→l'.length<l.length) {s1:iO} {lc:List Tk} {acc:List St} {x:St} (h:N7 S s1 (.ok lc) acc) (hr:lc.length≠0) (hx:mB S (.ok lc) x):N7 S s1 (dJ S (.ok lc)) (acc++[x]):=by
 rcases h with ⟨l1,rfl,⟨lc',gc,h1,hg,h2⟩|⟨y,h1,-⟩⟩|⟨y,-,h1⟩
 ·cases h1;refine .inl ⟨l1,rfl,?_⟩;obtain⟨gc,rfl⟩:∃g,gc=g+1:=⟨gc-1,ad⟩;rw[ja.eq_def S (gc+1)] at h2;simp only at h2;rw[ag hr] at h2
  cases hE:S lc with
  |error y=>rw[hE] at h2;exact .inr ⟨y,gK hE,h2⟩
  |ok z=>
   obtain⟨y,l'⟩:=z;rw[hE] at h2;rw[hx lc y l' rfl hE];have:=hS lc y l' hE;exact .inl ⟨l',gc,mC hE,ad,h2⟩
 ·cases h1
 ·cases h1
theorem N9 {e:Int} {L:List Tk} {s1 sc:iO} {vl:List Va} {b:List St} (h1:N5 e L s1 vl) (Df:∀lc,s1=.ok lc→ku tp lc=false) (h2:N7 (bH vl e 13) s1 sc b):
 (∀y,sc=.error y→jb e L=.error y)∧(sc=.ok []→∃r,jb e L=.ok (⟨vl,b⟩,r)):=by
 rcases h1 with ⟨lc,gc,rfl,hg,h3⟩|⟨y,rfl,h3⟩
 ·obtain⟨gc,rfl⟩:∃g,gc=g+1:=⟨gc-1,ad⟩;rw[iZ.eq_def e (gc+1)] at h3;simp only at h3;rw[ag (by rw[Df lc rfl];exact Bool.noConfusion)] at h3;(have hp:jb e L=aT (ja (bH vl e 13) (lc.length+1) lc []) fun b l2=>.ok (⟨vl,b⟩,l2):=by rw[jb,h3];rfl);rcases h2 with ⟨l1,h4,⟨lc',ZQ,rfl,VU,h5⟩|⟨y,rfl,h5⟩⟩|⟨y,h4,-⟩
  ·cases h4;refine⟨fun y h=>(by cases h),fun h=>?_⟩;cases h;obtain⟨ZQ,rfl⟩:∃g,ZQ=g+1:=⟨ZQ-1,ad⟩;rw[ja.eq_def _ (ZQ+1)] at h5;simp only at h5;rw[aq (show ([]:List Tk).length=0 from rfl)] at h5;exact⟨[],by rw[hp,h5];rfl⟩
  ·cases h4;refine⟨fun z h=>?_,fun h=>(by cases h)⟩;cases h;rw[hp,h5];rfl
  ·cases h4
 ·(have hp:jb e L=.error y:=by rw[jb,h3];rfl);rcases h2 with ⟨l1,h4,-⟩|⟨y',h4,rfl⟩
  ·cases h4
  ·cases h4;exact⟨fun z h=>(by cases h;exact hp),fun h=>(by cases h)⟩
theorem Oa (σ:PH) (s:ByteArray) (hs:s.size≤100000000) (hT:py σ) (hE:kT σ):ah Tryz.prog 47 #[.string s] σ [] (aA (As s σ)):=by
 have Dy:=Pv σ s hs hT hE
 cases hR:fy s with
 |error x=>
  obtain⟨x1,x2⟩:=x;have he:¬(x1=0):=GO hR;(have hp:br s=.error (x1,x2):=by rw[br,hR]);rw[hR] at Dy;replace Dy:ah Tryz.prog 75 #[.string s] σ [] (aA fun v aj al=>∃sl,v=.tuple #[sl,.agg #[i64 x1,i64 x2]]∧bV 4 je aj sl []∧σ.sub aj∧al=[]):=Dy;refine cM Tryz.func47 ?_;refine aU ?_;refine di (fun g2=>?_) (ae rfl);refine di (fun g3=>?_) (ae rfl);refine dc ?_;refine zw rfl (ax.cE (Dy) rfl) ?_;rintro _ cO _ ⟨_,⟨sl,rfl,hl,bz,rfl⟩,rfl⟩;refine az.cl ?_;refine cx ?_;refine di (fun g5=>?_) (ae rfl);refine bm ?_;refine XA.aY rfl (by first|rfl|exact aM he) ?_;refine bS ?_;refine et 4 75 [3] (ar.bB (R:=aw g5 _ _) zL (ar.nil _)) ?_;refine aU ?_;refine aP.fw rfl rfl Gd.free (ax.st (ae rfl) rfl) ?_;rintro _ _ _ ⟨rfl,rfl,rfl⟩;refine stays ?_;refine kS rfl (ax.st (ae rfl) rfl) ?_;refine bY ?_;exact ao.ret (X.aB.cc rfl rfl rfl (Ld.bn (ae rfl) rfl zL rfl cK cJ) (Ld.bn (ae rfl) rfl zL rfl cK cJ)) (ar.nil _) ⟨_,by rw[hp];rfl,by rw[hp];exact qH _,bz,rfl⟩
 |ok L=>
  obtain⟨h6,cR⟩:=pO hR;have hF:∀t∈L,lH t:=fun t ht=>⟨by have:=(cR t ht).size;simp only[maxLen];omega,(cR t ht).num⟩
  have YJ:L.length≤6000:=by
   have:=uQ hR;omega
  rw[hR] at Dy;replace Dy:ah Tryz.prog 75 #[.string s] σ [] (aA fun v aj al=>∃sl,v=.tuple #[sl,.agg #[i64 0,i64 0]]∧bV 4 je aj sl L∧σ.sub aj∧al=[]):=Dy;refine cM Tryz.func47 ?_;refine aU ?_;refine di (fun g2=>?_) (ae rfl);refine di (fun g3=>?_) (ae rfl);refine dc ?_;refine zw rfl (ax.cE (Dy) rfl) ?_;rintro _ cO _ ⟨_,⟨sl,rfl,hL,bz,rfl⟩,rfl⟩;refine az.cl ?_;obtain⟨p,c0,rfl,BB,tz⟩:=hL.shape;refine cx ?_;refine di (fun g5=>?_) (ae rfl);refine bm ?_;refine XA.aI rfl (by first|rfl|exact aE (fun h=>h rfl)) ?_;(refine bJ ?_;refine cP fun yH=>?_;refine dc ?_;refine XA.eX (ar.dU (e:=134) (size:=2) (ar.refl _)) ?_;refine XA.gen [(2,_),(3,_),(4,_),(6,_)] iX fun δ=>?_);dsimp only[List.foldl];refine XA.loop [(6,8),(26,57)] (fun x:(Nat×(Option Addr×Nat))×iO=>[(6,ptr yH)]) (fun x aj al=>cO.sub aj∧x.1.1+x.2.len≤L.length+1∧∃(acc:List Va) (rows:List (List Value)) (k:Nat) (c a:Int),N5 s.size L x.2 acc∧acc.length=x.1.1∧cN 2 sB aj rows acc∧(k≤L.length∧match x.2 with|.ok l=>c=0∧a=0∧L.drop k=l|.error y=>c=y.1∧a=y.2∧y.1≠0)∧al=[aS 134 2 (.slice x.1.2.1 x.1.1 x.1.2.2) x.1.1 rows.flatten,jT yH (.slice p L.length c0) s.size k c a (.slice x.1.2.1 x.1.1 x.1.2.2),aw g2 [.slice none 0 0,.slice none 0 0] 69,aw g3 [i64 0,i64 0] 34]) (fun x=>x.2.len) ((0,(none,0)),.ok L) eb (Δ0:=_) ?_ (⟨.refl _,by show 0+(L.length+1)≤_;omega,[],[],0,0,0,YT,rfl,cN.nil _ _ _,⟨cg _,rfl,rfl,rfl⟩,rfl⟩) ?_
  ·exact zE
  rintro⟨⟨i,pl,cl⟩,sc⟩ δ cL _ ⟨yU,U6,acc,rows,k,c,a,U7,dr,ep,KJ,rfl⟩;dsimp only[dq,List.foldl];have rW:bV 4 je cL (.slice p L.length c0) L:=hL.mono yU (fun _ _ h=>h);simp only at U6 U7 dr;have y8:=ah.pre (Rg.mk (b:=yH) (sl:=.slice p L.length c0) (e:=s.size) (vs:=.slice pl i cl) KJ) (EI cL L p c0 s.size (.slice pl i cl) yH sc tp rW)
  cases hq:zU tp sc with
  |true=>
   rw[hq] at y8
   obtain⟨t,r,rfl⟩:∃t r,sc=.ok (t::r):=by
    cases sc with
    |error y=>cases hq
    |ok l=>
     cases l with
     |nil=>cases hq
     |cons t r=>exact⟨t,r,rfl⟩
   obtain⟨v8,xy⟩:=N6 U7 hq;have j3:iO.len (.ok (t::r))=r.length+1+1:=rfl;refine bY ?_;refine zw rfl (ax.cE (y8) rfl) ?_;rintro _ _ _ ⟨_,⟨⟨rfl,rfl⟩,rfl⟩,rfl⟩;refine az.cl ?_;(first|refine XA.aW (R:=Rg _ _ _ _ _ _) zL (Rg.any) ?_|refine az.aW (R:=Rg _ _ _ _ _ _) zL (Rg.any) ?_|refine DA.aW (R:=Rg _ _ _ _ _ _) zL (Rg.any) ?_);rintro⟨k1,c1,a1⟩ ⟨uK,tz,CD,Cy⟩;refine gX ?_;simp only at uK tz CD Cy;subst tz;subst CD;obtain⟨-,adt,YV⟩:=iM Cy;(have hFr:∀t∈r,lH t:=fun t ht=>hF t (by have:t∈L.drop (k1+1):=(by rw[YV];exact ht);exact List.mem_of_mem_drop this));have QM:=GQ (e:=s.size) hFr;refine ra ?_;refine zw rfl (ax.cE (ah.pre (Rg.mk (b:=yH) (sl:=.slice p L.length c0) (e:=s.size) (vs:=.slice pl i cl) (k:=k1+1) (c:=0) (a:=0) (s:=.ok r) ⟨adt,rfl,rfl,YV⟩) (NN cL L p c0 s.size (.slice pl i cl) yH (.ok r) rW hF)) rfl) ?_;rintro _ _ _ ⟨_,⟨⟨rfl,rfl⟩,rfl⟩,rfl⟩;refine az.cl ?_;refine bS ?_;refine di (fun g7=>?_) (ae rfl);refine bg ?_;obtain⟨n,hn⟩:∃n,dI (gM s.size) 0 (dJ (dY s.size) (.ok r))=n:=⟨_,rfl⟩;obtain⟨nm,Bu⟩:∃nm,dI (dY s.size) ByteArray.empty (.ok r)=nm:=⟨_,rfl⟩;have S4:=EJ cL L p c0 s.size (.slice pl i cl) yH (dJ (dY s.size) (.ok r)) rW hF;rw[hn] at S4 v8;rw[Bu] at v8 QM⊢;refine zw rfl (ax.cE (S4) rfl) ?_;rintro _ _ _ ⟨_,⟨⟨rfl,adu,rfl⟩,rfl⟩,rfl⟩;refine az.cl ?_;(first|refine XA.aW (R:=Rg _ _ _ _ _ _) zL (Rg.any) ?_|refine az.aW (R:=Rg _ _ _ _ _ _) zL (Rg.any) ?_|refine DA.aW (R:=Rg _ _ _ _ _ _) zL (Rg.any) ?_);rintro⟨k2,c2,a2⟩ QN;refine gX ?_;simp only at QN;by_cases h1:1≤n
   ·by_cases y5:n≤48
    ·(have xL:rX n=n:=by rw[rX,ag ad]);rw[xL] at v8;refine dB ?_;refine XA.aY rfl (by first|rfl|exact aM y5) ?_;refine a8 ?_;refine et 11 124254 [7,10] (ar.bB (R:=aw yH _ _) zL (ar.bB (R:=aw g7 _ _) zL (ar.nil _))) ?_;refine a8 ?_;refine aP.fw rfl rfl Gd.free (ax.jY (ae rfl) rfl (ae rfl)) ?_;rintro _ _ _ ⟨Zr,rfl,rfl,rfl⟩;refine stays ?_;refine aP.b7 rfl rfl Gd.free aC (ax.kM (ae rfl) rfl (ae rfl) rfl rfl rfl) ?_;rintro _ _ _ ⟨Px,Py,rfl,rfl,rfl⟩;refine aU ?_;refine kS rfl (ax.st (ae rfl) rfl) ?_;refine cx ?_;have eR:cN 2 sB cL (rows++[[.string nm,i64 n]]) (acc++[⟨nm,n⟩]):=ep.snoc rfl ⟨rfl,adu,QM⟩;refine⟨bQ,((i+1,(Px,Py)),dJ (gM s.size) (dJ (dY s.size) (.ok r))),_,zM,?_,⟨yU,by show i+1+iO.len (dJ (gM s.size) (dJ (dY s.size) (.ok r)))≤L.length+1;omega,acc++[⟨nm,n⟩],rows++[[.string nm,i64 n]],k2,c2,a2,v8,(by rw[bq,dr];rfl),eR,QN,rfl⟩,xy⟩
     ·rw[k6];exact zE
    ·(have xL:rX n=0:=by rw[rX,aq (.inr ad)]);rw[xL] at v8;refine dB ?_;refine XA.aI rfl (by first|rfl|exact aE y5) ?_;refine aU ?_;refine et 11 124254 [7,10] (ar.bB (R:=aw yH _ _) zL (ar.bB (R:=aw g7 _ _) zL (ar.nil _))) ?_;refine a8 ?_;refine aP.fw rfl rfl Gd.free (ax.jY (ae rfl) rfl (ae rfl)) ?_;rintro _ _ _ ⟨Zr,rfl,rfl,rfl⟩;refine stays ?_;refine aP.b7 rfl rfl Gd.free aC (ax.kM (ae rfl) rfl (ae rfl) rfl rfl rfl) ?_;rintro _ _ _ ⟨Px,Py,rfl,rfl,rfl⟩;refine aU ?_;refine kS rfl (ax.st (ae rfl) rfl) ?_;refine cx ?_;have eR:cN 2 sB cL (rows++[[.string nm,i64 0]]) (acc++[⟨nm,0⟩]):=ep.snoc rfl ⟨rfl,(show aG 0 from ⟨au,au⟩),QM⟩;refine⟨bQ,((i+1,(Px,Py)),dJ (gM s.size) (dJ (dY s.size) (.ok r))),_,zM,?_,⟨yU,by show i+1+iO.len (dJ (gM s.size) (dJ (dY s.size) (.ok r)))≤L.length+1;omega,acc++[⟨nm,0⟩],rows++[[.string nm,i64 0]],k2,c2,a2,v8,(by rw[bq,dr];rfl),eR,QN,rfl⟩,xy⟩
     ·rw[k6];exact zE
   ·(have xL:rX n=0:=by rw[rX,aq (.inl ad)]);rw[xL] at v8;refine dB ?_;refine XA.aI rfl (by first|rfl|exact aE h1) ?_;refine aU ?_;refine et 11 124254 [7,10] (ar.bB (R:=aw yH _ _) zL (ar.bB (R:=aw g7 _ _) zL (ar.nil _))) ?_;refine a8 ?_;refine aP.fw rfl rfl Gd.free (ax.jY (ae rfl) rfl (ae rfl)) ?_;rintro _ _ _ ⟨Zr,rfl,rfl,rfl⟩;refine stays ?_;refine aP.b7 rfl rfl Gd.free aC (ax.kM (ae rfl) rfl (ae rfl) rfl rfl rfl) ?_;rintro _ _ _ ⟨Px,Py,rfl,rfl,rfl⟩;refine aU ?_;refine kS rfl (ax.st (ae rfl) rfl) ?_;refine cx ?_;have eR:cN 2 sB cL (rows++[[.string nm,i64 0]]) (acc++[⟨nm,0⟩]):=ep.snoc rfl ⟨rfl,(show aG 0 from ⟨au,au⟩),QM⟩;refine⟨bQ,((i+1,(Px,Py)),dJ (gM s.size) (dJ (dY s.size) (.ok r))),_,zM,?_,⟨yU,by show i+1+iO.len (dJ (gM s.size) (dJ (dY s.size) (.ok r)))≤L.length+1;omega,acc++[⟨nm,0⟩],rows++[[.string nm,i64 0]],k2,c2,a2,v8,(by rw[bq,dr];rfl),eR,QN,rfl⟩,xy⟩
    ·rw[k6];exact zE
  |false=>
   rw[hq] at y8;(have YW:∀lc,sc=.ok lc→ku tp lc=false:=fun lc h=>by subst h;exact hq);refine bY ?_;refine zw rfl (ax.cE (y8) rfl) ?_;rintro _ _ _ ⟨_,⟨⟨rfl,rfl⟩,rfl⟩,rfl⟩;refine az.cl ?_;(first|refine XA.aW (R:=Rg _ _ _ _ _ _) zL (Rg.any) ?_|refine az.aW (R:=Rg _ _ _ _ _ _) zL (Rg.any) ?_|refine DA.aW (R:=Rg _ _ _ _ _ _) zL (Rg.any) ?_);rintro⟨k1,c1,a1⟩ YX;refine gX ?_;simp only at YX;refine aR ?_;refine az.mX (R:=aS 134 2 _ _ _) zL cm aH ?_;rintro fZ ⟨⟩ sG cQ;subst dr;have hv3:bV 2 sB fZ (.slice pl acc.length cl) acc:=(ep.mono (aj:=fZ) (fun _ _ h=>h)).Cx rfl sG;have hL3:=rW.mono cQ (fun _ _ h=>h);have gP:=EO L p c0 s.size acc pl cl yH 13;refine di (fun g9=>?_) (ae rfl);refine eA ?_;refine XA.eX (ar.xd (R:=jT yH _ _ _ _ _ _) (S:=Rg L (.slice p L.length c0) s.size (.slice pl acc.length cl) yH sc) zL (fun m hm=>⟨k1,c1,a1,hm,YX⟩) (ar.refl _)) ?_;refine XA.eX (ar.dU (e:=140) (size:=12) (ar.refl _)) ?_;(refine XA.gen [(2,_),(3,_),(4,_),(6,_),(9,_)] iX fun δ=>?_);dsimp only[List.foldl];refine XA.loop [(6,6),(63,80)] (fun x:(Nat×(Option Addr×Nat))×iO=>[(6,ptr yH)]) (fun x aj al=>fZ.sub aj∧x.1.1+x.2.len≤sc.len∧∃(An:List St) (vB:List (List Value)),N7 (bH acc s.size 13) sc x.2 An∧An.length=x.1.1∧cN 12 dF aj vB An∧al=[aS 140 12 (.slice x.1.2.1 x.1.1 x.1.2.2) x.1.1 vB.flatten,aw g9 [.slice pl acc.length cl,.slice x.1.2.1 x.1.1 x.1.2.2] 69,Rg L (.slice p L.length c0) s.size (.slice pl acc.length cl) yH x.2,aw g2 [.slice none 0 0,.slice none 0 0] 69,aw g3 [i64 0,i64 0] 34]) (fun x=>x.2.len) ((0,(none,0)),sc) eb (Δ0:=_) ?_ (⟨.refl _,aZ,[],[],YU,rfl,cN.nil _ _ _,rfl⟩) ?_
   ·exact zE
   rintro⟨⟨j,pb,cb⟩,sd⟩ Dc qf _ ⟨A7,YY,An,vB,U8,FL,xM,rfl⟩;dsimp only[dq,List.foldl];have hL4:=hL3.mono A7 (fun _ _ h=>h);have hv4:=hv3.mono A7 (fun _ _ h=>h);simp only at YY U8 FL;have Tj:=N9 U7 YW U8
   cases sd with
   |error y=>
    (have hp:br s=.error y:=by rw[br,hR];simp only;rw[Tj.1 y rfl]);refine bY ?_;refine zw rfl (ax.cE (zW qf L s.size _ yH (.error y) _) rfl) ?_;rintro _ _ _ ⟨_,⟨⟨rfl,rfl⟩,rfl⟩,rfl⟩;refine az.cl ?_;(first|refine XA.aW (R:=Rg _ _ _ _ _ _) zL (Rg.U1) ?_|refine az.aW (R:=Rg _ _ _ _ _ _) zL (Rg.U1) ?_|refine DA.aW (R:=Rg _ _ _ _ _ _) zL (Rg.U1) ?_);rintro k3 ⟨CF,hy⟩;refine gX ?_;refine ra ?_;refine yC (yO qf s.size _ yH k3 _ y.1 y.2 hy) ?_;refine dc ?_;refine et 7 2025 [6] (ar.bB (R:=aw yH _ _) zL (ar.nil _)) ?_;refine dc ?_;refine aP.fw rfl rfl Gd.free (ax.st (ae rfl) rfl) ?_;rintro _ _ _ ⟨rfl,rfl,rfl⟩;refine stays ?_;refine kS rfl (ax.st (ae rfl) rfl) ?_;refine bY ?_;exact ao.ret (X.aB.cc rfl rfl rfl (Ld.bn (ae rfl) rfl zL rfl cK cJ) (Ld.bn (ae rfl) rfl zL rfl cK cJ)) (ar.nil _) ⟨_,by rw[hp];rfl,by rw[hp];exact qH _,bz.trans (yU.trans (cQ.trans A7)),rfl⟩
   |ok ld=>
    cases ld with
    |nil=>
     obtain⟨z,hz⟩:=Tj.2 rfl;subst FL;refine bY ?_;refine zw rfl (ax.cE (zW qf L s.size _ yH (.ok []) _) rfl) ?_;rintro _ _ _ ⟨_,⟨⟨rfl,rfl⟩,rfl⟩,rfl⟩;refine az.cl ?_;(first|refine XA.aW (R:=Rg _ _ _ _ _ _) zL (Rg.ll) ?_|refine az.aW (R:=Rg _ _ _ _ _ _) zL (Rg.ll) ?_|refine DA.aW (R:=Rg _ _ _ _ _ _) zL (Rg.ll) ?_);rintro k3 ⟨CF,ZR⟩;refine gX ?_;have adw:=n6 CF ZR;refine cp ?_;refine ik ?_;refine bt ?_;refine yC (mA qf s.size _ yH k3 _) ?_;refine az.mX (R:=aS 140 12 _ _ _) zL cm aH ?_;rintro Uz ⟨⟩ hf5 CL;have FO:gT Uz [.slice pl acc.length cl,.slice pb An.length cb] ⟨acc,An⟩:=⟨_,_,rfl,hv4.mono CL (fun _ _ h=>h),(xM.mono (fun _ _ h=>h.mono CL)).Cx rfl hf5⟩;refine aR ?_;refine yC (Pg Uz _ ⟨acc,An⟩ FO) ?_;refine bt ?_;by_cases hc:bZ ⟨acc,An⟩≠0
     ·(have hp:br s=.error (bZ ⟨acc,An⟩,-1):=by rw[br,hR];simp only;rw[hz];simp only;rw[aq hc]);refine XA.aY rfl (by first|rfl|exact aM hc) ?_;refine bY ?_;refine yC (wi Uz _ _) ?_;refine a8 ?_;exact ao.ret (X.aB.cc rfl rfl rfl (Ld.bn (ae rfl) rfl zL rfl cK cJ) (Ld.bn (ae rfl) rfl zL rfl cK cJ)) (ar.nil _) ⟨_,by rw[hp];rfl,by rw[hp];exact qH _,bz.trans (yU.trans (cQ.trans (A7.trans CL))),rfl⟩
     ·(have hp:br s=.ok ⟨acc,An⟩:=by rw[br,hR];simp only;rw[hz];simp only;rw[ag hc]);refine XA.aI rfl (by first|rfl|exact aE hc) ?_;refine cp ?_;exact ao.ret (X.aB.cc rfl rfl rfl (Ld.bn (ae rfl) rfl zL rfl cK cJ) (Ld.bn (ae rfl) rfl zL rfl cK cJ)) (ar.nil _) ⟨_,by rw[hp];rfl,by rw[hp];exact FO,bz.trans (yU.trans (cQ.trans (A7.trans CL))),rfl⟩
    |cons t r=>
     have xy:iO.len (dJ (bH acc s.size 13) (.ok (t::r)))<iO.len (.ok (t::r)):=by
      cases hE:bH acc s.size 13 (t::r) with
      |ok z=>obtain⟨x,l'⟩:=z;rw[mC hE];have:=(eI 13 _ x l' hE).2;show l'.length+1<(t::r).length+1;omega
      |error y=>rw[gK hE];show 0<(t::r).length+1;omega
     have j3:iO.len (.ok (t::r))=r.length+1+1:=rfl;refine bY ?_;refine zw rfl (ax.cE (zW qf L s.size _ yH (.ok (t::r)) _) rfl) ?_;rintro _ _ _ ⟨_,⟨⟨rfl,rfl⟩,rfl⟩,rfl⟩;refine az.cl ?_;(first|refine XA.aW (R:=Rg _ _ _ _ _ _) zL (Rg.ll) ?_|refine az.aW (R:=Rg _ _ _ _ _ _) zL (Rg.ll) ?_|refine DA.aW (R:=Rg _ _ _ _ _ _) zL (Rg.ll) ?_);rintro k3 ⟨CF,ZR⟩;refine gX ?_;obtain⟨-,adw,-⟩:=iM ZR;refine cp ?_;refine iQ ?_;refine cx ?_;refine et 8 5079 [5,7] (ar.bB (R:=aw g9 _ _) zL (ar.nil _)) ?_;refine cx ?_;refine aP.fw rfl rfl Gd.free (ax.cE (ah.pre (Rg.mk (b:=yH) (sl:=.slice p L.length c0) (e:=s.size) (vs:=.slice pl acc.length cl) (k:=k3) (c:=0) (a:=0) (s:=.ok (t::r)) ⟨CF,rfl,rfl,ZR⟩) (gP qf (.ok (t::r)) 0 hL4 ad hF hv4 au au)) rfl) ?_;rintro _ Uz _ ⟨_,⟨cs5,x,rfl,U9,n7,CL,rfl⟩,rfl⟩;refine stays (aP.cl ?_);have Ky:=U9.len;have ae8:=U9.dT;have YZ:=N8 (fun l x l' h=>(eI 13 l x l' h).2) U8 aZ n7;refine aP.fw rfl rfl Gd.free (ax.jY (ae rfl) rfl (ae rfl)) ?_;rintro _ _ _ ⟨g78,rfl,rfl,rfl⟩;refine stays ?_;refine aP.b7 rfl rfl Gd.free aC (ax.kM (ae rfl) rfl (ae rfl) rfl rfl rfl) ?_;rintro _ _ _ ⟨Xl,Xm,rfl,rfl,rfl⟩;refine bS ?_;refine kS rfl (ax.st (ae rfl) rfl) ?_;refine cx ?_;have eR:cN 12 dF Uz (vB++[cs5]) (An++[x]):=(xM.mono (fun _ _ h=>h.mono CL)).snoc Ky U9;refine⟨bQ,((j+1,(Xl,Xm)),dJ (bH acc s.size 13) (.ok (t::r))),_,zM,?_,⟨A7.trans CL,by show j+1+iO.len (dJ (bH acc s.size 13) (.ok (t::r)))≤sc.len;omega,An++[x],vB++[cs5],YZ,(by rw[bq,FL];rfl),eR,rfl⟩,xy⟩
     ·rw[k6];exact zE
end Go.Proofs.YtgeoiflbjcehcaaGreatDoor
