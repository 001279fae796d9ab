import Derived.Test.YtgeoiflbjcehcaaGreatDoorDj12
set_option maxHeartbeats 4000000
set_option maxRecDepth 2000
set_option linter.unusedVariables false
set_option linter.unusedSimpArgs false
namespace Go.Proofs.YtgeoiflbjcehcaaGreatDoor
open Go X
set_option maxRecDepth 4000
abbrev B9:ByteArray:=⟨#[108,101,116]⟩
def mS (e:Int) (l:List Tk):PR ByteArray:=match l with
 |t::r=>if eF t.text=true then .ok (t.text,r) else .error (bW e l 5)
 |[]=>.error (bW e l 5)
def xQ (n:Int):Int:=if n<1∨48<n then 0 else n
def il (e:Int):Nat→List Tk→List Va→PR (List Va)
 |0,_,_=>.error (0,0)
 |g+1,l,acc=>if lA B9 l=true then bf (mS e l.tail) fun s l1=>bf (kM e l1) fun n l2=>il e g l2 (acc++[⟨s,xQ n⟩]) else .ok (acc,l)
def iH (S:List Tk→PR St):Nat→List Tk→List St→PR (List St)
 |0,_,_=>.error (0,0)
 |g+1,l,acc=>if l.length=0 then .ok (acc,l) else match S l with
  |.error x=>.error x
  |.ok (s,l1)=>iH S g l1 (acc++[s])
def iI (e:Int) (l:List Tk):PR Pr:=bf (il e (l.length+1) l []) fun vl l1=>bf (iH (cQ vl e 13) (l1.length+1) l1 []) fun b l2=>.ok (⟨vl,b⟩,l2)
theorem pV {e:Int} {l:List Tk} {x:Int×Int} (h:mS e l=.error x):x=bW e l 5∧∀t r,l=t::r→eF t.text=false:=by
 cases l with
 |nil=>cases h;exact⟨rfl,fun t r q=>by cases q⟩
 |cons t r=>
  rw[mS] at h;split at h
  ·cases h
  ·rename_i hn;cases h;exact⟨rfl,fun t' r' q=>by cases q;simpa using hn⟩
theorem kc {e:Int} {l l':List Tk} {s:ByteArray} (h:mS e l=.ok (s,l')):∃t,l=t::l'∧eF t.text=true∧t.text=s:=by
 cases l with
 |nil=>cases h
 |cons t r=>
  rw[mS] at h;split at h
  ·rename_i hn;cases h;exact⟨t,rfl,hn,rfl⟩
  ·cases h
theorem sG {e:Int}:∀(g g':Nat) (l:List Tk) (acc:List Va),l.length<g→l.length<g'→il e g l acc=il e g' l acc
 |0,g',l,acc,h,h'=>by omega
 |g+1,0,l,acc,h,h'=>by omega
 |g+1,g'+1,l,acc,h,h'=>by
  rw[il,il];split
  ·rename_i hq;obtain⟨t,r,rfl⟩:=ca hq;rw[List.tail_cons]
   cases q:mS e r with
   |error x=>rfl
   |ok y=>
    obtain⟨s,l1⟩:=y;obtain⟨t1,rfl,-,-⟩:=kc q;simp only[bf]
    cases q2:kM e l1 with
    |error x=>rfl
    |ok y=>
     obtain⟨n,l2⟩:=y;obtain⟨t2,rfl,-,-⟩:=mr q2;simp only[List.length_cons] at h h';exact sG g g' l2 _ (by omega) (by omega)
  ·rfl
theorem sH {S:List Tk→PR St} (hS:∀l x l',S l=.ok (x,l')→l'.length<l.length):∀(g g':Nat) (l:List Tk) (acc:List St),l.length<g→l.length<g'→iH S g l acc=iH S g' l acc
 |0,g',l,acc,h,h'=>by omega
 |g+1,0,l,acc,h,h'=>by omega
 |g+1,g'+1,l,acc,h,h'=>by
  rw[iH,iH];split
  ·rfl
  ·cases q:S l with
   |error x=>rfl
   |ok y=>
    obtain⟨x,l1⟩:=y;have:=hS l x l1 q;exact sH hS g g' l1 _ (by omega) (by omega)
theorem DF (σ:PH) (b:Nat) (p:Option Addr) (c:Nat) (e:Int) (l:List Tk) (hl:bO 4 iC σ (.slice p l.length c) l) (hF:∀t∈l,kN t) (hL:l.length≤10000):
 ae Tryz.prog 145 #[ptr b] σ [au b [.slice p l.length c,i64 e,.slice none 0 0] 213] (KP
  (fun v ag ah=>∃pr l',iI e l=.ok (pr,l')∧∃cs,v=.agg (List.toArray cs)∧fY ag cs pr∧σ.sub ag∧∃cb,ah=[au b cb 213])
  (fun ch ag ah=>∃x,iI e l=.error x∧ch=gI x∧σ.sub ag∧∃cs,ah=[au b cs 213])):=by
 obtain⟨R,hR⟩:∃R,iI e l=R:=⟨_,rfl⟩;have fV:=hR;rw[iI] at hR;obtain⟨S,hS⟩:∃S,il e (l.length+1) l []=S:=⟨_,rfl⟩;rw[hS] at hR;refine dF Tryz.func145 ?_;refine aN ?_;refine cR (fun g2=>?_) (ad rfl);(refine bM ?_;refine XA.gen [(0,_),(2,_)] jN fun δ=>?_);dsimp only[List.foldl];refine XA.loop [(0,0),(3,4),(6,30)] (fun q:(Nat×Nat)×(Option Addr×Nat)=>[(0,ptr b)]) (fun q ag ah=>σ=ag∧∃(lc:List Tk) (acc:List Va) (pp:Option Addr) (pc:Nat) (rows:List (List Value)),S=il e (lc.length+1) lc acc∧(∀t∈lc,kN t)∧lc.length=q.1.2∧acc.length=q.1.1∧q.1.1+q.1.2≤10000∧bO 4 iC ag (.slice pp lc.length pc) lc∧cA 2 tU ag rows acc∧ah=[bn 134 2 (.slice q.2.1 q.1.1 q.2.2) q.1.1 rows.flatten,au b [.slice pp lc.length pc,i64 e,.slice q.2.1 q.1.1 q.2.2] 213,au g2 Fg.zero 69]) (fun q=>q.1.2) ((0,l.length),(none,0)) (by exact⟨rfl,trivial⟩) (Δ0:=_) ?_ (⟨rfl,l,[],p,c,[],hS.symm,hF,rfl,rfl,by simpa using hL,hl,cA.nil _ _ _,rfl⟩) ?_
 ·exact zE
 rintro⟨⟨i,n⟩,⟨pl,cl⟩⟩ δ _ _ ⟨rfl,lc,acc,pp,pc,rows,xR,tL,hn,eR,kI,mR,eK,rfl⟩;dsimp only[eb,List.foldl];simp only at hn eR kI;subst hn;rw[il] at xR
 cases hq:lA B9 lc with
 |true=>
  obtain⟨t1,l1,rfl⟩:=ca hq;rw[if_pos hq,List.tail_cons] at xR;(have Ax:∀t∈l1,kN t:=fun t ht=>tL t (by simp[ht]));refine bM ?_;refine zw rfl (aC.cE (vE σ b pp pc e _ t1 l1 B9 mR hq) rfl) ?_;rintro _ _ _ ⟨_,⟨rfl,p1,c1,zl,rfl,rfl⟩,rfl⟩;refine az.cl ?_;refine aN ?_;refine bt ?_
  cases ES:mS e l1 with
  |error x=>
   rw[ES] at xR;simp only[bf] at xR;rw[xR] at hR;simp only[bf] at hR;obtain⟨rfl,hx⟩:=pV ES;refine az.die rfl (xM σ b p1 c1 e _ l1 zl (fun t ht=>(Ax t ht).1) hx) rfl ?_;rintro _ _ _ ⟨rfl,rfl,rfl⟩;refine DA.cl ?_;(repeat (first|refine DA.ax ?_|refine DA.ay ?_));exact ao.panic zE ⟨_,fV.trans hR.symm,rfl,.refl _,_,rfl⟩
  |ok y=>
   obtain⟨s,l2⟩:=y;rw[ES] at xR;simp only[bf] at xR;obtain⟨t2,rfl,h2,rfl⟩:=kc ES;(have jQ:∀t∈l2,kN t:=fun t ht=>Ax t (by simp[ht]));refine zw rfl (aC.cE (vG σ b p1 c1 e _ t2 l2 zl (Ax t2 (by simp)).1 h2) rfl) ?_;rintro _ _ _ ⟨_,⟨rfl,p2,c2,jy,rfl,rfl⟩,rfl⟩;refine az.cl ?_;refine b3 ?_;refine cR (fun g3=>?_) (ad rfl);refine aO ?_
   cases Wy:kM e l2 with
   |error x=>
    rw[Wy] at xR;simp only at xR;rw[xR] at hR;simp only[bf] at hR;obtain⟨rfl,hx⟩:=oB Wy;refine az.die rfl (B5 σ b p2 c2 e _ l2 jy hx) rfl ?_;rintro _ _ _ ⟨rfl,rfl,rfl⟩;refine DA.cl ?_;(repeat (first|refine DA.ax ?_|refine DA.ay ?_));exact ao.panic zE ⟨_,fV.trans hR.symm,rfl,.refl _,_,rfl⟩
   |ok y=>
    obtain⟨n3,l3⟩:=y;rw[Wy] at xR;simp only at xR;obtain⟨t3,rfl,h3,rfl⟩:=mr Wy;(have FO:∀t∈l3,kN t:=fun t ht=>jQ t (by simp[ht]));have hN3:=(jQ t3 (by simp)).2;have pE:=(Ax t2 (by simp)).1;simp only[List.length_cons] at kI
    have SJ:S=il e (l3.length+1) l3 (acc++[⟨t2.text,xQ t3.n⟩]):=by
     rw[xR];exact sG _ _ _ _ (by simp only[List.length_cons];omega) (by omega)
    by_cases h1:t3.n<1
    ·skip;(have FT:xQ t3.n=0:=by rw[xQ];rw[if_pos (.inl h1)]);rw[FT] at SJ;refine zw rfl (aC.cE (vF σ b p2 c2 e _ t3 l3 jy h3) rfl) ?_;rintro _ _ _ ⟨_,⟨rfl,p3,c3,DB,rfl,rfl⟩,rfl⟩;refine az.cl ?_;refine dJ ?_;refine XA.bG rfl (by first|rfl|exact decide_eq_true h1) ?_;refine cg ?_;refine fZ 11 124254 [7,10] (aw.bP (R:=au b _ _) zL (aw.bP (R:=au g3 _ _) zL (aw.nil _))) ?_;refine aO ?_;refine aK.fL rfl rfl Gd.free (aC.qO (ad rfl) rfl (ad rfl)) ?_;rintro _ _ _ ⟨g27,rfl,rfl,rfl⟩;refine stays ?_;refine aK.bj rfl rfl Gd.free (by kernel_rfl) (aC.tS (ad rfl) rfl (ad rfl) rfl rfl rfl) ?_;rintro _ _ _ ⟨US,c28,rfl,rfl,rfl⟩;refine aN ?_;refine aK.bj rfl rfl Gd.free (by kernel_rfl) (aC.st (ad rfl) rfl) ?_;rintro _ _ _ ⟨rfl,rfl,rfl⟩;refine bq ?_;have fI:cA 2 tU σ (rows++[[.string t2.text,i64 0]]) (acc++[⟨t2.text,0⟩]):=eK.snoc rfl ⟨rfl,(show aF 0 from ⟨by decide,by decide⟩),pE⟩;refine⟨cF,((i+1,l3.length),(US,c28)),_,zM,?_,⟨rfl,l3,acc++[⟨t2.text,0⟩],p3,c3,rows++[[.string t2.text,i64 0]],SJ,FO,rfl,(by rw[List.length_append,eR];rfl),(by show i+1+l3.length≤10000;omega),DB,fI,rfl⟩,(by show l3.length<(t1::t2::t3::l3).length;simp only[List.length_cons];omega)⟩
     ·rw[mP];exact zE
    by_cases zn:t3.n>48
    ·skip;(have FT:xQ t3.n=0:=by rw[xQ];rw[if_pos (.inr zn)]);rw[FT] at SJ;refine zw rfl (aC.cE (vF σ b p2 c2 e _ t3 l3 jy h3) rfl) ?_;rintro _ _ _ ⟨_,⟨rfl,p3,c3,DB,rfl,rfl⟩,rfl⟩;refine az.cl ?_;refine dJ ?_;refine XA.bG rfl (by first|rfl|exact decide_eq_true zn) ?_;refine cg ?_;refine fZ 11 124254 [7,10] (aw.bP (R:=au b _ _) zL (aw.bP (R:=au g3 _ _) zL (aw.nil _))) ?_;refine aO ?_;refine aK.fL rfl rfl Gd.free (aC.qO (ad rfl) rfl (ad rfl)) ?_;rintro _ _ _ ⟨g27,rfl,rfl,rfl⟩;refine stays ?_;refine aK.bj rfl rfl Gd.free (by kernel_rfl) (aC.tS (ad rfl) rfl (ad rfl) rfl rfl rfl) ?_;rintro _ _ _ ⟨US,c28,rfl,rfl,rfl⟩;refine aN ?_;refine aK.bj rfl rfl Gd.free (by kernel_rfl) (aC.st (ad rfl) rfl) ?_;rintro _ _ _ ⟨rfl,rfl,rfl⟩;refine bq ?_;have fI:cA 2 tU σ (rows++[[.string t2.text,i64 0]]) (acc++[⟨t2.text,0⟩]):=eK.snoc rfl ⟨rfl,(show aF 0 from ⟨by decide,by decide⟩),pE⟩;refine⟨cF,((i+1,l3.length),(US,c28)),_,zM,?_,⟨rfl,l3,acc++[⟨t2.text,0⟩],p3,c3,rows++[[.string t2.text,i64 0]],SJ,FO,rfl,(by rw[List.length_append,eR];rfl),(by show i+1+l3.length≤10000;omega),DB,fI,rfl⟩,(by show l3.length<(t1::t2::t3::l3).length;simp only[List.length_cons];omega)⟩
     ·rw[mP];exact zE
    (have FT:xQ t3.n=t3.n:=by rw[xQ];rw[if_neg (by omega)]);rw[FT] at SJ;refine zw rfl (aC.cE (vF σ b p2 c2 e _ t3 l3 jy h3) rfl) ?_;rintro _ _ _ ⟨_,⟨rfl,p3,c3,DB,rfl,rfl⟩,rfl⟩;refine az.cl ?_;refine dJ ?_;refine XA.aR rfl (by first|rfl|exact decide_eq_false zn) ?_;refine a8 ?_;refine fZ 11 124254 [7,10] (aw.bP (R:=au b _ _) zL (aw.bP (R:=au g3 _ _) zL (aw.nil _))) ?_;refine aO ?_;refine aK.fL rfl rfl Gd.free (aC.qO (ad rfl) rfl (ad rfl)) ?_;rintro _ _ _ ⟨g27,rfl,rfl,rfl⟩;refine stays ?_;refine aK.bj rfl rfl Gd.free (by kernel_rfl) (aC.tS (ad rfl) rfl (ad rfl) rfl rfl rfl) ?_;rintro _ _ _ ⟨US,c28,rfl,rfl,rfl⟩;refine aN ?_;refine aK.bj rfl rfl Gd.free (by kernel_rfl) (aC.st (ad rfl) rfl) ?_;rintro _ _ _ ⟨rfl,rfl,rfl⟩;refine bq ?_;have fI:cA 2 tU σ (rows++[[.string t2.text,i64 t3.n]]) (acc++[⟨t2.text,t3.n⟩]):=eK.snoc rfl ⟨rfl,hN3,pE⟩;refine⟨cF,((i+1,l3.length),(US,c28)),_,zM,?_,⟨rfl,l3,acc++[⟨t2.text,t3.n⟩],p3,c3,rows++[[.string t2.text,i64 t3.n]],SJ,FO,rfl,(by rw[List.length_append,eR];rfl),(by show i+1+l3.length≤10000;omega),DB,fI,rfl⟩,(by show l3.length<(t1::t2::t3::l3).length;simp only[List.length_cons];omega)⟩
    ·rw[mP];exact zE
 |false=>
  rw[if_neg (by rw[hq];exact Bool.noConfusion)] at xR;rw[xR] at hR;simp only[bf] at hR;subst eR;refine bM ?_;refine yC (xK σ b pp pc e _ lc B9 mR hq) ?_;refine aN ?_;refine bC ?_;refine cR (fun g5=>?_) (ad rfl);refine b9 ?_;refine az.qM (R:=bn 134 2 _ _ _) zL dp aU ?_;rintro dQ ⟨⟩ hf bQ;have nU:bO 2 tU dQ (.slice pl acc.length cl) acc:=(eK.mono (ag:=dQ) (fun _ _ h=>h)).H4 rfl hf;obtain⟨U,hU⟩:∃U,iH (cQ acc e 13) (lc.length+1) lc []=U:=⟨_,rfl⟩;rw[hU] at hR;(refine a8 ?_;refine XA.gen [(0,_),(2,_),(5,_)] jN fun δ=>?_);dsimp only[List.foldl];refine XA.loop [(0,0),(36,48)] (fun i:Nat×Nat=>[(0,ptr b)]) (fun i ag ah=>dQ.sub ag∧∃(ld:List Tk) (QO:List St) (pp:Option Addr) (pc:Nat) (pb:Option Addr) (cb:Nat) (rows:List (List Value)),U=iH (cQ acc e 13) (ld.length+1) ld QO∧(∀t∈ld,kN t)∧ld.length=i.2∧QO.length=i.1∧i.1+i.2≤10000∧bO 4 iC ag (.slice pp ld.length pc) ld∧cA 12 cT ag rows QO∧ah=[bn 140 12 (.slice pb i.1 cb) i.1 rows.flatten,au g5 [.slice pl acc.length cl,.slice pb i.1 cb] 69,au b [.slice pp ld.length pc,i64 e,.slice pl acc.length cl] 213,au g2 Fg.zero 69]) (fun i=>i.2) (0,lc.length) (by exact⟨rfl,trivial⟩) (Δ0:=_) ?_ (⟨.refl _,lc,[],pp,pc,none,0,[],hU.symm,tL,rfl,rfl,by show 0+lc.length≤10000;omega,mR.mono bQ (fun _ _ h=>h),cA.nil _ _ _,rfl⟩) ?_
  ·exact zE
  rintro⟨i,n⟩ N2 dq _ ⟨bT,ld,QO,pd,cd,pb,cb,Oe,H8,X9,hn,QP,hid,rQ,FU,rfl⟩;dsimp only[eb,List.foldl];simp only at hn QP hid;subst hn;have rE:=nU.mono bT (fun _ _ h=>h);rw[iH] at H8;by_cases h0:ld.length=0
  ·rw[if_pos h0] at H8;rw[H8] at hR;simp only[bf] at hR;subst QP;refine cg ?_;refine lz ?_;refine bH ?_;refine DA.qM (R:=bn 140 12 _ _ _) zL dp aU ?_;rintro lB ⟨⟩ QQ fc;exact ao.ret (aG.cell rfl rfl (Ld.bN (ad rfl) rfl zL rfl (by first|exact bJ (by first|rfl|assumption|(refine(aj _).trans ?_;assumption)|(simp[*];(first|done|fail)))|assumption|exact aI (by first|rfl|assumption|(refine(aj _).trans ?_;assumption)|(simp[*];(first|done|fail)))|(conv=>lhs;simp only[List.drop_succ_cons,List.drop_zero,List.take_succ_cons,List.take_zero])) (by first|rfl|assumption|(refine(aj _).trans ?_;assumption)|(simp[*];(first|done|fail))))) zE ⟨_,_,fV.trans hR.symm,_,rfl,⟨_,_,rfl,rE.mono fc (fun _ _ h=>h),(FU.mono (fun _ _ h=>h.mono fc)).H4 rfl QQ⟩,bQ.trans (bT.trans fc),_,rfl⟩
  ·rw[if_neg h0] at H8
   cases hx:cQ acc e 13 ld with
   |error x=>
    rw[hx] at H8;simp only at H8;rw[H8] at hR;simp only[bf] at hR;refine cg ?_;refine mQ ?_;refine bq ?_;refine fZ 8 5079 [5,7] (aw.bP (R:=au g5 _ _) zL (aw.nil _)) ?_;refine bq ?_;refine aK.die rfl rfl Gd.free ((Ay acc e 13).bad rE rQ X9 (by decide) (by decide) (by omega) hx) rfl ?_;rintro _ lB _ ⟨rfl,fc,Ya,rfl⟩;refine DA.cl ?_;(repeat (first|refine DA.ax ?_|refine DA.ay ?_));exact ao.panic zE ⟨_,fV.trans hR.symm,rfl,bQ.trans (bT.trans fc),_,rfl⟩
   |ok y=>
    obtain⟨x,l'⟩:=y;rw[hx] at H8;simp only at H8;have ml:=dR 13 _ _ _ hx;have aT:=ml.2
    have hUn:U=iH (cQ acc e 13) (l'.length+1) l' (QO++[x]):=by
     rw[H8];exact sH (fun l x l' h=>(dR 13 l x l' h).2) _ _ _ _ aT (by omega)
    refine cg ?_;refine mQ ?_;refine bq ?_;refine fZ 8 5079 [5,7] (aw.bP (R:=au g5 _ _) zL (aw.nil _)) ?_;refine bq ?_;refine aK.fL rfl rfl Gd.free (aC.cE ((Ay acc e 13).ok rE rQ X9 (by decide) (by decide) (by omega) hx) rfl) ?_;rintro _ lB _ ⟨_,⟨Ya,p',c',rfl,QR,pJ,fc,rfl⟩,rfl⟩;refine stays (aK.cl ?_);have sC:=QR.len;have sD:=QR.dn;refine aK.fL rfl rfl Gd.free (aC.qO (ad rfl) rfl (ad rfl)) ?_;rintro _ _ _ ⟨g46,rfl,rfl,rfl⟩;refine stays ?_;refine aK.bj rfl rfl Gd.free (by kernel_rfl) (aC.tS (ad rfl) rfl (ad rfl) rfl rfl rfl) ?_;rintro _ _ _ ⟨p47,c47,rfl,rfl,rfl⟩;refine b3 ?_;refine aK.bj rfl rfl Gd.free (by kernel_rfl) (aC.st (ad rfl) rfl) ?_;rintro _ _ _ ⟨rfl,rfl,rfl⟩;refine bq ?_;have fI:cA 12 cT lB (Oe++[Ya]) (QO++[x]):=(FU.mono (fun _ _ h=>h.mono fc)).snoc sC QR;refine⟨cF,(i+1,l'.length),_,zM,?_,⟨bT.trans fc,l',QO++[x],p',c',p47,c47,Oe++[Ya],hUn,(fun t ht=>X9 t (ml.1.1 t ht)),rfl,(by rw[List.length_append,QP];rfl),(by show i+1+l'.length≤10000;omega),pJ,fI,rfl⟩,(by show l'.length<ld.length;omega)⟩
    ·rw[mP];exact zE
end Go.Proofs.YtgeoiflbjcehcaaGreatDoor
namespace Go.Proofs.YtgeoiflbjcehcaaGreatDoor
open Go X
section
variable {ρ:Env} {S:Heap→Prop} {ty:TypeId}
end
def put (i:Nat) (t:Tk):Tk:=⟨i,t.text,t.num,t.n⟩
def UT (t:Tk):ByteArray×Bool×Int:=(t.text,t.num,t.n)
def Wz (l l':List Tk):Prop:=l.map UT=l'.map UT
theorem Wz.length {l l':List Tk} (h:Wz l l'):l.length=l'.length:=by simpa using congrArg List.length h
def Of {α:Type} (a b:PR α):Prop:=∀x r,a=.ok (x,r)→∃r',b=.ok (x,r')∧Wz r r'
theorem Of.ok {α:Type} {x:α} {r r':List Tk} (h:Wz r r'):Of (.ok (x,r)) (.ok (x,r')):=fun _ _ q=>by cases q;exact⟨r',rfl,h⟩
section
variable {vl:List Va} {e e':Int}
end
section
variable {P:Program} {N:Nat} {fn:Func} {σ:PH} {Γ:List HP}
theorem X.bU.uE {f:FuncId} {rest:Code} {id:Nat} {d1 d2:Nat} {t1 t2:TypeId} {s1 s2:String} {a1 a2:Array Edge} {jx:Array TypeId} {x0 x1:Value} {u:FrameMode} {R:FrameMode→PH→List HP→Prop}
 (hf:P.funcs[f]? =some fn) (hb:fn.body=some (.seq (.region id #[⟨some d1,.call {callee:=.builtin .recover,args:=#[],argTypes:=jx},t1,s1,a1,none⟩,⟨some d2,.assign (.tmp d1),t2,s2,a2,none⟩] false) rest)) (hN:Nat.ble 2 fn.ntmps=true)
 (Dt:Nat.blt d1 fn.ntmps=true) (SG:Nat.blt d2 fn.ntmps=true) (hx:XA P fn.ntmps rest (cp (cp (cp (cp U 0 x0) 1 x1) d1 (recv u).1) d2 (recv u).1) σ Γ (ao P fn (aE fun _ ag ah=>R (recv u).2 ag ah))):
 bU P f #[x0,x1] u σ Γ R:=fun fr h hh w hw=>by
 refine(lK (vs:=#[x0,x1]) (ρ0:=cp (cp U 0 x0) 1 x1) hf hb hN (fun s=>match s with
  |0=>rfl
  |1=>rfl
  |s+2=>by rw[show (#[x0,x1]:Array Value).getD (s+2) undef=undef from by simp,dx _ _ _ _ (by omega),dx _ _ _ _ (by omega)]) Dt SG (XA.Ql hx hh) w hw).mono ?_
 rintro e u' w' ⟨rfl,a,ag,ah,b,c⟩
 cases e with
 |returned v=>exact⟨a,⟨v,rfl⟩,ag,ah,b,c⟩
 |_=>exact b.elim
def Ca (K:KA):KA
 |.ret,ρ,σ,Γ=>K .ret ρ σ Γ
 |_,_,_,_=>False
theorem X.nS.of {c:Code} {ρ:Env} {next:Env→PH→List HP→Prop} {K:KA} (hx:XA P N c ρ σ Γ (mJ next (Ca K))):nS P N c ρ σ Γ (mJ next K):=by
 refine⟨fun f h hh=>⟨fun w0 a w hs hw he=>wp_mono ((hx.out f h hh).out w0 a w hs hw he) ?_⟩⟩;rintro e a' w' ⟨h1,h2,cI,h3,ag,ah,hk,je⟩
 cases e with
 |normal=>exact⟨h1,h2,cI,h3,ag,ah,hk,je⟩
 |ret=>exact⟨h1,h2,cI,h3,ag,ah,hk,je⟩
 |_=>exact hk.elim
theorem X.nS.UU {c:Code} {ρ:Env} {K:KA} (hx:XA P N c ρ σ Γ (Ca K)):nS P N c ρ σ Γ K:=by
 refine⟨fun f h hh=>⟨fun w0 a w hs hw he=>wp_mono ((hx.out f h hh).out w0 a w hs hw he) ?_⟩⟩;rintro e a' w' ⟨h1,h2,cI,h3,ag,ah,hk,je⟩
 cases e with
 |ret=>exact⟨h1,h2,cI,h3,ag,ah,hk,je⟩
 |_=>exact hk.elim
end
theorem X.Rd.FV {P:Program} {ρ:Env} {S:Heap→Prop} {ty T I:TypeId} {x:Operand} {v:Value} {r:Ty} {fs:List (TypeId×Nat)} (hT:av P T=some r) (hk:r.k=.struct fs) (hx:ev ρ x=.iface T v):Rd P ρ S (.typeAssert x I T true) ty (.tuple #[v,.bool true]):=by
 (refine .pure fun d pos af g w=>?_);obtain⟨dd,i,z,e1,e2,-⟩:=aD hT;rw[hk] at e2;(cases dd<;>simp[kindOf] at e2);simp[execOp,Instr.typeAssert,run_underlying e1,hx]
theorem Cb:∃ms,Tryz.prog.underlying 20=some (.interface ms):=⟨#[],by kernel_rfl⟩
theorem xS (σ:PH) (ga gb:Nat):bU Tryz.prog 144 #[ptr ga,ptr gb] .returning σ [] (fun u' ag ah=>settle u'=.returning∧σ=ag∧ah=[]):=by
 refine bU.uE Tryz.func144 rfl rfl rfl rfl ?_;dsimp only[recv];refine bq ?_;refine zO rfl (Rd.sw Cb.choose_spec rfl) ?_;refine aN ?_;refine aN ?_;exact fU rfl ⟨rfl,rfl,rfl⟩
theorem FW (σ:PH) (ga gb:Nat) (x:Int×Int) (r0 r1:List Value) (xT:r0.length=2) (zi:r1.length=2):bU Tryz.prog 144 #[ptr ga,ptr gb] (.panicking (gI x)) σ [au ga r0 69,au gb r1 34]
 (fun u' ag ah=>settle u'=.returning∧σ=ag∧ah=[au ga [.slice none 0 0,.slice none 0 0] 69,au gb [i64 x.1,i64 x.2] 34]):=by
 refine bU.uE Tryz.func144 rfl rfl rfl rfl ?_;dsimp only[recv,gI];have fR:aJ r0 0 [.slice none 0 0,.slice none 0 0]=[.slice none 0 0,.slice none 0 0]:=eZ xT;have n6:aJ r1 0 [i64 x.1,i64 x.2]=[i64 x.1,i64 x.2]:=eZ zi;(have ey:0+Fg.size≤r0.length:=by rw[xT];exact Nat.le_refl _);(have lH:∀_:Unit,0+O9.size≤r1.length:=fun _=>by rw[zi];exact Nat.le_refl _);refine bq ?_;refine zO rfl (Rd.sv Cb.choose_spec rfl) ?_;refine aN ?_;refine bM ?_;refine zO rfl (X.Rd.FV (ad rfl) rfl rfl) ?_;refine bq ?_;refine cR (fun g3=>?_) (ad rfl);refine cg ?_;refine bq ?_;refine fZ 4 75 [3] (aw.bP (R:=au g3 _ _) zL (aw.nil _)) ?_;refine aN ?_;refine aK.fL rfl rfl Gd.free (aC.st (ad rfl) rfl) ?_;rintro _ _ _ ⟨rfl,rfl,rfl⟩;refine stays ?_;refine aK.bj rfl rfl Gd.free (by kernel_rfl) (aC.st (ad rfl) rfl) ?_;rintro _ _ _ ⟨rfl,rfl,rfl⟩;refine b3 ?_;exact fU rfl ⟨rfl,rfl,rfl⟩
theorem X.bU.FX {P:Program} {f:FuncId} {vs:Array Value} {u:FrameMode} {σ:PH} {Γ bp Δ:List HP} {R R':FrameMode→PH→List HP→Prop} (hc:bU P f vs u σ bp R) (he:aw Γ (bp++Δ))
 (k:∀u' ag ah fr h,R u' ag ah→Holds ag (ah++Δ) fr h→∃dq ot,R' u' dq ot∧Holds dq ot fr h):bU P f vs u σ Γ R':=fun fr h hh w hw=>by
 obtain⟨f',a,b⟩:=(hh.eS he).aside;refine(hc f' h a w hw).mono ?_;rintro e u' w' ⟨h1,h2,ag,ah,h3,h4⟩;obtain⟨dq,ot,h5,h6⟩:=k u' ag ah fr w'.heap h3 (b _ _ _ h4);exact⟨h1,h2,dq,ot,h5,h6⟩
theorem X.gj.wr {P:Program} {N:Nat} {ρ:Env} {σ:PH} {Γ:List HP} {K:KA} {all:Array Oper} {rest:List Oper} {ty:TypeId} {pos:String} {af:Array Edge} {d:Option Nat} {op:Op} {R:Value→PH→List HP→Prop} (hd:ei N d=true) (hr:aC P ρ σ Γ op ty R fw) (k:∀v ag ah,R v ag ah→gj P N all rest (fX ρ d v) ag ah K):
 gj P N all (⟨d,op,ty,pos,af,none⟩::rest) ρ σ Γ K:=
 ⟨fun fr h hh=>ET.wr hd (hr.out fr h hh) (fun v h' ⟨ag,ah,a,b⟩=>(k v ag ah a).out fr h' b) (fun _ _ ⟨_,_,h,_⟩=>h.elim)⟩
theorem X.aG.cc {P:Program} {ρ:Env} {σ:PH} {Γ:List HP} {fn:Func} {t1 t2:Tmp} {T1 T2:TypeId} {g1 o1 g2 o2:Nat} {v1 v2:Value} (hf:fn.results=#[.cell t1 T1,.cell t2 T2]) (h1:ρ t1=.pointer (some ⟨g1,o1,Option.none⟩)) (h2:ρ t2=.pointer (some ⟨g2,o2,Option.none⟩))
 (l1:∀h,Ho σ Γ h→Ld P h T1 g1 o1 v1) (l2:∀h,Ho σ Γ h→Ld P h T2 g2 o2 v2):aG P fn ρ σ Γ (.tuple #[v1,v2]):=fun h hh w a hw he=>by
 have e1:=he.get t1;rw[h1] at e1;simp at e1;have e2:=he.get t2;rw[h2] at e2;simp at e2;simp[results,hf,e1,e2,asAddr,l1 h hh w hw,l2 h hh w hw]
theorem Cc {P:Program} {σ:PH} {Γ:List HP} {fn:Func} {RR:Ending→PH→List HP→Prop} {f:FuncId} {co:Code} {a:Value} (hf:P.funcs[f]? =some fn) (hb:fn.body=some co) (hn:cS fn=true) (hN:Nat.ble 1 fn.ntmps=true) (hx:nT P fn co (cp U 0 a) σ Γ RR):ae P f #[a] σ Γ RR:=
 ⟨enters hf hb hn,fun fr h hh=>FE hf hb hn hN (fun s=>match s with
  |0=>rfl
  |s+1=>by rw[show (#[a]:Array Value).getD (s+1) undef=undef from by simp,dx _ _ _ _ (by omega)]) (hx.out fr h hh)⟩
theorem uF {s:ByteArray}:∀(f i:Nat) (acc l:List Tk),ie s f i acc=.ok l→i≤s.size→l.length≤acc.length+(s.size-i)
 |0,i,acc,l,h,hi=>by cases h;omega
 |f+1,i,acc,l,h,hi=>by
  rw[ie] at h;split at h
  ·rename_i hi;split at h
   ·rename_i t ht;obtain⟨h1,h2,h3⟩:=pR hi ht;have hle:=jD et s (i:=i+t.text.size) h3;have:=uF f _ _ l h hle;rw[List.length_append,List.length_singleton] at this;omega
   ·cases h
  ·cases h;omega
theorem uG {s:ByteArray} {l:List Tk} (h:fC s=.ok l):l.length≤s.size:=by
 have h0:=(oy h).1;rw[fC,if_neg (by omega)] at h;have hle:=jD et s (i:=0) (by omega)
 cases hl:ie s (s.size+1) (eY et s 0) [] with
 |ok l'=>rw[hl] at h;cases h;have:=uF _ _ _ _ hl (by omega);simp only[List.length_nil] at this;omega
 |error i=>rw[hl] at h;cases h
def bZ (s:ByteArray):uc Pr:=match fC s with
 |.error x=>.error x
 |.ok l=>match iI s.size l with
  |.error x=>.error x
  |.ok (pr,_)=>if bR pr≠0 then .error (bR pr,-1) else .ok pr
def UW:uc Pr→Pr
 |.error _=>⟨[],[]⟩
 |.ok p=>p
theorem vI (σ:PH):fY σ [.slice none 0 0,.slice none 0 0] ⟨[],[]⟩:=⟨_,_,rfl,bO.nil _ _ _,bO.nil _ _ _⟩
def DG (s:ByteArray) (σ:PH):Value→PH→List HP→Prop:=fun v ag ah=>∃cs,v=.tuple #[.agg (List.toArray cs),.agg #[i64 (xI (bZ s)),i64 (KH (bZ s))]]∧fY ag cs (UW (bZ s))∧σ.sub ag∧ah=[]
theorem KS (σ:PH) (s:ByteArray) (hs:s.size≤100000000) (hT:rP σ) (hE:lp σ):ae Tryz.prog 103 #[.string s] σ [] (aE (DG s σ)):=by
 have Og:=QC σ s hs hT hE
 cases hR:fC s with
 |error x=>
  obtain⟨x1,x2⟩:=x
  have he:¬(x1=0):=by
   have h:=hR;rw[fC] at h;split at h
   ·cases h;decide
   ·cases hl:ie s (s.size+1) (eY et s 0) [] with
    |ok l'=>rw[hl] at h;cases h
    |error i=>rw[hl] at h;cases h;decide
  (have hp:bZ s=.error (x1,x2):=by rw[bZ,hR]);rw[hR] at Og;replace Og:ae Tryz.prog 143 #[.string s] σ [] (aE fun v ag ah=>∃sl,v=.tuple #[sl,.agg #[i64 x1,i64 x2]]∧bO 4 iC ag sl []∧σ.sub ag∧ah=[]):=Og;refine Cc Tryz.func103 rfl rfl rfl ?_;refine nT.seq ?_;refine b3 ?_;refine cR (fun g2=>?_) (ad rfl);refine cR (fun g3=>?_) (ad rfl);refine aN ?_;refine nT.seq ?_;refine aN ?_;refine zw rfl (aC.cE (Og) rfl) ?_;rintro _ dQ _ ⟨_,⟨sl,rfl,hl,bQ,rfl⟩,rfl⟩;refine az.cl ?_;refine bt ?_;refine nT.seq ?_;refine bt ?_;refine XA.bG rfl (by first|rfl|exact decide_eq_true he) ?_;refine b3 ?_;refine fZ 4 76 [3] (aw.bP (R:=au g2 _ _) zL (aw.bP (R:=au g3 _ _) zL (aw.nil _))) ?_;refine aN ?_;refine aK.fL rfl rfl Gd.free (aC.st (ad rfl) rfl) ?_;rintro _ _ _ ⟨rfl,rfl,rfl⟩;refine stays ?_;refine aK.bj rfl rfl Gd.free (by kernel_rfl) (aC.st (ad rfl) rfl) ?_;rintro _ _ _ ⟨rfl,rfl,rfl⟩;refine bM ?_;exact ao.ret (X.aG.cc rfl rfl rfl (Ld.bN (ad rfl) rfl zL rfl (by first|exact bJ (by first|rfl|assumption|(refine(aj _).trans ?_;assumption)|(simp[*];(first|done|fail)))|assumption|exact aI (by first|rfl|assumption|(refine(aj _).trans ?_;assumption)|(simp[*];(first|done|fail)))|(conv=>lhs;simp only[List.drop_succ_cons,List.drop_zero,List.take_succ_cons,List.take_zero])) (by first|rfl|assumption|(refine(aj _).trans ?_;assumption)|(simp[*];(first|done|fail)))) (Ld.bN (ad rfl) rfl zL rfl (by first|exact bJ (by first|rfl|assumption|(refine(aj _).trans ?_;assumption)|(simp[*];(first|done|fail)))|assumption|exact aI (by first|rfl|assumption|(refine(aj _).trans ?_;assumption)|(simp[*];(first|done|fail)))|(conv=>lhs;simp only[List.drop_succ_cons,List.drop_zero,List.take_succ_cons,List.take_zero])) (by first|rfl|assumption|(refine(aj _).trans ?_;assumption)|(simp[*];(first|done|fail))))) (aw.nil _) ⟨_,by rw[hp];rfl,by rw[hp];exact vI _,bQ,rfl⟩
 |ok l=>
  obtain⟨h6,cU⟩:=oy hR;have hF:∀t∈l,kN t:=fun t ht=>⟨by have:=(cU t ht).size;simp only[maxLen];omega,(cU t ht).num⟩
  have hL:l.length≤10000:=by
   have:=uG hR;omega
  rw[hR] at Og;replace Og:ae Tryz.prog 143 #[.string s] σ [] (aE fun v ag ah=>∃sl,v=.tuple #[sl,.agg #[i64 0,i64 0]]∧bO 4 iC ag sl l∧σ.sub ag∧ah=[]):=Og;refine Cc Tryz.func103 rfl rfl rfl ?_;refine nT.seq ?_;refine b3 ?_;refine cR (fun g2=>?_) (ad rfl);refine cR (fun g3=>?_) (ad rfl);refine aN ?_;refine nT.seq ?_;refine aN ?_;refine zw rfl (aC.cE (Og) rfl) ?_;rintro _ dQ _ ⟨_,⟨sl,rfl,hl,bQ,rfl⟩,rfl⟩;refine az.cl ?_;obtain⟨p,c,rfl,wR,xU⟩:=hl.shape;refine bt ?_;refine nT.seq ?_;refine bt ?_;refine XA.aR rfl (by first|rfl|exact decide_eq_false (fun h=>h rfl)) ?_;refine aN ?_;refine nT.defer (caps:=#[ptr g2,ptr g3]) (enters Tryz.func144 rfl rfl) rfl (by simp only[List.map_toArray,List.map_cons,List.map_nil]) ?_;refine nS.seq ?_;refine X.nS.of ?_;refine zR (yA ?_);refine yA ?_;refine zO rfl (Rd.pG (ad rfl) rfl rfl) ?_;refine zO rfl (Rd.bl (fun _ _=>ad) rfl rfl rfl) ?_;refine zw rfl (aC.bx rfl) ?_;rintro _ _ _ ⟨gp,rfl,rfl,rfl⟩;refine yS ?_;refine zN (zT ?_);have Oh:=DF dQ gp p c s.size l hl hF hL;show nS _ _ _ _ _ _ _;refine nS.seq ?_;refine nS.region ?_;refine gj.rd rfl (Rd.move rfl) ?_
  cases hP:iI s.size l with
  |error x=>
   have hp:bZ s=.error x:=by rw[bZ,hR];simp only;rw[hP]
   have Yb:ae Tryz.prog 145 #[ptr gp] dQ [au gp [.slice p l.length c,i64 s.size,.slice none 0 0] 213] (jP fun ch ag ah=>ch=gI x∧dQ.sub ag∧∃cs,ah=[au gp cs 213]):=by
    refine Oh.mono fun en ag ah hr=>?_
    cases en with
    |returned v=>obtain⟨x',QJ,h1,-⟩:=hr;rw[hP] at h1;cases h1
    |panicked ch=>obtain⟨x',h1,h2⟩:=hr;rw[hP] at h1;cases h1;exact h2
    |outgrown=>exact False.elim hr
   refine gj.die rfl Yb rfl zD ?_;rintro _ dq _ ⟨rfl,bT,cb,rfl⟩;show bU _ _ _ _ _ _ _;refine X.bU.FX (FW dq g2 g3 x _ _ rfl rfl) (Δ:=[]) zE ?_;rintro u' ag ah fr h ⟨hu,rfl,rfl⟩ hh;simp only[List.cons_append,List.nil_append] at hh;refine⟨_,_,?_,hh⟩;refine⟨hu,_,X.aG.cc rfl rfl rfl (Ld.bN (ad rfl) rfl zL rfl (by first|exact bJ (by first|rfl|assumption|(refine(aj _).trans ?_;assumption)|(simp[*];(first|done|fail)))|assumption|exact aI (by first|rfl|assumption|(refine(aj _).trans ?_;assumption)|(simp[*];(first|done|fail)))|(conv=>lhs;simp only[List.drop_succ_cons,List.drop_zero,List.take_succ_cons,List.take_zero])) (by first|rfl|assumption|(refine(aj _).trans ?_;assumption)|(simp[*];(first|done|fail)))) (Ld.bN (ad rfl) rfl zL rfl (by first|exact bJ (by first|rfl|assumption|(refine(aj _).trans ?_;assumption)|(simp[*];(first|done|fail)))|assumption|exact aI (by first|rfl|assumption|(refine(aj _).trans ?_;assumption)|(simp[*];(first|done|fail)))|(conv=>lhs;simp only[List.drop_succ_cons,List.drop_zero,List.take_succ_cons,List.take_zero])) (by first|rfl|assumption|(refine(aj _).trans ?_;assumption)|(simp[*];(first|done|fail)))),[],aw.nil _,?_⟩;exact⟨_,by rw[hp];rfl,by rw[hp];exact vI _,bQ.trans bT,rfl⟩
  |ok y=>
   obtain⟨pr,l'⟩:=y
   have UX:ae Tryz.prog 145 #[ptr gp] dQ [au gp [.slice p l.length c,i64 s.size,.slice none 0 0] 213] (aE fun v ag ah=>∃cs,v=.agg (List.toArray cs)∧fY ag cs pr∧dQ.sub ag∧∃cb,ah=[au gp cb 213]):=by
    refine Oh.mono fun en ag ah hr=>?_
    cases en with
    |returned v=>obtain⟨x',QJ,h1,h2⟩:=hr;rw[hP] at h1;cases h1;exact h2
    |panicked ch=>obtain⟨x',h1,-⟩:=hr;rw[hP] at h1;cases h1
    |outgrown=>exact False.elim hr
   refine gj.call rfl UX rfl zD ?_;rintro _ dq _ ⟨cs,rfl,Oi,bT,cb,rfl⟩;have UY:=Oi;obtain⟨vs,bs,rfl,hv,hb⟩:=Oi;obtain⟨pv,cv,rfl,-,-⟩:=hv.shape;obtain⟨pb,cb2,rfl,-,-⟩:=hb.shape;simp only[List.cons_append,List.nil_append];refine X.gj.wr rfl (aC.st (ad rfl) rfl) ?_;rintro _ _ _ ⟨rfl,rfl,rfl⟩;refine gj.nil ?_;show nS _ _ _ _ _ _ _;refine nS.seq ?_;refine X.nS.of ?_;refine zS (zR ?_);refine zO rfl (Rd.Ah rfl) ?_;refine yC (kJ dq _ pr UY) ?_;refine yS ?_;refine zN (zT ?_);by_cases hc:bR pr≠0
   ·(have hp:bZ s=.error (bR pr,-1):=by rw[bZ,hR];simp only;rw[hP];simp only;rw[if_pos hc]);refine zS (zR (yA ?_));refine zO rfl (Rd.neq rfl rfl) ?_;refine zN (zT (XA.bG rfl (by first|rfl|exact decide_eq_true hc) ?_));refine zS (zR ?_);refine zO rfl (Rd.bl (fun _ _=>ad) rfl rfl rfl) ?_;refine yA ?_;refine zO rfl (Rd.bl (fun _ _=>ad) rfl rfl rfl) ?_;refine zw rfl (aC.st (ad rfl) rfl) ?_;rintro _ _ _ ⟨rfl,rfl,rfl⟩;refine zw rfl (aC.st (ad rfl) rfl) ?_;rintro _ _ _ ⟨rfl,rfl,rfl⟩;refine zN (zT (XA.ret (DA.vh ?_)));refine .here ?_;show bU _ _ _ _ _ _ _;refine X.bU.FX (xS dq g2 g3) (Δ:=_) (aw.refl _) ?_;rintro u' ag ah fr h ⟨hu,rfl,rfl⟩ hh;simp only[List.nil_append] at hh;refine⟨_,_,?_,hh⟩;refine⟨hu,_,X.aG.cc rfl rfl rfl (Ld.bN (ad rfl) rfl zL rfl (by first|exact bJ (by first|rfl|assumption|(refine(aj _).trans ?_;assumption)|(simp[*];(first|done|fail)))|assumption|exact aI (by first|rfl|assumption|(refine(aj _).trans ?_;assumption)|(simp[*];(first|done|fail)))|(conv=>lhs;simp only[List.drop_succ_cons,List.drop_zero,List.take_succ_cons,List.take_zero])) (by first|rfl|assumption|(refine(aj _).trans ?_;assumption)|(simp[*];(first|done|fail)))) (Ld.bN (ad rfl) rfl zL rfl (by first|exact bJ (by first|rfl|assumption|(refine(aj _).trans ?_;assumption)|(simp[*];(first|done|fail)))|assumption|exact aI (by first|rfl|assumption|(refine(aj _).trans ?_;assumption)|(simp[*];(first|done|fail)))|(conv=>lhs;simp only[List.drop_succ_cons,List.drop_zero,List.take_succ_cons,List.take_zero])) (by first|rfl|assumption|(refine(aj _).trans ?_;assumption)|(simp[*];(first|done|fail)))),[],aw.nil _,?_⟩;exact⟨_,by rw[hp];rfl,by rw[hp];exact vI _,bQ.trans bT,rfl⟩
   ·(have hp:bZ s=.ok pr:=by rw[bZ,hR];simp only;rw[hP];simp only;rw[if_neg hc]);refine zS (zR (yA ?_));refine zO rfl (Rd.neq rfl rfl) ?_;refine zN (zT (XA.aR rfl (by first|rfl|exact decide_eq_false hc) (XA.skip (zT ?_))));show nS _ _ _ _ _ _ _;refine X.nS.UU ?_;refine zS (zR ?_);refine zO rfl (Rd.Ah rfl) ?_;refine zO rfl (Rd.bl (fun _ _=>ad) rfl rfl rfl) ?_;refine zw rfl (aC.st (ad rfl) rfl) ?_;rintro _ _ _ ⟨rfl,rfl,rfl⟩;refine zw rfl (aC.st (ad rfl) rfl) ?_;rintro _ _ _ ⟨rfl,rfl,rfl⟩;refine zN (zT (XA.ret ?_));refine .here ?_;show bU _ _ _ _ _ _ _;refine X.bU.FX (xS dq g2 g3) (Δ:=_) (aw.refl _) ?_;rintro u' ag ah fr h ⟨hu,rfl,rfl⟩ hh;simp only[List.nil_append] at hh;refine⟨_,_,?_,hh⟩;refine⟨hu,_,X.aG.cc rfl rfl rfl (Ld.bN (ad rfl) rfl zL rfl (by first|exact bJ (by first|rfl|assumption|(refine(aj _).trans ?_;assumption)|(simp[*];(first|done|fail)))|assumption|exact aI (by first|rfl|assumption|(refine(aj _).trans ?_;assumption)|(simp[*];(first|done|fail)))|(conv=>lhs;simp only[List.drop_succ_cons,List.drop_zero,List.take_succ_cons,List.take_zero])) (by first|rfl|assumption|(refine(aj _).trans ?_;assumption)|(simp[*];(first|done|fail)))) (Ld.bN (ad rfl) rfl zL rfl (by first|exact bJ (by first|rfl|assumption|(refine(aj _).trans ?_;assumption)|(simp[*];(first|done|fail)))|assumption|exact aI (by first|rfl|assumption|(refine(aj _).trans ?_;assumption)|(simp[*];(first|done|fail)))|(conv=>lhs;simp only[List.drop_succ_cons,List.drop_zero,List.take_succ_cons,List.take_zero])) (by first|rfl|assumption|(refine(aj _).trans ?_;assumption)|(simp[*];(first|done|fail)))),[],aw.nil _,?_⟩;exact⟨_,by rw[hp];rfl,by rw[hp];exact UY,bQ.trans bT,rfl⟩
theorem my {w:ByteArray} {l:List Tk} (h:lA w l=true):l.length=l.tail.length+1:=by
 obtain⟨t,r,rfl⟩:=ca h;rfl
theorem uH {W:Int→ByteArray} {m:Nat} {l:List Tk} {k:Nat} (h:ia W m l=some k):l.length=l.tail.length+1:=my (kL m 1 h).2.2.1
theorem xV {α:Type} {e:Int} {x y:α} {l l':List Tk} (h:dz e x l=.ok (y,l')):x=y∧l.length=l'.length+1:=by
 rw[dz] at h;split at h
 ·rename_i q;cases h;exact⟨rfl,my q⟩
 ·cases h
theorem Cd {E:List Tk→PR Ex} (hE:∀l x l',E l=.ok (x,l')→rO x+l'.length≤l.length):∀(m:Nat) (l:List Tk) (acc xs:List Ex) (l':List Tk),dh E m l acc=.ok (xs,l')→jO xs+l'.length≤jO acc+l.length
 |0,l,acc,xs,l',h=>by cases h;exact Nat.le_refl _
 |m+1,l,acc,xs,l',h=>by
  rw[dh] at h
  cases q:E l with
  |error x=>rw[q] at h;cases h
  |ok y=>
   obtain⟨x,l1⟩:=y;rw[q] at h;have h1:=Cd hE m l1 _ xs l' h;have h2:=hE l x l1 q;rw[sn] at h1;simp only[jO] at h1;omega
theorem vJ {vl:List Va} {e:Int}:∀(f:Nat) (l:List Tk) (x:Ex) (l':List Tk),cm vl e f l=.ok (x,l')→rO x+l'.length≤l.length
 |0,l,x,l',h=>by cases h
 |f+1,l,x,l',h=>by
  rw[cm] at h;split at h
  ·rename_i q;have h0:=my q
   cases hk:ia gQ 8 l.tail with
   |none=>rw[hk] at h;cases h
   |some k=>
    rw[hk] at h;simp only at h;have h1:=uH hk
    cases hh:gJ vl e k l.tail.tail with
    |error x=>rw[hh] at h;cases h
    |ok y=>
     obtain⟨vn,l3⟩:=y;rw[hh] at h;simp only at h;have h2:=(pS hh).2
     cases hs:dh (cm vl e f) (partsOf k).toNat l3 [] with
     |error x=>rw[hs] at h;cases h
     |ok z=>
      obtain⟨xs,l4⟩:=z;rw[hs] at h;simp only at h;have h3:=Cd (vJ f) _ _ _ _ _ hs;obtain⟨rfl,h4⟩:=xV h;simp only[jO] at h3;simp only[rO];omega
  ·cases h
theorem Ce {S:List Tk→PR St} (hS:∀l x l',S l=.ok (x,l')→zj x+l'.length≤l.length):∀(g:Nat) (l:List Tk) (acc xs:List St) (l':List Tk),ij S g l acc=.ok (xs,l')→ez xs+l'.length≤ez acc+l.length
 |0,l,acc,xs,l',h=>by cases h
 |g+1,l,acc,xs,l',h=>by
  rw[ij] at h;split at h
  ·rename_i q;have:=my q;cases h;omega
  ·cases q:S l with
   |error x=>rw[q] at h;cases h
   |ok y=>
    obtain⟨x,l1⟩:=y;rw[q] at h;have h1:=Ce hS g l1 _ xs l' h;have h2:=hS l x l1 q;rw[oh] at h1;simp only[ez] at h1;omega
theorem Cf {S:List Tk→PR St} {e:Int} (hS:∀l x l',S l=.ok (x,l')→zj x+l'.length≤l.length) {l l':List Tk} {xs:List St} (h:fM S e l=.ok (xs,l')):ez xs+l'.length≤l.length:=by
 rw[fM] at h;split at h
 ·rename_i q;have h0:=my q;have:=Ce hS _ _ _ _ _ h;simp only[ez] at this;omega
 ·cases h
theorem FY {b:Bool} {x:Ex} {a:List Tk→PR Ex} {l l':List Tk} (ha:∀l x l',a l=.ok (x,l')→rO x+l'.length≤l.length) (h:dj b ka a l=.ok (x,l')):rO x+l'.length≤l.length+1:=by
 rw[dj] at h;split at h
 ·have:=ha _ _ _ h;omega
 ·cases h;simp only[ka,rO,jO];omega
theorem FZ {b:Bool} {x:List St} {a:List Tk→PR (List St)} {l l':List Tk} (ha:∀l x l',a l=.ok (x,l')→ez x+l'.length≤l.length) (h:dj b [] a l=.ok (x,l')):ez x+l'.length≤l.length:=by
 rw[dj] at h;split at h
 ·exact ha _ _ _ h
 ·cases h;simp only[ez];omega
theorem vK {vl:List Va} {e:Int}:∀(f:Nat) (l:List Tk) (x:St) (l':List Tk),cQ vl e f l=.ok (x,l')→zj x+l'.length≤l.length
 |0,l,x,l',h=>by cases h
 |f+1,l,x,l',h=>by
  rw[cQ] at h;split at h
  ·rename_i q;have h0:=my q
   cases hk:ia gm 7 l.tail with
   |none=>rw[hk] at h;cases h
   |some k=>
    rw[hk] at h;simp only at h;have h1:=uH hk;obtain⟨v,l3,h3,h⟩:=di h;obtain⟨x1,l4,h4,h⟩:=di h;obtain⟨x2,l5,h5,h⟩:=di h;obtain⟨x3,l6,h6,h⟩:=di h;obtain⟨x4,l7,h7,h⟩:=di h;have e3:=(fe (fun _ _ _=>oC) h3).2;have e4:=FY (vJ f) h4;have e5:=FY (vJ f) h5;have e6:=FZ (fun _ _ _=>Cf (vK f)) h6;have e7:=FZ (fun _ _ _=>Cf (vK f)) h7;obtain⟨rfl,h8⟩:=xV h;simp only[zj];omega
  ·cases h
theorem Cg {S:List Tk→PR St} (hS:∀l x l',S l=.ok (x,l')→zj x+l'.length≤l.length):∀(g:Nat) (l:List Tk) (acc xs:List St) (l':List Tk),iH S g l acc=.ok (xs,l')→ez xs≤ez acc+l.length
 |0,l,acc,xs,l',h=>by cases h
 |g+1,l,acc,xs,l',h=>by
  rw[iH] at h;split at h
  ·cases h;omega
  ·cases q:S l with
   |error x=>rw[q] at h;cases h
   |ok y=>
    obtain⟨x,l1⟩:=y;rw[q] at h;have h1:=Cg hS g l1 _ xs l' h;have h2:=hS l x l1 q;rw[oh] at h1;simp only[ez] at h1;omega
theorem Ch {e:Int}:∀(g:Nat) (l:List Tk) (acc vs:List Va) (l':List Tk),il e g l acc=.ok (vs,l')→l'.length≤l.length
 |0,l,acc,vs,l',h=>by cases h
 |g+1,l,acc,vs,l',h=>by
  rw[il] at h;split at h
  ·obtain⟨s,l1,h1,h⟩:=di h;obtain⟨n,l2,h2,h⟩:=di h;obtain⟨t1,e1,-,-⟩:=kc h1;have e2:=(xO h2).2;have e3:=Ch g l2 _ vs l' h;(have e4:l.tail.length=l1.length+1:=by rw[e1];rfl);have e5:=(Sub.tail l).2;omega
  ·cases h;exact Nat.le_refl _
theorem KT {e:Int} {l r:List Tk} {p:Pr} (h:iI e l=.ok (p,r)):ez p.body≤l.length:=by
 rw[iI] at h;obtain⟨vl,l1,h1,h⟩:=di h;obtain⟨b,l2,h2,h⟩:=di h;cases h;have e1:=Ch _ _ _ _ _ h1;have e2:=Cg (vK 13) _ _ _ _ _ h2;simp only[ez] at e2;show ez b≤l.length;omega
theorem sI {s:ByteArray} {p:Pr} (h:bZ s=.ok p):bR p=0∧ez p.body≤6000:=by
 rw[bZ] at h
 cases hs:fC s with
 |error y=>rw[hs] at h;cases h
 |ok l=>
  rw[hs] at h;simp only at h
  cases hp:iI s.size l with
  |error y=>rw[hp] at h;cases h
  |ok y=>
   obtain⟨pr,r⟩:=y;rw[hp] at h;simp only at h;have h6:=(oy hs).1;have hl:=uG hs;have hn:=KT hp;split at h
   ·cases h
   ·rename_i hc;cases h;exact⟨Decidable.not_not.1 hc,by omega⟩
end Go.Proofs.YtgeoiflbjcehcaaGreatDoor
