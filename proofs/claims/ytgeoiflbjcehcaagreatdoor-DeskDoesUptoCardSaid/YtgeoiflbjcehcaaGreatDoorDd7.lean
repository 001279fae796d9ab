import Derived.Test.YtgeoiflbjcehcaaGreatDoorDd6
set_option maxHeartbeats 4000000
set_option maxRecDepth 2000
set_option linter.unusedVariables false
set_option linter.unusedSimpArgs false
namespace Go.Proofs.YtgeoiflbjcehcaaGreatDoor
open Go X
theorem sZ (σ:PH) (op:Int):ah Tryz.prog 165 #[i64 op] σ [] (aA fun v aj al=>v=i64 (partsOf op)∧σ=aj∧al=[]):=by
 refine cM Tryz.func165 ?_;refine dh ?_;by_cases h1:op=1
 ·subst h1;refine dC ?_;exact ao.ret (aB.one rfl rfl) (ar.refl _) ⟨rfl,rfl,rfl⟩
 by_cases h2:op=2
 ·subst h2;refine iA ?_;exact ao.ret (aB.one rfl rfl) (ar.refl _) ⟨rfl,rfl,rfl⟩
 by_cases h3:op=3
 ·subst h3;refine Jc ?_;exact ao.ret (aB.one rfl rfl) (ar.refl _) ⟨rfl,rfl,rfl⟩
 refine bY ?_;refine XA.aI rfl zY ?_;refine dc ?_;refine XA.aI rfl zY ?_;refine a8 ?_;refine XA.aI rfl zY ?_;refine bg ?_;(have hp:partsOf op=if 4≤op∧op≤8 then 2 else-1:=by rw[partsOf,ag ad,ag h3]);by_cases h4:op=4
 ·subst h4;refine bm ?_;exact ao.ret (aB.one rfl rfl) (ar.refl _) ⟨rfl,rfl,rfl⟩
 by_cases h5:op=5
 ·subst h5;refine iA ?_;exact ao.ret (aB.one rfl rfl) (ar.refl _) ⟨rfl,rfl,rfl⟩
 by_cases h6:op=6
 ·subst h6;refine Jc ?_;exact ao.ret (aB.one rfl rfl) (ar.refl _) ⟨rfl,rfl,rfl⟩
 by_cases h7:op=7
 ·subst h7;refine Je ?_;exact ao.ret (aB.one rfl rfl) (ar.refl _) ⟨rfl,rfl,rfl⟩
 (iterate 3 (refine XA.aI rfl zY ?_;refine a8 ?_));refine XA.aI rfl zY ?_;refine dc ?_;refine XA.bE rfl (fun h8=>?_) (fun h8=>?_)
 ·subst h8;refine bJ ?_;exact ao.ret (aB.one rfl rfl) (ar.refl _) ⟨rfl,rfl,rfl⟩
 rw[hp,ag ad];refine bt ?_;exact ao.ret (aB.one rfl rfl) (ar.refl _) ⟨rfl,rfl,rfl⟩
def lX (op:Int):ByteArray:=if op=1 then ⟨#[101,118]⟩ else if op=2 then ⟨#[101,102,118]⟩ else if op=3 then ⟨#[101]⟩ else if op=4 then ⟨#[118]⟩ else if op=5 then ⟨#[101,98]⟩ else if op=6 then ⟨#[101,98,111]⟩ else ⟨#[]⟩
theorem Lq (σ:PH) (op:Int):ah Tryz.prog 163 #[i64 op] σ [] (aA fun v aj al=>v=.string (lX op)∧σ=aj∧al=[]):=by
 refine cM Tryz.func163 ?_;refine lR ?_;refine XA.bE rfl (fun h1=>?_) (fun h1=>?_)
 ·subst h1;refine bJ ?_;exact ao.ret (aB.one rfl rfl) (ar.refl _) ⟨rfl,rfl,rfl⟩
 refine a8 ?_;refine XA.bE rfl (fun h2=>?_) (fun h2=>?_)
 ·subst h2;refine bJ ?_;exact ao.ret (aB.one rfl rfl) (ar.refl _) ⟨rfl,rfl,rfl⟩
 refine a8 ?_;refine XA.bE rfl (fun h3=>?_) (fun h3=>?_)
 ·subst h3;refine bJ ?_;exact ao.ret (aB.one rfl rfl) (ar.refl _) ⟨rfl,rfl,rfl⟩
 refine a8 ?_;refine XA.bE rfl (fun h4=>?_) (fun h4=>?_)
 ·subst h4;refine bJ ?_;exact ao.ret (aB.one rfl rfl) (ar.refl _) ⟨rfl,rfl,rfl⟩
 refine a8 ?_;refine XA.bE rfl (fun h5=>?_) (fun h5=>?_)
 ·subst h5;refine bJ ?_;exact ao.ret (aB.one rfl rfl) (ar.refl _) ⟨rfl,rfl,rfl⟩
 refine a8 ?_;refine XA.bE rfl (fun h6=>?_) (fun h6=>?_)
 ·subst h6;refine bJ ?_;exact ao.ret (aB.one rfl rfl) (ar.refl _) ⟨rfl,rfl,rfl⟩
 (have hn:lX op=⟨#[]⟩:=by rw[lX,ag h1,ag h2,ag h3,ag h4,ag h5,ag h6]);rw[hn];refine bt ?_;exact ao.ret (aB.one rfl rfl) (ar.refl _) ⟨rfl,rfl,rfl⟩
def kr (s:ByteArray) (c:Nat):Bool:=decide (∃i,i<s.size∧aJ s i=c)
theorem eG (σ:PH) (op:Int) (c:Nat):ah Tryz.prog 126 #[i64 op,.int .u8 c] σ [] (aA fun v aj al=>v=.bool (kr (lX op) c)∧σ=aj∧al=[]):=by
 (have gO:(lX op).size≤3:=by unfold lX;(repeat' split)<;>decide);refine cw Tryz.func126 ?_;refine bJ ?_;refine yC (Lq σ op) ?_;obtain⟨s,hs⟩:∃s,s=lX op:=⟨_,rfl⟩;rw[←hs] at gO⊢;(refine aR ?_;refine XA.gen [(1,_),(4,_),(5,_),(6,_)] iX fun δ=>?_);dsimp only[List.foldl];refine XA.loop [(4,4),(6,6),(9,19)] (fun k:Nat=>[(6,i64 k)]) (fun k aj al=>σ=aj∧k≤s.size∧(∀i,i<k→aJ s i≠c)∧al=[]) (fun k=>s.size-k) 0 eb (Δ0:=_) ?_ (⟨rfl,cg _,fun i h=>absurd h (Nat.not_lt_zero _),rfl⟩) ?_
 ·exact zE
 rintro k δ _ _ ⟨rfl,hk,bu,rfl⟩;dsimp only[dq,List.foldl];refine bt ?_;refine XA.bE rfl (fun aV=>?_) (fun aV=>?_)
 ·(have aV:k<s.size:=by omega);refine bJ ?_;refine zO rfl (Rd.bh (ae rfl) rfl rfl rfl gD) ?_;refine bY ?_;refine XA.bE rfl (fun he=>?_) (fun he=>?_)
  ·have hb:kr s c=true:=aM ⟨k,aV,ad⟩;rw[hb];refine cp ?_;exact bC rfl rfl ⟨rfl,rfl,rfl⟩
  have eR:∀i,i<k+1→aJ s i≠c:=fun i hi=>by
   rcases Nat.lt_or_ge i k with h|h
   ·exact bu i h
   ·(have:i=k:=by omega);subst this;omega
  refine bt ?_;refine⟨bQ,k+1,_,zM,?_,⟨rfl,aV,eR,rfl⟩,ad⟩
  ·exact zE
 have hb:kr s c=false:=aE (fun⟨i,h1,h2⟩=>bu i ad h2);rw[hb];refine cp ?_;exact bC rfl rfl ⟨rfl,rfl,rfl⟩
theorem ln (op:Int):kr (lX op) 101=dE op∧kr (lX op) 102=fS op∧kr (lX op) 118=k7 op∧kr (lX op) 98=jw op∧kr (lX op) 111=jj op:=by
 by_cases h1:op=1
 ·subst h1;decide+kernel
 by_cases h2:op=2
 ·subst h2;decide+kernel
 by_cases h3:op=3
 ·subst h3;decide+kernel
 by_cases h4:op=4
 ·subst h4;decide+kernel
 by_cases h5:op=5
 ·subst h5;decide+kernel
 by_cases h6:op=6
 ·subst h6;decide+kernel
 (have hn:lX op=⟨#[]⟩:=by rw[lX,ag h1,ag h2,ag h3,ag h4,ag h5,ag h6]);rw[hn];(have:∀c,kr ⟨#[]⟩ c=false:=fun c=>aE (fun⟨i,h,_⟩=>absurd h (Nat.not_lt_zero i)));simp[this,dE,fS,k7,jw,jj,h1,h2,h3,h4,h5,h6]
theorem Hh (σ:PH) (s:ByteArray) (hs:s.size≤maxLen):ah Tryz.prog 122 #[.string s] σ [] (aA fun v aj al=>v=.bool (dW s)∧σ=aj∧al=[]):=by
 simp only[maxLen] at hs;(refine cM Tryz.func122 ?_;refine bm ?_;refine XA.gen [(0,_),(2,_),(3,_)] iX fun δ=>?_);dsimp only[List.foldl];refine XA.loop [(2,19)] (fun k:Nat=>[(3,i64 k)]) (fun k aj al=>σ=aj∧k≤s.size∧(∀i,i<k→97≤aJ s i∧aJ s i≤122)∧al=[]) (fun k=>s.size-k) 0 eb (Δ0:=_) ?_ (⟨rfl,cg _,by intro i hi;omega,rfl⟩) ?_
 ·exact zE
 rintro k δ _ _ ⟨rfl,hk,bu,rfl⟩;dsimp only[dq,List.foldl];refine bt ?_;refine XA.bE rfl (fun aV=>?_) (fun aV=>?_)
 ·(have aV:k<s.size:=by omega);have hb:=jv s k;by_cases h1:aJ s k<97
  ·refine bJ ?_;refine zO rfl (Rd.bh (ae rfl) rfl rfl rfl gD) ?_;refine bY ?_;(first|(refine zG ?_;refine zO rfl (Rd.bh (ae rfl) rfl rfl rfl gD) ?_)|refine zH ?_);refine dC ?_;refine ao.ret (aB.one rfl rfl) (ar.refl _) ⟨?_,rfl,rfl⟩;have:dW s=false:=aE (fun h=>by have:=h.1 k aV;omega);rw[this]
  ·refine bJ ?_;refine zO rfl (Rd.bh (ae rfl) rfl rfl rfl gD) ?_;refine bY ?_;(first|(refine zG ?_;refine zO rfl (Rd.bh (ae rfl) rfl rfl rfl gD) ?_)|refine zH ?_);refine bY ?_;refine XA.bE rfl (fun h2=>?_) (fun h2=>?_)
   ·refine cp ?_;refine ao.ret (aB.one rfl rfl) (ar.refl _) ⟨?_,rfl,rfl⟩;have:dW s=false:=aE (fun h=>by have:=h.1 k aV;omega);rw[this]
   have eR:∀i,i<k+1→97≤aJ s i∧aJ s i≤122:=fun i hi=>by
    rcases Nat.lt_or_ge i k with h|h
    ·exact bu i h
    ·(have:i=k:=by omega);subst this;omega
   refine bt ?_;refine⟨bQ,k+1,_,zM,?_,⟨rfl,aV,eR,rfl⟩,ad⟩
   ·exact zE
 (have sC:k=s.size:=by omega);subst sC;by_cases h0:1≤s.size
 ·have:dW s=decide ((s.size:Int)≤8):=by
   unfold dW;rw[decide_eq_decide];constructor
   ·intro h;omega
   ·intro h;exact⟨bu,ad,ad⟩
  rw[this];refine iA ?_;exact ao.ret (aB.one rfl rfl) (ar.refl _) ⟨rfl,rfl,rfl⟩
 ·have:dW s=false:=aE (fun h=>by omega);rw[this];refine iA ?_;exact ao.ret (aB.one rfl rfl) (ar.refl _) ⟨rfl,rfl,rfl⟩
theorem Hi (σ:PH) (cs:List Value) (x:Ex) (hx:dL σ cs x):ah Tryz.prog 168 #[.agg cs.toArray] σ [] (aA fun v aj al=>v=.bool (j0 x)∧σ=aj∧al=[]):=by
 obtain⟨p,c,rfl,-,-,-,-⟩:=hx.inv;by_cases h1:x.op=0
 ·by_cases h2:x.v=0
  ·by_cases h3:x.n=0
   ·(refine cM Tryz.func168 ?_;refine aU ?_;refine cP fun g1=>?_;refine nC ?_);refine bC rfl rfl ⟨?_,rfl,rfl⟩;simp[j0,h1,h2,h3]
   ·(refine cM Tryz.func168 ?_;refine aU ?_;refine cP fun g1=>?_;refine nC ?_);exact bC rfl rfl ⟨by simp[j0,h3],rfl,rfl⟩
  ·(refine cM Tryz.func168 ?_;refine aU ?_;refine cP fun g1=>?_;refine nC ?_);exact bC rfl rfl ⟨by simp[j0,h2],rfl,rfl⟩
 ·(refine cM Tryz.func168 ?_;refine aU ?_;refine cP fun g1=>?_;refine nC ?_);exact bC rfl rfl ⟨by simp[j0,h1],rfl,rfl⟩
def bK (b:Nat) (vs bs:Value) (e:JE):HP:=fun m=>∃n c,aw b [vs,bs,i64 n,i64 c] 194 m∧match e with|.ok l=>n=150-l∧c=0|.error d=>c=d∧c≠0
theorem bK.ll {b:Nat} {vs bs:Value} {l:Int}:∀m,bK b vs bs (.ok l) m→∃_:Unit,True∧Sat [aw b [vs,bs,i64 (150-l),i64 0] 194] m:=by
 rintro m ⟨l',c,h,rfl,rfl⟩;exact⟨(),trivial,zk h⟩
theorem bK.fT {b:Nat} {vs bs:Value} {c:Int}:∀m,bK b vs bs (.error c) m→∃n:Int,c≠0∧Sat [aw b [vs,bs,i64 n,i64 c] 194] m:=by
 rintro m ⟨l',c',h,rfl,h0⟩;exact⟨l',h0,zk h⟩
theorem bK.Hb {b:Nat} {vs bs:Value} {l n:Int} (hn:n=150-l):∀m,Sat [aw b [vs,bs,i64 n,i64 0] 194] m→bK b vs bs (.ok l) m:=fun m h=>⟨n,0,lk jF h,hn,rfl⟩
theorem bK.Ag {b:Nat} {vs bs:Value} {n c:Int} (h0:c≠0):∀m,Sat [aw b [vs,bs,i64 n,i64 c] 194] m→bK b vs bs (.error c) m:=fun m h=>⟨n,c,lk jF h,rfl,h0⟩
theorem bK.zl {b:Nat} {vs bs:Value} {e:JE}:∀m,bK b vs bs e m→∃x:Int×Int,(decide (x.2=0)=e.isOk∧∀m',Sat [aw b [vs,bs,i64 x.1,i64 x.2] 194] m'→bK b vs bs e m')∧Sat [aw b [vs,bs,i64 x.1,i64 x.2] 194] m:=by
 rintro m ⟨l',c,h,h0⟩;refine⟨(l',c),⟨?_,fun m' h'=>⟨l',c,lk jF h',h0⟩⟩,zk h⟩
 cases e with
 |ok l=>obtain⟨-,rfl⟩:=h0;rfl
 |error d=>obtain⟨-,h0⟩:=h0;exact aE h0
theorem Ai (σ:PH) (b:Nat) (vs bs:Value) (n c0:Int) (is:Bool) (c:Int):
 ah Tryz.prog 167 #[ptr b,.bool is,i64 c] σ [aw b [vs,bs,i64 n,i64 c0] 194] (aA fun v aj al=>v=.tuple #[]∧σ=aj∧al=[aw b [vs,bs,i64 n,i64 (if is∧c0=0 then c else c0)] 194]):=by
 cases is with
 |false=>
  refine lS Tryz.func167 ?_;refine eA ?_;exact ao.normal (aB.none rfl) (ar.refl _) ⟨rfl,rfl,aZ⟩
 |true=>
  by_cases h0:c0=0
  ·subst h0;refine lS Tryz.func167 ?_;refine mI ?_;exact ao.normal (aB.none rfl) (ar.refl _) ⟨rfl,rfl,aZ⟩
  ·refine lS Tryz.func167 ?_;refine bm ?_;refine XA.aI rfl (aE h0) ?_;refine bS ?_;exact ao.normal (aB.none rfl) (ar.refl _) ⟨rfl,rfl,by simp[h0]⟩
theorem ar.one {R S:HP} (h:∀m,R m→S m):ar [R] [S]:=fun m ⟨m1,m2,a,b,c,d,e⟩=>⟨m1,m2,h _ a,b,c,d,e⟩
theorem s7 (σ:PH) (b:Nat) (vs bs:Value) (e:JE) (is:Bool) (c:Int) (hc:c≠0):
 ah Tryz.prog 167 #[ptr b,.bool is,i64 c] σ [bK b vs bs e] (aA fun v aj al=>v=.tuple #[]∧σ=aj∧al=[bK b vs bs (e.fail is c)]):=by
 cases e with
 |ok l=>
  refine ah.aW .head bK.ll (enters Tryz.func167 rfl rfl) ?_;rintro⟨⟩-;refine(Ai σ b vs bs (150-l) 0 is c).conv ?_
  cases is with
  |true=>exact ar.one (fun m h=>⟨150-l,c,h,rfl,hc⟩)
  |false=>exact ar.one (fun m h=>⟨150-l,0,h,rfl,rfl⟩)
 |error d=>
  refine ah.aW .head bK.fT (enters Tryz.func167 rfl rfl) ?_;rintro n h0;(refine(Ai σ b vs bs n d is c).conv ?_);rw[ag (fun h=>h0 h.2)];exact ar.one (fun m h=>⟨n,d,h,rfl,h0⟩)
theorem Lr (σ:PH) (b:Nat) (vs bs:Value) (e:JE) (deep:Int) (hl:e.Ah):
 ah Tryz.prog 166 #[ptr b,i64 deep] σ [bK b vs bs e] (aA fun v aj al=>v=.tuple #[]∧σ=aj∧al=[bK b vs bs (e.one deep)]):=by
 cases e with
 |error d=>
  refine cw Tryz.func166 ?_;refine cx ?_;(first|refine XA.aW (R:=bK b vs bs (.error d)) zL (bK.fT) ?_|refine az.aW (R:=bK b vs bs (.error d)) zL (bK.fT) ?_|refine DA.aW (R:=bK b vs bs (.error d)) zL (bK.fT) ?_);rintro n h0;refine gX ?_;refine eA ?_;refine yC (Ai σ b vs bs _ d (decide (12<deep)) 4) ?_;refine bt ?_;refine yC (Ai σ b vs bs _ _ _ 3) ?_;rw[show (if decide (12<deep)=true∧d=0 then (4:Int) else d)=d from ag (fun h=>h0 h.2),ag (fun h=>h0 h.2)];refine bS ?_;exact ao.normal (aB.none rfl) (ar.eS zE (bK.Ag h0)) ⟨rfl,rfl,rfl⟩
 |ok l=>
  obtain⟨l0,l1⟩:=hl l rfl;refine cw Tryz.func166 ?_;refine cx ?_;(first|refine XA.aW (R:=bK b vs bs (.ok l)) zL (bK.ll) ?_|refine az.aW (R:=bK b vs bs (.ok l)) zL (bK.ll) ?_|refine DA.aW (R:=bK b vs bs (.ok l)) zL (bK.ll) ?_);rintro⟨⟩-;refine gX ?_;refine eA ?_;refine yC (Ai σ b vs bs _ 0 (decide (12<deep)) 4) ?_;refine bt ?_;refine yC (Ai σ b vs bs _ _ (decide (150<150-l+1)) 3) ?_;by_cases hd:12<deep
  ·skip;rw[show (if decide (12<deep)=true∧(0:Int)=0 then (4:Int) else 0)=4 by simp[hd],ag (fun h=>absurd h.2 au)];refine bS ?_;refine ao.normal (aB.none rfl) (ar.eS (Θ:=[aw b [vs,bs,i64 (150-l+1),i64 4] 194]) zE (bK.Ag au)) ⟨rfl,rfl,?_⟩;simp[JE.one,hd]
  ·rw[show (if decide (12<deep)=true∧(0:Int)=0 then (4:Int) else 0)=0 by simp[hd]];by_cases h0:l=0
   ·rw[show (if decide (150<150-l+1)=true∧(0:Int)=0 then (3:Int) else 0)=3 by simp[h0]];refine bS ?_;refine ao.normal (aB.none rfl) (ar.eS (Θ:=[aw b [vs,bs,i64 (150-l+1),i64 3] 194]) zE (bK.Ag au)) ⟨rfl,rfl,?_⟩;simp[JE.one,hd,h0]
   ·rw[show (if decide (150<150-l+1)=true∧(0:Int)=0 then (3:Int) else 0)=0 by rw[ag];simp;omega];refine bS ?_;refine ao.normal (aB.none rfl) (ar.eS (Θ:=[aw b [vs,bs,i64 (150-l+1),i64 0] 194]) zE (bK.Hb (l:=l-1) ad)) ⟨rfl,rfl,?_⟩;simp[JE.one,hd,h0]
theorem xA (σ:PH) (b:Nat) (p:Option Addr) (n c:Nat) (bs:Value) (e:JE) (v:Int) (is:Bool):
 ah Tryz.prog 169 #[ptr b,i64 v,.bool is] σ [bK b (.slice p n c) bs e] (aA fun r aj al=>r=.tuple #[]∧σ=aj∧al=[bK b (.slice p n c) bs (e.named n v is)]):=by
 cases is with
 |false=>
  refine lS Tryz.func169 ?_;refine aR ?_;refine yC (s7 σ b _ bs e (decide (v≠0)) 5 au) ?_;refine bS ?_;exact ao.normal (aB.none rfl) (ar.refl _) ⟨rfl,rfl,by simp only[JE.named,Bool.false_and,j9,Bool.not_false,Bool.true_and]⟩
 |true=>
  by_cases h0:v<0
  ·refine lS Tryz.func169 ?_;refine mI ?_;refine yC (s7 σ b _ bs e true 1 au) ?_;refine bS ?_;refine ao.normal (aB.none rfl) (ar.refl _) ⟨rfl,rfl,?_⟩;have:decide (v<0∨(n:Int)≤v)=true:=aM (Or.inl h0);simp only[JE.named,this,Bool.true_and,Bool.not_true,Bool.false_and,j9]
  ·refine lS Tryz.func169 ?_;refine dB ?_;(first|refine XA.aW (R:=bK b (.slice p n c) bs e) zL (bK.zl) ?_|refine az.aW (R:=bK b (.slice p n c) bs e) zL (bK.zl) ?_|refine DA.aW (R:=bK b (.slice p n c) bs e) zL (bK.zl) ?_);rintro⟨l,cc⟩ ⟨-,hf⟩;refine gX ?_;refine bg ?_;refine az.eX (Δ:=[bK b (.slice p n c) bs e]) (ar.eS zE hf) ?_;refine yC (s7 σ b _ bs e (decide ((n:Int)≤v)) 1 au) ?_;refine bS ?_;refine ao.normal (aB.none rfl) (ar.refl _) ⟨rfl,rfl,?_⟩;(have:decide (v<0∨(n:Int)≤v)=decide ((n:Int)≤v):=by rw[decide_eq_decide];omega);simp only[JE.named,this,Bool.true_and,Bool.not_true,Bool.false_and,j9]
theorem Hj (e:JE) (a b:Bool) (c:Int):(e.fail a c).fail b c=e.fail (a||b) c:=by
 cases e with
 |error d=>rfl
 |ok l=>cases a<;>cases b<;>rfl
def Hk (σ:PH) (x:Ex):Prop:=∀(cs:List Value) (b:Nat) (p:Option Addr) (n c:Nat) (bs:Value) (e:JE) (deep:Int),dL σ cs x→e.Ah→0≤deep→deep≤1000→
 ah Tryz.prog 170 #[ptr b,.agg cs.toArray,i64 deep] σ [bK b (.slice p n c) bs e] (aA fun r aj al=>r=.tuple #[]∧σ=aj∧al=[bK b (.slice p n c) bs (lT n deep x e)])
theorem Hl (σ:PH) (x:Ex):Hk σ x:=by
 refine Ex.ind (P:=Hk σ) ?_ x;intro op v k l ih cs b p n c bs e deep hx j3 xu Cy;obtain⟨pl,cl,rfl,-,-,-,hl⟩:=hx.inv;simp only[Ex.op,Ex.v,Ex.n,Ex.l] at hl⊢;clear hx
 have hlen:l.length≤maxLen:=by
  obtain⟨q,d,e1,h1,h2⟩:=hl.shape;omega
 simp only[maxLen] at hlen
 cases e with
 |error d=>
  rw[oq];(refine lS Tryz.func170 ?_;refine aU ?_;refine cP fun g4=>?_;refine a8 ?_);(first|refine XA.aW (R:=bK b (.slice p n c) bs (.error d)) zL (bK.fT) ?_|refine az.aW (R:=bK b (.slice p n c) bs (.error d)) zL (bK.fT) ?_|refine DA.aW (R:=bK b (.slice p n c) bs (.error d)) zL (bK.fT) ?_);rintro q h0;refine gX ?_;refine a8 ?_;refine XA.aY rfl (aM h0) ?_;refine aU ?_;exact ao.ret (aB.none rfl) (ar.eS zE (bK.Ag h0)) ⟨rfl,rfl,rfl⟩
 |ok a=>
  (refine lS Tryz.func170 ?_;refine aU ?_;refine cP fun g4=>?_;refine a8 ?_);(first|refine XA.aW (R:=bK b (.slice p n c) bs (.ok a)) zL (bK.ll) ?_|refine az.aW (R:=bK b (.slice p n c) bs (.ok a)) zL (bK.ll) ?_|refine DA.aW (R:=bK b (.slice p n c) bs (.ok a)) zL (bK.ll) ?_);rintro⟨⟩-;refine gX ?_;refine dB ?_;refine az.eX (ar.eT (Θ:=[_]) zD (bK.Hb (l:=a) rfl) (ar.refl _)) ?_;refine yC (Lr σ b (.slice p n c) bs (.ok a) deep j3) ?_;refine a8 ?_;refine yC (sZ σ op) ?_;refine bJ ?_;refine yC (s7 σ b _ bs _ (decide (partsOf op<0)) 2 au) ?_;refine aR ?_;refine yC (s7 σ b _ bs _ (decide (partsOf op≠(l.length:Int))) 5 au) ?_;refine bg ?_;obtain⟨E2,xx⟩:∃E2,E2=JE.fail (JE.fail (JE.one (.ok a) deep) (decide (partsOf op<0)) 2) (decide (partsOf op≠(l.length:Int))) 5:=⟨_,rfl⟩;rw[←xx];refine az.join (List.take_append_drop 6 _).symm [(30,30),(33,38)] (fun _:Unit=>[(30,ptr b),(38,.bool (decide (k≠0∧op≠1)))]) (fun _ aj al=>σ=aj∧al=[bK b (.slice p n c) bs E2,aw g4 [i64 op,i64 v,i64 k,.slice pl l.length cl] 138]) ?_ ?_
  ·by_cases h1:op=1
   ·rw[show decide (k≠0∧op≠1)=false from aE (fun h=>h.2 h1)];refine bJ ?_;refine⟨bQ,(),_,zM,?_,⟨rfl,rfl⟩⟩
    ·exact zE
   ·rw[show decide (k≠0∧op≠1)=decide (k≠0) from by rw[decide_eq_decide];exact⟨fun h=>h.1,fun h=>⟨h,h1⟩⟩];refine bJ ?_;refine⟨bQ,(),_,zM,?_,⟨rfl,rfl⟩⟩
    ·exact zE
  rintro-δ1 _ _ ⟨rfl,rfl⟩;dsimp only[dq,List.foldl];refine yC (s7 σ b _ bs E2 (decide (k≠0∧op≠1)) 5 au) ?_;refine bt ?_;obtain⟨E3,SM⟩:∃E3,E3=JE.fail E2 (decide (k≠0∧op≠1)) 5:=⟨_,rfl⟩;rw[←SM];refine az.join (List.take_append_drop 6 _).symm [(40,40),(42,42),(45,50)] (fun _:Unit=>[(40,ptr b),(42,i64 v),(50,.bool (decide (op=2∨op=3)))]) (fun _ aj al=>σ=aj∧al=[bK b (.slice p n c) bs E3,aw g4 [i64 op,i64 v,i64 k,.slice pl l.length cl] 138]) ?_ ?_
  ·by_cases h1:op=2
   ·rw[show decide (op=2∨op=3)=true from aM (.inl h1)];refine bJ ?_;refine⟨bQ,(),_,zM,?_,⟨rfl,rfl⟩⟩
    ·exact zE
   ·rw[show decide (op=2∨op=3)=decide (op=3) from by rw[decide_eq_decide];omega];refine bJ ?_;refine⟨bQ,(),_,zM,?_,⟨rfl,rfl⟩⟩
    ·exact zE
  rintro-Dc _ _ ⟨rfl,rfl⟩;dsimp only[dq,List.foldl];refine yC (xA σ b p n c bs E3 v (decide (op=2∨op=3))) ?_
  have hH:JE.named E3 n v (decide (op=2∨op=3))=ec n deep op v k l.length (.ok a):=by
   rw[SM,xx,Hj,ec];congr 2;rw[←Bool.decide_or,decide_eq_decide];constructor
   ·rintro(h|h)
    ·exact .inl (fun e=>h e.symm)
    ·exact .inr h
   ·rintro(h|h)
    ·exact .inl (fun e=>h e.symm)
    ·exact .inr h
  rw[hH];clear hH SM xx;(refine bJ ?_;refine XA.gen [(0,_),(2,_),(4,_),(7,_)] iX fun δ=>?_);dsimp only[List.foldl];refine XA.loop [(7,7),(52,74)] (fun q:Nat=>[(7,i64 q)]) (fun q aj al=>σ=aj∧q≤l.length∧al=[bK b (.slice p n c) bs (iD n (deep+1) (l.take q) (ec n deep op v k l.length (.ok a))),aw g4 [i64 op,i64 v,i64 k,.slice pl l.length cl] 138]) (fun q=>l.length-q) 0 eb (Δ0:=_) ?_ (⟨rfl,cg _,rfl⟩) ?_
  ·rw[List.take_zero,iD];exact zE
  rintro q δ _ _ ⟨rfl,hq,rfl⟩;dsimp only[dq,List.foldl];have uG:(iD n (deep+1) (l.take q) (ec n deep op v k l.length (.ok a))).Ah:=lW (Down.iD n (l.take q)) (lW (Down.ec n op v k l.length) j3 deep) (deep+1);have agv:(ec n deep op v k l.length (.ok a)).Ah:=lW (Down.ec n op v k l.length) j3 deep;(have De:lT n deep (.mk op v k l) (.ok a)=iD n (deep+1) l (ec n deep op v k l.length (.ok a)):=by rw[lT]);by_cases aV:q<l.length
  ·obtain⟨x',lF⟩:∃x',l[q]? =some x':=⟨_,b9 aV⟩;obtain⟨g,o,row,rfl,mJ,mZ,bG⟩:=hl.at lF;have jd:=mJ.dT;have e1:=Ae n (deep+1) l q x' (ec n deep op v k l.length (.ok a)) lF;refine aR ?_
   cases gP:iD n (deep+1) (l.take q) (ec n deep op v k l.length (.ok a)) with
   |error c'=>
    have gG:iD n (deep+1) l (ec n deep op v k l.length (.ok a))=.error c':=by
     have:=xr n (deep+1) (l.take q) (l.drop q) (ec n deep op v k l.length (.ok a));rw[List.take_append_drop,gP,pJ] at this;exact this
    (first|refine XA.aW (R:=bK b (.slice p n c) bs (.error c')) zL (bK.fT) ?_|refine az.aW (R:=bK b (.slice p n c) bs (.error c')) zL (bK.fT) ?_|refine DA.aW (R:=bK b (.slice p n c) bs (.error c')) zL (bK.fT) ?_);rintro lf h0;refine gX ?_;refine bg ?_;rw[De,gG];refine XA.aI rfl (aE h0) ?_;refine bY ?_;exact ao.normal (aB.none rfl) (ar.eS zE (bK.Ag h0)) ⟨rfl,rfl,rfl⟩
   |ok a2=>
    have aaL:deep≤12:=by
     apply Br (e:=.ok a)
     cases He:JE.one (.ok a) deep with
     |ok _=>rfl
     |error c'=>exfalso;rw[ec,He,iE,iE,qA,pJ] at gP;cases gP
    rw[gP] at e1 uG;(first|refine XA.aW (R:=bK b (.slice p n c) bs (.ok a2)) zL (bK.ll) ?_|refine az.aW (R:=bK b (.slice p n c) bs (.ok a2)) zL (bK.ll) ?_|refine DA.aW (R:=bK b (.slice p n c) bs (.ok a2)) zL (bK.ll) ?_);rintro⟨⟩-;refine gX ?_;refine ra ?_;refine az.eX (ar.eT (Θ:=[_]) zD (bK.Hb (l:=a2) rfl) (ar.refl _)) ?_;refine yC (ih x' (fg lF) row b p n c bs (.ok a2) (deep+1) mJ uG ad ad) ?_;refine bt ?_;refine⟨bQ,q+1,_,zM,?_,⟨rfl,aV,by rw[e1]⟩,ad⟩
    ·exact zE
  (have SH:q=l.length:=by omega);subst SH;rw[List.take_length,De];refine dV ?_;refine XA.aI rfl zY ?_;refine bY ?_;exact iN rfl ⟨rfl,rfl,rfl⟩
def kC (σ:PH) (l:List St):Prop:=∀(sl:Value) (b:Nat) (p:Option Addr) (n c:Nat) (bs:Value) (e:JE) (deep:Int),bV 12 dF σ sl l→e.Ah→0≤deep→(deep≤900∧(e.isOk=true→deep≤13))→
 ah Tryz.prog 131 #[ptr b,sl,i64 deep] σ [bK b (.slice p n c) bs e] (aA fun r aj al=>r=.tuple #[]∧σ=aj∧al=[bK b (.slice p n c) bs (ej n deep l e)])
theorem Pf (op:Int) (ex fx:Ex) (kb ke:Nat) (s:JE):(s.fail ((!dE op&&!j0 ex)||(!fS op&&!j0 fx)) 5).fail ((!jw op&&decide ((0:Int)<(kb:Int)))||(!jj op&&decide ((0:Int)<(ke:Int)))) 5=s.fail (lU op ex fx kb ke) 5:=by
 rw[Hj,lU];congr 1;simp only[Bool.or_assoc]
theorem xB (σ:PH) (l:List St) (ih:∀x∈l,kC σ x.body∧kC σ x.dn):kC σ l:=by
 intro sl b p n c bs e deep hl j3 xu ⟨Cy,aaM⟩;obtain⟨pl,cl,rfl,hle,Hd⟩:=hl.shape;(have hlen:l.length≤maxLen:=by omega);simp only[maxLen] at hlen;(refine lS Tryz.func131 ?_;refine a8 ?_;refine XA.gen [(0,_),(1,_),(2,_),(6,_)] iX fun δ=>?_);dsimp only[List.foldl];refine XA.loop [(6,122)] (fun q:Nat=>[(6,i64 q)]) (fun q aj al=>σ=aj∧q≤l.length∧al=[bK b (.slice p n c) bs (ej n deep (l.take q) e)]) (fun q=>l.length-q) 0 eb (Δ0:=_) ?_ (⟨rfl,cg _,rfl⟩) ?_
 ·rw[List.take_zero,ej];exact zE
 rintro q δ _ _ ⟨rfl,hq,rfl⟩;dsimp only[dq,List.foldl];have uG:(ej n deep (l.take q) e).Ah:=lW (Down.ej n (l.take q)) j3 deep;by_cases aV:q<l.length
 ·obtain⟨x,hx⟩:∃x,l[q]? =some x:=⟨_,b9 aV⟩;obtain⟨g,o,row,rfl,mJ,mZ,bG⟩:=hl.at hx;have jd:=mJ.dT;have e1:=Af n deep l q x e hx;obtain⟨Vp,Kv⟩:=ih x (fg hx);refine bt ?_
  cases gP:ej n deep (l.take q) e with
  |error c'=>
   have gG:ej n deep l e=.error c':=by
    have:=xt n deep (l.take q) (l.drop q) e;rw[List.take_append_drop,gP,gY] at this;exact this
   rw[gG];(first|refine XA.aW (R:=bK b (.slice p n c) bs (.error c')) zL (bK.fT) ?_|refine az.aW (R:=bK b (.slice p n c) bs (.error c')) zL (bK.fT) ?_|refine DA.aW (R:=bK b (.slice p n c) bs (.error c')) zL (bK.fT) ?_);rintro lf h0;refine gX ?_;refine bg ?_;refine XA.aI rfl (aE h0) ?_;refine bY ?_;exact ao.normal (aB.none rfl) (ar.eS zE (bK.Ag h0)) ⟨rfl,rfl,rfl⟩
  |ok a=>
   have hdp:deep≤13:=aaM (by
    cases e with
    |ok _=>rfl
    |error c'=>rw[gY] at gP;cases gP)
   rw[gP] at e1 uG;obtain⟨op,v,ex,fx,body,dn⟩:=x;obtain⟨pe,de,pf,df,pb,cb,pl',cl',rfl,-,-,jB,y0,sY,wc⟩:=mJ.Ad;simp only[St.op,St.v,St.e,St.f,St.body,St.dn] at jB y0 sY wc bG jd mZ Vp Kv;clear mJ;obtain⟨nE,nF,nV,nB,nO⟩:=ln op;obtain⟨qE,hqE⟩:∃q,q=dE op:=⟨_,rfl⟩;obtain⟨qF,hqF⟩:∃q,q=fS op:=⟨_,rfl⟩;obtain⟨qV,hqV⟩:∃q,q=k7 op:=⟨_,rfl⟩;obtain⟨qB,hqB⟩:∃q,q=jw op:=⟨_,rfl⟩;obtain⟨qO,hqO⟩:∃q,q=jj op:=⟨_,rfl⟩;rw[←hqE] at nE;rw[←hqF] at nF;rw[←hqV] at nV;rw[←hqB] at nB;rw[←hqO] at nO;obtain⟨cells,cB⟩:∃l,l=[i64 op,i64 v,i64 ex.op,i64 ex.v,i64 ex.n,.slice pe ex.l.length de,i64 fx.op,i64 fx.v,i64 fx.n,.slice pf fx.l.length df,.slice pb body.length cb,.slice pl' dn.length cl']:=⟨_,rfl⟩;obtain⟨ne,ix⟩:∃q,q=j0 ex:=⟨_,rfl⟩;obtain⟨nf,SJ⟩:∃q,q=j0 fx:=⟨_,rfl⟩;obtain⟨A1,zm⟩:∃A,A=(!qE&&!ne):=⟨_,rfl⟩;obtain⟨A2,rf⟩:∃A,A=(A1||(!qF&&!nf)):=⟨_,rfl⟩;obtain⟨A3,Pb⟩:∃A,A=(!qB&&decide ((0:Int)<(body.length:Int))):=⟨_,rfl⟩;obtain⟨A4,Lm⟩:∃A,A=(A3||(!qO&&decide ((0:Int)<(dn.length:Int)))):=⟨_,rfl⟩;(have Dd:∀s:JE,(s.fail A2 5).fail A4 5=s.fail (lU op ex fx body.length dn.length) 5:=fun s=>by rw[rf,Lm,zm,Pb,ix,SJ,hqE,hqF,hqB,hqO,Pf]);(first|refine XA.aW (R:=bK b (.slice p n c) bs (.ok a)) zL (bK.ll) ?_|refine az.aW (R:=bK b (.slice p n c) bs (.ok a)) zL (bK.ll) ?_|refine DA.aW (R:=bK b (.slice p n c) bs (.ok a)) zL (bK.ll) ?_);rintro⟨⟩-;refine gX ?_;refine lR ?_;refine di (fun g7=>?_) (ae rfl);refine bg ?_;refine az.eX (ar.eT (Θ:=[_]) zD (bK.Hb (l:=a) rfl) (ar.refl _)) ?_;refine yC (Lr σ b (.slice p n c) bs (.ok a) deep uG) ?_;refine bg ?_;obtain⟨E1,Cz⟩:∃E1,E1=JE.one (.ok a) deep:=⟨_,rfl⟩;rw[←Cz,←cB];refine az.join (List.take_append_drop 6 _).symm [(28,28),(31,36)] (fun _:Unit=>[(28,ptr b),(36,.bool (decide (op<1∨7<op)))]) (fun _ aj al=>σ=aj∧al=[bK b (.slice p n c) bs E1,aw g7 cells 140]) ?_ ?_
   ·rw[cB];by_cases h1:op<1
    ·rw[show decide (op<1∨7<op)=true from aM (.inl h1)];refine bJ ?_;refine⟨bQ,(),_,zM,?_,⟨rfl,rfl⟩⟩
     ·exact zE
    ·rw[show decide (op<1∨7<op)=decide (7<op) from by rw[decide_eq_decide];omega];refine bJ ?_;refine⟨bQ,(),_,zM,?_,⟨rfl,rfl⟩⟩
     ·exact zE
   rintro-δ1 _ _ ⟨rfl,rfl⟩;dsimp only[dq,List.foldl];rw[cB];refine yC (s7 σ b _ bs E1 (decide (op<1∨7<op)) 2 au) ?_;refine bg ?_;obtain⟨E2,xx⟩:∃E2,E2=JE.fail E1 (decide (op<1∨7<op)) 2:=⟨_,rfl⟩;rw[←xx];refine yC (eG σ op 101) ?_;rw[nE,←cB];refine bS ?_;refine az.join (List.take_append_drop 7 _).symm [(38,38),(43,49)] (fun _:Unit=>[(38,ptr b),(49,.bool A1)]) (fun _ aj al=>σ=aj∧al=[bK b (.slice p n c) bs E2,aw g7 cells 140]) ?_ ?_
   ·rw[cB]
    cases hn:qE with
    |true=>
     rw[show A1=false by rw[zm,hn];rfl];refine bt ?_;refine⟨bQ,(),_,zM,?_,⟨rfl,rfl⟩⟩
     ·exact zE
    |false=>
     rw[show A1=!ne by rw[zm,hn];rfl];refine cx ?_;refine zG ?_;refine yC (Hi σ _ _ jB) ?_;rw[←ix];refine dc ?_;refine⟨bQ,(),_,zM,?_,⟨rfl,rfl⟩⟩
     ·exact zE
   rintro-Dc _ _ ⟨rfl,rfl⟩;dsimp only[dq,List.foldl];refine az.join (List.take_append_drop 11 _).symm [(38,38),(50,60)] (fun _:Unit=>[(38,ptr b),(60,.bool A2)]) (fun _ aj al=>σ=aj∧al=[bK b (.slice p n c) bs E2,aw g7 cells 140]) ?_ ?_
   ·rw[cB]
    cases hB:A1 with
    |true=>
     rw[show A2=true by rw[rf,hB];rfl];refine dB ?_;refine⟨bQ,(),_,zM,?_,⟨rfl,rfl⟩⟩
     ·exact zE
    |false=>
     rw[hB,Bool.false_or] at rf;refine aU ?_;refine zG ?_;refine yC (eG σ op 102) ?_;rw[nF]
     cases hn:qF with
     |true=>
      rw[show A2=false by rw[rf,hn];rfl];refine aR ?_;refine⟨bQ,(),_,zM,?_,⟨rfl,rfl⟩⟩
      ·exact zE
     |false=>
      rw[show A2=!nf by rw[rf,hn];rfl];refine bY ?_;refine zG ?_;refine yC (Hi σ _ _ y0) ?_;rw[←SJ];refine dc ?_;refine⟨bQ,(),_,zM,?_,⟨rfl,rfl⟩⟩
      ·exact zE
   rintro-Zf _ _ ⟨rfl,rfl⟩;dsimp only[dq,List.foldl];rw[cB];refine yC (s7 σ b _ bs E2 A2 5 au) ?_;refine bg ?_;obtain⟨E3,SM⟩:∃E3,E3=JE.fail E2 A2 5:=⟨_,rfl⟩;rw[←SM];refine yC (eG σ op 98) ?_;rw[nB,←cB];refine bS ?_;refine az.join (List.take_append_drop 7 _).symm [(62,62),(67,73)] (fun _:Unit=>[(62,ptr b),(73,.bool A3)]) (fun _ aj al=>σ=aj∧al=[bK b (.slice p n c) bs E3,aw g7 cells 140]) ?_ ?_
   ·rw[cB]
    cases hn:qB with
    |true=>
     rw[show A3=false by rw[Pb,hn];rfl];refine bt ?_;refine⟨bQ,(),_,zM,?_,⟨rfl,rfl⟩⟩
     ·exact zE
    |false=>
     rw[show A3=decide ((0:Int)<(body.length:Int)) by rw[Pb,hn];rfl];refine bt ?_;refine⟨bQ,(),_,zM,?_,⟨rfl,rfl⟩⟩
     ·exact zE
   rintro-δ4 _ _ ⟨rfl,rfl⟩;dsimp only[dq,List.foldl];refine az.join (List.take_append_drop 11 _).symm [(62,62),(74,84)] (fun _:Unit=>[(62,ptr b),(84,.bool A4)]) (fun _ aj al=>σ=aj∧al=[bK b (.slice p n c) bs E3,aw g7 cells 140]) ?_ ?_
   ·rw[cB]
    cases hB:A3 with
    |true=>
     rw[show A4=true by rw[Lm,hB];rfl];refine dB ?_;refine⟨bQ,(),_,zM,?_,⟨rfl,rfl⟩⟩
     ·exact zE
    |false=>
     rw[hB,Bool.false_or] at Lm;refine aU ?_;refine zG ?_;refine yC (eG σ op 111) ?_;rw[nO]
     cases hn:qO with
     |true=>
      rw[show A4=false by rw[Lm,hn];rfl];refine aR ?_;refine⟨bQ,(),_,zM,?_,⟨rfl,rfl⟩⟩
      ·exact zE
     |false=>
      rw[show A4=decide ((0:Int)<(dn.length:Int)) by rw[Lm,hn];rfl];refine aR ?_;refine⟨bQ,(),_,zM,?_,⟨rfl,rfl⟩⟩
      ·exact zE
   rintro-δ5 _ _ ⟨rfl,rfl⟩;dsimp only[dq,List.foldl];rw[cB];refine yC (s7 σ b _ bs E3 A4 5 au) ?_;refine cx ?_;rw[show JE.fail E3 A4 5=JE.fail E2 (lU op ex fx body.length dn.length) 5 by rw[SM,Dd]];obtain⟨H,hH⟩:∃H,H=gh n deep op v ex fx body.length dn.length (.ok a):=⟨_,rfl⟩;(have Rf:H.Ah:=by rw[hH];exact lW (Down.gh n op v ex fx body.length dn.length) uG deep);(have hHn:JE.named (JE.fail E2 (lU op ex fx body.length dn.length) 5) n v qV=H:=by rw[hH,gh,xx,Cz,hqV]);obtain⟨H1,Pc⟩:∃H1,H1=if qE=true then lT n (deep+1) ex H else H:=⟨_,rfl⟩
   have Ln:H1.Ah:=by
    rw[Pc];split
    ·exact lW (Down.lT n ex) Rf (deep+1)
    ·exact Rf
   obtain⟨H2,Pd⟩:∃H2,H2=if qF=true then lT n (deep+1) fx H1 else H1:=⟨_,rfl⟩
   have Lo:H2.Ah:=by
    rw[Pd];split
    ·exact lW (Down.lT n fx) Ln (deep+1)
    ·exact Ln
   have Df:rO n deep (.mk op v ex fx body dn) (.ok a)=ej n (deep+1) dn (ej n (deep+1) body H2):=by
    rw[rO,rN,←hqE,←hqF,←hH,←Pc,←Pd]
   have hdd:H2.isOk=true→deep≤12:=fun h=>by
    apply Br (e:=.ok a)
    cases h1:JE.one (.ok a) deep with
    |ok _=>rfl
    |error c'=>
     exfalso;(have e0:H=.error c':=by rw[hH,gh,h1,iE,iE,qA]);(have e2:H2=.error c':=by rw[Pd,Pc,e0];simp);rw[e2] at h;cases h
   have aaP:(ej n (deep+1) body H2).isOk=true→deep≤12:=fun h=>hdd (by
    cases h2:H2 with
    |ok _=>rfl
    |error c'=>rw[h2,gY] at h;cases h)
   clear Dd zm rf Pb Lm Cz SM ix SJ hH;refine et 7 2034 [6] (ar.bB (R:=aw g7 _ _) zL (ar.nil _)) ?_;refine dc ?_;refine aP.fw rfl rfl Gd.free (ax.cE (eG σ op 118) rfl) ?_;rintro _ _ _ ⟨_,⟨rfl,rfl,rfl⟩,rfl⟩;refine stays (aP.cl ?_);rw[nV];refine aP.b7 rfl rfl Gd.free aC (ax.cE (xA σ b p n c bs _ v qV) rfl) ?_;rintro _ _ _ ⟨_,⟨rfl,rfl,rfl⟩,rfl⟩;refine aP.cl ?_;rw[hHn];refine bg ?_;refine yC (eG σ op 101) ?_;rw[nE,←cB];refine aU ?_;refine XA.join [(96,101)] (fun _:Unit=>[]) (fun _ aj al=>σ=aj∧al=[bK b (.slice p n c) bs H1,aw g7 cells 140]) ?_ ?_
   ·rw[cB];refine XA.cond rfl (fun hq=>?_) (fun hq=>?_)
    ·rw[show H1=lT n (deep+1) ex H by rw[Pc,aq hq]];refine a8 ?_;refine yC (Hl σ ex _ b p n c bs H (deep+1) jB Rf ad ad) ?_;refine aU ?_;refine⟨bQ,(),_,zM,?_,⟨rfl,rfl⟩⟩
     ·exact zE
    ·rw[show H1=H by rw[Pc,ag (by rw[hq];decide)]];refine aU ?_;refine⟨bQ,(),_,zM,?_,⟨rfl,rfl⟩⟩
     ·exact zE
   rintro-δ6 _ _ ⟨rfl,rfl⟩;dsimp only[dq,List.foldl];refine bS ?_;rw[cB];refine dc ?_;refine yC (eG σ op 102) ?_;rw[nF,←cB];refine aU ?_;refine XA.join [(105,110)] (fun _:Unit=>[]) (fun _ aj al=>σ=aj∧al=[bK b (.slice p n c) bs H2,aw g7 cells 140]) ?_ ?_
   ·rw[cB];refine XA.cond rfl (fun hq=>?_) (fun hq=>?_)
    ·rw[show H2=lT n (deep+1) fx H1 by rw[Pd,aq hq]];refine a8 ?_;refine yC (Hl σ fx _ b p n c bs H1 (deep+1) y0 Ln ad ad) ?_;refine aU ?_;refine⟨bQ,(),_,zM,?_,⟨rfl,rfl⟩⟩
     ·exact zE
    ·rw[show H2=H1 by rw[Pd,ag (by rw[hq];decide)]];refine aU ?_;refine⟨bQ,(),_,zM,?_,⟨rfl,rfl⟩⟩
     ·exact zE
   rintro-δ7 _ _ ⟨rfl,rfl⟩;dsimp only[dq,List.foldl];refine bS ?_;rw[cB];refine bg ?_;refine yC (Vp _ b p n c bs H2 (deep+1) sY Lo ad ⟨ad,fun h=>by have:=hdd h;omega⟩) ?_;refine bJ ?_;refine yC (Kv _ b p n c bs _ (deep+1) wc (lW (Down.ej n body) Lo (deep+1)) ad ⟨ad,fun h=>by have:=aaP h;omega⟩) ?_;refine bt ?_;refine⟨bQ,q+1,_,zM,?_,⟨rfl,aV,by rw[e1,Df]⟩,ad⟩
   ·exact zE
 ·(have SH:q=l.length:=by omega);subst SH;rw[List.take_length];refine dC ?_;refine XA.aI rfl zY ?_;refine bY ?_;exact iN rfl ⟨rfl,rfl,rfl⟩
theorem W9 (σ:PH) (x:St):kC σ x.body∧kC σ x.dn:=by
 refine St.ind (P:=fun x=>kC σ x.body∧kC σ x.dn) ?_ x;intro op v e f body dn ih jh;exact⟨xB σ body ih,xB σ dn jh⟩
theorem Ls (σ:PH) (l:List St):kC σ l:=xB σ l (fun x _=>W9 σ x)
theorem Pg (σ:PH) (cs:List Value) (p:Pr) (hp:gT σ cs p):ah Tryz.prog 81 #[.agg cs.toArray] σ [] (aA fun v aj al=>v=i64 (bZ p)∧σ=aj∧al=[]):=by
 obtain⟨vs,bs,rfl,hv,hb⟩:=hp;obtain⟨pv,cv,rfl,jx,Hf⟩:=hv.shape;obtain⟨pb,cb,rfl,Ph,hbm⟩:=hb.shape;obtain⟨l,body⟩:=p;simp only at hv hb jx Ph⊢;(have hlen:l.length≤maxLen:=by omega);simp only[maxLen] at hlen;refine cM Tryz.func81 ?_;refine aU ?_;refine cP fun g1=>?_;refine bm ?_;refine XA.bE rfl (fun h8=>?_) (fun h8=>?_)
 ·refine bg ?_
  have hr:bZ ⟨l,body⟩=3:=by
   (have:checkVars l=3:=by rw[checkVars,aq ad]);rw[bZ,this,aq au]
  exact bC rfl rfl ⟨by rw[hr],rfl,rfl⟩
 (have Bs:checkVars l=gj [] 0 l:=by rw[checkVars,ag ad]);(have Rh:∀c,gj [] 0 l=c→c≠0→bZ ⟨l,body⟩=c:=fun c h1 h2=>by rw[bZ,aq (by rw[Bs,h1];exact h2),Bs,h1]);(refine eA ?_;refine XA.gen [(1,_),(2,_),(3,_),(4,_)] iX fun δ=>?_);dsimp only[List.foldl];refine XA.loop [(2,6),(12,60)] (fun q:Nat×Int=>[(4,i64 q.1),(3,i64 q.2)]) (fun q aj al=>σ=aj∧q.1≤l.length∧(0≤q.2∧q.2≤48∧gj (l.take q.1) q.2 (l.drop q.1)=gj [] 0 l)∧al=[aw g1 [.slice pv l.length cv,.slice pb body.length cb] 69]) (fun q=>l.length-q.1) (0,0) mO (Δ0:=_) ?_ (⟨rfl,cg _,⟨Int.le_refl _,au,rfl⟩,rfl⟩) ?_
 ·exact zE
 rintro⟨k,n⟩ δ _ _ ⟨rfl,hk,⟨o5,rQ,jC⟩,rfl⟩;dsimp only[dq,List.foldl];have hk:k≤l.length:=hk;have o5:0≤n:=o5;have rQ:n≤48:=rQ;have jC:gj (l.take k) n (l.drop k)=gj [] 0 l:=jC;refine aR ?_;refine XA.bE rfl (fun aV=>?_) (fun aV=>?_)
 ·(have aV:k<l.length:=by omega);obtain⟨x,hx⟩:∃x,l[k]? =some x:=⟨_,b9 aV⟩;obtain⟨gg,o,row,rfl,⟨rfl,⟨Bt,Cu⟩,Bu⟩,mZ,bG⟩:=hv.at hx;rw[eC hx,gj] at jC;refine cp ?_;refine di (fun g5=>?_) (ae rfl);refine bJ ?_;refine yC (Hh σ x.name Bu) ?_
  cases W7:dW x.name with
  |false=>
   rw[aq W7] at jC;rw[Rh 8 jC.symm au];refine dC ?_;exact bC rfl rfl ⟨rfl,rfl,rfl⟩
  |true=>
   rw[ag (by simp[W7])] at jC;refine dB ?_;refine XA.loop [(2,2),(6,6),(28,41)] (fun j:Nat=>[(6,i64 j)]) (fun j aj al=>σ=aj∧j≤k∧(∀(i:Nat) w,i<j→l[i]? =some w→w.name≠x.name)∧al=[aw g5 [.string x.name,i64 x.size] 134,aw g1 [.slice (some ⟨gg,o,none⟩) l.length cv,.slice pb body.length cb] 69]) (fun j=>k-j) 0 eb (Δ0:=_) ?_ (⟨rfl,cg _,fun i w h=>absurd h (Nat.not_lt_zero _),rfl⟩) ?_
   ·exact zE
   rintro j Dc _ _ ⟨rfl,hj,bu,rfl⟩;dsimp only[dq,List.foldl];refine bJ ?_;refine XA.bE rfl (fun I7=>?_) (fun I7=>?_)
   ·(have I7:j<k:=by omega);obtain⟨y,hy⟩:∃y,l[j]? =some y:=⟨_,b9 ad⟩;obtain⟨gg',o',C3,Xa,⟨rfl,-,-⟩,aaQ,Dg⟩:=hv.at hy;simp only[Option.some.injEq,Addr.mk.injEq,and_true] at Xa;obtain⟨rfl,rfl⟩:=Xa;have r0:cH σ gg (o+j*2) [.string y.name]:=Dg.sub (j:=0) rfl;refine dc ?_;refine et 9 2433 [] (ar.bB (R:=aw g1 _ _) zL (ar.bB (R:=aw g5 _ _) zL (ar.nil _))) ?_;refine bJ ?_;refine zu rfl rfl (Rd.fE rfl rfl) ?_;refine aU ?_;refine XA.bE rfl (fun he=>?_) (fun he=>?_)
    ·have hex:∃w∈l.take k,w.name=x.name:=⟨y,List.mem_iff_getElem?.2 ⟨j,by rw[List.getElem?_take,aq I7];exact hy⟩,he⟩;rw[aq hex] at jC;rw[Rh 9 jC.symm au];refine dC ?_;exact bC rfl rfl ⟨rfl,rfl,rfl⟩
    have eR:∀(i:Nat) w,i<j+1→l[i]? =some w→w.name≠x.name:=fun i w hi hw=>by
     rcases Nat.lt_or_ge i j with h|h
     ·exact bu i w h hw
     ·(have:i=j:=by omega);subst this;rw[hy] at hw;simp only[Option.some.injEq] at hw;subst hw;exact he
    refine bt ?_;refine⟨bQ,j+1,_,zM,?_,⟨rfl,I7,eR,rfl⟩,ad⟩
    ·exact zE
   (have aaR:j=k:=by omega);subst aaR
   have aaS:¬∃w∈l.take j,w.name=x.name:=fun⟨w,hw,e⟩=>by
    obtain⟨i,hi⟩:=List.mem_iff_getElem?.1 hw;rw[List.getElem?_take] at hi;split at hi
    ·exact bu i w (by assumption) hi e
    ·cases hi
   rw[ag aaS] at jC;by_cases hz:x.size<1
   ·rw[aq (.inl hz)] at jC;rw[Rh 1 jC.symm au];refine W0 ?_;exact bC rfl rfl ⟨rfl,rfl,rfl⟩
   by_cases hz3:48<x.size
   ·rw[aq (.inr ad)] at jC;rw[Rh 1 jC.symm au];refine W0 ?_;exact bC rfl rfl ⟨rfl,rfl,rfl⟩
   refine sT ?_;refine XA.bE rfl (fun FE=>?_) (fun FE=>?_)
   ·rw[aq (.inr ad)] at jC;rw[Rh 1 jC.symm au];refine bm ?_;exact bC rfl rfl ⟨rfl,rfl,rfl⟩
   rw[ag ad] at jC;refine dV ?_;refine⟨bQ,(j+1,n+x.size),_,zM,?_,⟨rfl,aV,⟨gF,gF,by rw[Ac hx];exact jC⟩,rfl⟩,gF⟩
   ·exact zE
 (have sC:k=l.length:=by omega);subst sC;rw[List.drop_length,gj] at jC;(have aaT:bZ ⟨l,body⟩=(ej l.length 0 body (.ok 150)).code:=by rw[bZ,ag (by rw[Bs,←jC];decide)]);rw[aaT];(refine bt ?_;refine cP fun Pj=>?_;refine bJ ?_;refine az.eX (ar.eT (Θ:=[aw Pj _ _]) zD (bK.Hb (l:=150) rfl) (ar.refl _)) ?_);refine yC (Ls σ body _ Pj pv l.length cv _ (.ok 150) 0 hb (fun l hl=>by simp only[Except.ok.injEq] at hl;omega) au ⟨au,fun _=>by decide⟩) ?_;refine dc ?_
 cases gP:ej l.length 0 body (.ok 150) with
 |ok a=>
  (first|refine XA.aW (R:=bK Pj _ _ (.ok a)) zL (bK.ll) ?_|refine az.aW (R:=bK Pj _ _ (.ok a)) zL (bK.ll) ?_|refine DA.aW (R:=bK Pj _ _ (.ok a)) zL (bK.ll) ?_);rintro⟨⟩-;refine gX ?_;refine bg ?_;exact bC rfl rfl ⟨rfl,rfl,rfl⟩
 |error c=>
  (first|refine XA.aW (R:=bK Pj _ _ (.error c)) zL (bK.fT) ?_|refine az.aW (R:=bK Pj _ _ (.error c)) zL (bK.fT) ?_|refine DA.aW (R:=bK Pj _ _ (.error c)) zL (bK.fT) ?_);rintro n2 h0;refine gX ?_;refine bg ?_;exact bC rfl rfl ⟨rfl,rfl,rfl⟩
theorem kt (σ:PH) (cs:List Value) (p:Pr) (v:Int) (hp:gT σ cs p) (hz:∀x∈p.vars,0≤x.size∧x.size≤1000) (hl:p.vars.length≤1000):
 ah Tryz.prog 49 #[.agg cs.toArray,i64 v] σ [] (aA fun r aj al=>r=i64 (cellOf p.vars v)∧σ=aj∧al=[]):=by
 obtain⟨vs,bs,rfl,hv,hb⟩:=hp;obtain⟨pv,cv,rfl,jx,Hf⟩:=hv.shape;obtain⟨m,hm⟩:∃m,m=min v.toNat p.vars.length:=⟨_,rfl⟩;(have eL:cellOf p.vars v=sizes (p.vars.take m):=by rw[cellOf,hm,←List.take_eq_take_min]);rw[eL];(refine cw Tryz.func49 ?_;refine aU ?_;refine cP fun g2=>?_;refine dh ?_;refine XA.gen [(1,_),(2,_),(4,_),(5,_),(6,_)] iX fun δ=>?_);dsimp only[List.foldl];refine XA.loop [(5,26)] (fun q:Nat×Int=>[(6,i64 q.1),(5,i64 q.2)]) (fun q aj al=>σ=aj∧q.1≤m∧q.2=sizes (p.vars.take q.1)∧al=[aw g2 [.slice pv p.vars.length cv,bs] 69]) (fun q=>m-q.1) (0,0) mO (Δ0:=_) ?_ (⟨rfl,cg _,rfl,rfl⟩) ?_
 ·exact zE
 rintro⟨k,n⟩ δ _ _ ⟨rfl,hk,hn,rfl⟩;dsimp only[dq,List.foldl];have hk:k≤m:=hk;have hn:n=sizes (p.vars.take k):=hn;have o6:=mQ (p.vars.take k) (fun y hy=>hz y (List.mem_of_mem_take hy));(have Lp:(p.vars.take k).length=k:=by rw[List.length_take];omega);by_cases h1:(k:Int)<v
 ·by_cases h2:k<p.vars.length
  ·obtain⟨x,hx⟩:∃x,p.vars[k]? =some x:=⟨_,b9 h2⟩;obtain⟨gg,o,row,rfl,⟨rfl,⟨Bt,Cu⟩,Bu⟩,mZ,bG⟩:=hv.at hx;have r1:cH σ gg (o+k*2+1) [i64 x.size]:=bG.sub (j:=1) rfl;have e1:=rP p.vars k x hx;have hxz:=hz x (fg hx);refine dh ?_;refine XA.aY rfl zY ?_;refine rM ?_;refine⟨bQ,(k+1,n+x.size),_,zM,?_,⟨rfl,gF,gF,rfl⟩,gF⟩
   ·exact zE
  ·(have W8:k=m:=by omega);subst W8;refine dh ?_;refine XA.aI rfl zY ?_;refine bm ?_;exact bC rfl rfl ⟨by rw[←hn],rfl,rfl⟩
 ·(have W8:k=m:=by omega);subst W8;refine dh ?_;refine XA.aI rfl zY ?_;refine bm ?_;exact bC rfl rfl ⟨by rw[←hn],rfl,rfl⟩
end Go.Proofs.YtgeoiflbjcehcaaGreatDoor
