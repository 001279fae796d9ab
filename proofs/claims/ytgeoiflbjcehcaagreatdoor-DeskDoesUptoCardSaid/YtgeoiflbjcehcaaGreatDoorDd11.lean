import Derived.Test.YtgeoiflbjcehcaaGreatDoorDd10
set_option maxHeartbeats 4000000
set_option maxRecDepth 2000
set_option linter.unusedVariables false
set_option linter.unusedSimpArgs false
namespace Go.Proofs.YtgeoiflbjcehcaaGreatDoor
open Go X
def tu (s:ByteArray):Nat→Nat→List Tk→Except Nat (List Tk)
 |0,_,acc=>.ok acc
 |f+1,i,acc=>if i<s.size then (if dH (aJ s i)=true then tu s f (i+1) acc else match gQ s i with
  |some t=>tu s f (i+t.text.size) (acc++[t])
  |none=>.error i)
  else .ok acc
theorem Ao (s:ByteArray) (f i:Nat) (acc:List Tk) (h:¬i<s.size):iY s f i acc=.ok acc:=by
 cases f with
 |zero=>rfl
 |succ f=>rw[iY,ag h]
theorem xN (s:ByteArray):∀(f i:Nat) (acc:List Tk) (f':Nat),s.size<i+f→s.size<i+bf dH s i+f'→tu s f i acc=iY s f' (i+bf dH s i) acc
 |0,i,acc,f',h,_=>by rw[tu,Ao _ _ _ _ ad]
 |f+1,i,acc,f',h,h'=>by
  rw[tu];by_cases hi:i<s.size
  ·rw[aq hi];by_cases hb:dH (aJ s i)=true
   ·(have e:bf dH s i=bf dH s (i+1)+1:=by rw[mR,aq ⟨hi,hb⟩]);rw[aq hb,e,show i+(bf dH s (i+1)+1)=i+1+bf dH s (i+1) by omega];exact xN s f (i+1) acc f' ad ad
   ·have e:bf dH s i=0:=pM (fun x=>hb x.2);simp only[e,Nat.add_zero] at h'⊢;obtain⟨g,rfl⟩:∃g,f'=g+1:=⟨f'-1,ad⟩;rw[ag hb,iY,aq hi]
    cases ho:gQ s i with
    |none=>rfl
    |some t=>
     obtain⟨-,h1,h2⟩:=qD hi ho;exact xN s f (i+t.text.size) (acc++[t]) g ad ad
  ·rw[ag hi,Ao _ _ _ _ ad]
theorem wi (σ:PH) (a b:Int):ah Tryz.prog 16 #[i64 a,i64 b] σ [] (aA fun v aj al=>v=.agg #[i64 a,i64 b]∧σ=aj∧al=[]):=by
 refine cw Tryz.func16 ?_;refine aU ?_;refine di (fun g4=>?_) (ae rfl);refine cp ?_;exact ao.ret (aB.Hn rfl rfl (Ld.bn (ae rfl) rfl zL rfl cK cJ)) (ar.nil _) ⟨rfl,rfl,rfl⟩
theorem Hx (σ:PH) (s:ByteArray) (hs:s.size≤100000000) (hT:py σ) (hE:kT σ):
 ah Tryz.prog 25 #[.string s] σ [] (aA fun v aj al=>v=(match eY s with|some n=>.tuple #[i64 n,.bool true]|none=>.tuple #[i64 0,.bool false])∧σ=aj∧al=[]):=by
 have Pm:=Bv σ s hs hE;refine cM Tryz.func25 ?_;refine bt ?_;refine zw rfl (ax.cE (Pm) rfl) ?_;rintro v _ _ ⟨_,⟨s9,rfl,rfl⟩,rfl⟩;refine az.cl ?_;rcases s9 with ⟨n,hn,rfl⟩|⟨zc,n,a,rfl⟩
 ·obtain⟨o5,rQ⟩:=iR hn;rw[nH hn];refine cp ?_;refine zO rfl (Rd.uI nb.choose_spec rfl) ?_;refine aU ?_;refine zG ?_;refine yC (uJ σ n o5 rQ hT) ?_;refine bS ?_;(first|(refine zG ?_;refine zO rfl (Rd.neqs rfl rfl) ?_)|refine zH ?_);refine cx ?_;by_cases hq:cY n=s
  ·(have Pn:¬(cY n≠s):=fun h=>h hq);rw[aq hq];refine XA.aI rfl (by first|rfl|exact aE Pn) ?_;refine aR ?_;exact ao.ret (aB.two rfl rfl rfl) (ar.nil _) ⟨rfl,rfl,rfl⟩
  ·rw[ag hq];refine XA.aY rfl (by first|rfl|exact aM hq) ?_;refine bJ ?_;exact ao.ret (aB.two rfl rfl rfl) (ar.nil _) ⟨rfl,rfl,rfl⟩
 ·rw[oA zc];refine cp ?_;refine zO rfl (Rd.uH nb.choose_spec rfl) ?_;refine bY ?_;(first|(refine zG ?_;refine zO rfl (Rd.neqs rfl rfl) ?_)|refine zH ?_);refine bm ?_;exact ao.ret (aB.two rfl rfl rfl) (ar.nil _) ⟨rfl,rfl,rfl⟩
theorem ma (σ:PH) {s:ByteArray} {m:Int} (hs:s.size≤100000000) (hT:py σ) (hE:kT σ) (h:eY s=some m):
 ah Tryz.prog 25 #[.string s] σ [] (aA fun v aj al=>v=.tuple #[i64 m,.bool true]∧σ=aj∧al=[]):=by
 have:=Hx σ s hs hT hE;rw[h] at this;exact this
theorem mc (σ:PH) {s:ByteArray} (hs:s.size≤100000000) (hT:py σ) (hE:kT σ) (h:eY s=none):
 ah Tryz.prog 25 #[.string s] σ [] (aA fun v aj al=>v=.tuple #[i64 0,.bool false]∧σ=aj∧al=[]):=by
 have:=Hx σ s hs hT hE;rw[h] at this;exact this
theorem Pv (σ:PH) (s:ByteArray) (hs:s.size≤100000000) (hT:py σ) (hE:kT σ):
 ah Tryz.prog 75 #[.string s] σ [] (aA fun v aj al=>∃sl,v=.tuple #[sl,.agg #[i64 (pN (fy s)),i64 (Dm (fy s))]]∧bV 4 je aj sl (okL (fy s))∧σ.sub aj∧al=[]):=by
 by_cases h6:6000<s.size
 ·(have e:fy s=.error (3,6000):=by rw[fy,aq h6]);rw[e];refine cM Tryz.func75 ?_;refine cx ?_;refine di (fun g3=>?_) (ae rfl);refine aR ?_;refine iQ ?_;refine aU ?_;refine yC (wi σ 3 6000) ?_;refine a8 ?_;exact ao.ret (aB.Ji rfl rfl rfl (Ld.bn (ae rfl) rfl zL rfl cK cJ)) (ar.nil _) ⟨_,rfl,bV.nil _ _ _,.refl _,rfl⟩
 have h0:=jq dH s (i:=0) ad;obtain⟨R,hR⟩:∃R,tu s (s.size+1) 0 []=R:=⟨_,rfl⟩
 have hP:fy s=Lv R:=by
  have:=xN s (s.size+1) 0 [] (s.size+1) ad ad;rw[Nat.zero_add] at this;rw[fy,ag h6,←this,hR]
 refine cM Tryz.func75 ?_;refine cx ?_;refine di (fun g3=>?_) (ae rfl);(refine aR ?_;refine ik ?_;refine eA ?_;refine XA.eX (ar.dU (e:=185) (size:=4) (ar.refl _)) ?_;refine XA.gen [(0,_),(2,_),(3,_),(4,_),(5,_)] iX fun δ=>?_);dsimp only[List.foldl];refine XA.loop [(2,2),(4,9),(14,121)] (fun x:(Nat×(Nat×List Tk))×(Option Addr×Nat)=>[(5,i64 x.1.1),(4,.slice x.2.1 x.1.2.1 x.2.2)]) (fun x aj al=>σ=aj∧x.1.1≤s.size∧x.1.2.1≤x.1.1∧x.1.2.2.length=x.1.2.1∧(∃f,s.size<x.1.1+f∧R=tu s f x.1.1 x.1.2.2)∧al=[aw g3 [i64 0,i64 0] 34,aS 185 4 (.slice x.2.1 x.1.2.1 x.2.2) x.1.2.1 (Dp x.1.2.2)]) (fun x=>s.size-x.1.1) ((0,(0,[])),(none,0)) mO (Δ0:=_) ?_ (⟨rfl,cg _,cg _,rfl,⟨s.size+1,gF,hR.symm⟩,rfl⟩) ?_
 ·exact zE
 rintro⟨⟨i,n,acc⟩,p,c⟩ δ _ _ ⟨rfl,hi,hn,dr,⟨f,hf,jD⟩,rfl⟩;dsimp only[dq,List.foldl];simp only at hi hn dr hf jD;by_cases aV:i<s.size
 ·have hb:=jv s i;have mZ:=Ak σ (aJ s i) hb;have oY:=xE σ (aJ s i) hb;obtain⟨f,rfl⟩:∃f',f=f'+1:=⟨f-1,ad⟩;rw[tu,aq aV] at jD;by_cases Ph:dH (aJ s i)=true
  ·rw[aq Ph] at jD;have aa7:aJ s i=32∨aJ s i=9∨aJ s i=10∨aJ s i=13:=of_decide_eq_true Ph;rcases aa7 with hc|hc|hc|hc
   ·skip;refine bt ?_;refine iQ ?_;refine bg ?_;refine zO rfl (Rd.bh (ae rfl) rfl rfl rfl gD) ?_;refine xk ?_;refine iQ ?_;refine bt ?_;refine⟨bQ,((i+1,(n,acc)),(p,c)),_,zM,?_,⟨rfl,aV,by show n≤i+1;omega,dr,⟨f,by show s.size<i+1+f;omega,jD⟩,rfl⟩,gF⟩
    ·exact zE
   ·skip;refine bt ?_;refine iQ ?_;refine bg ?_;refine zO rfl (Rd.bh (ae rfl) rfl rfl rfl gD) ?_;refine xk ?_;refine iQ ?_;refine bt ?_;refine⟨bQ,((i+1,(n,acc)),(p,c)),_,zM,?_,⟨rfl,aV,by show n≤i+1;omega,dr,⟨f,by show s.size<i+1+f;omega,jD⟩,rfl⟩,gF⟩
    ·exact zE
   ·skip;refine bt ?_;refine iQ ?_;refine bg ?_;refine zO rfl (Rd.bh (ae rfl) rfl rfl rfl gD) ?_;refine xk ?_;refine iQ ?_;refine bt ?_;refine⟨bQ,((i+1,(n,acc)),(p,c)),_,zM,?_,⟨rfl,aV,by show n≤i+1;omega,dr,⟨f,by show s.size<i+1+f;omega,jD⟩,rfl⟩,gF⟩
    ·exact zE
   ·skip;refine bt ?_;refine iQ ?_;refine bg ?_;refine zO rfl (Rd.bh (ae rfl) rfl rfl rfl gD) ?_;refine xk ?_;refine iQ ?_;refine bt ?_;refine⟨bQ,((i+1,(n,acc)),(p,c)),_,zM,?_,⟨rfl,aV,by show n≤i+1;omega,dr,⟨f,by show s.size<i+1+f;omega,jD⟩,rfl⟩,gF⟩
    ·exact zE
  rw[ag Ph] at jD;(have Xk:¬(aJ s i=32∨aJ s i=9∨aJ s i=10∨aJ s i=13):=fun h=>Ph (aM h));by_cases Pw:aJ s i=40
  ·skip;(have ho:gQ s i=some ⟨i,s.extract i (i+1),false,0⟩:=by rw[gQ,aq ad]);(have hz:(s.extract i (i+1)).size=1:=by rw[ByteArray.size_extract];omega);rw[ho] at jD;simp only[hz] at jD;refine bt ?_;refine iQ ?_;refine bg ?_;refine zO rfl (Rd.bh (ae rfl) rfl rfl rfl gD) ?_;refine xk ?_;refine ik ?_;refine cp ?_;refine iQ ?_;refine a8 ?_;refine zO rfl (Rd.jI (ae rfl) rfl rfl rfl rfl ad rfl) ?_;refine bS ?_;refine zw rfl (ax.jY (ae rfl) rfl (ae rfl)) ?_;rintro _ _ _ ⟨Zr,rfl,rfl,rfl⟩;refine zw rfl (ax.kM (ae rfl) rfl (ae rfl) rfl rfl rfl) ?_;rintro _ _ _ ⟨Px,Py,rfl,rfl,rfl⟩;refine aR ?_;refine⟨bQ,((i+1,(n+1,acc++[(⟨i,s.extract i (i+1),false,0⟩:Tk)])),(Px,Py)),_,zM,?_,⟨rfl,by show i+1≤s.size;omega,by show n+1≤i+1;omega,by show (acc++[(⟨i,s.extract i (i+1),false,0⟩:Tk)]).length=n+1;rw[bq,dr];rfl,⟨f,by show s.size<i+1+f;omega,jD⟩,rfl⟩,(by show s.size-(i+1)<s.size-i;omega)⟩
   ·rw[iS];exact zE
  by_cases h41:aJ s i=41
  ·skip;(have ho:gQ s i=some ⟨i,s.extract i (i+1),false,0⟩:=by rw[gQ,aq ad]);(have hz:(s.extract i (i+1)).size=1:=by rw[ByteArray.size_extract];omega);rw[ho] at jD;simp only[hz] at jD;refine bt ?_;refine iQ ?_;refine bg ?_;refine zO rfl (Rd.bh (ae rfl) rfl rfl rfl gD) ?_;refine xk ?_;refine ik ?_;refine cp ?_;refine iQ ?_;refine a8 ?_;refine zO rfl (Rd.jI (ae rfl) rfl rfl rfl rfl ad rfl) ?_;refine bS ?_;refine zw rfl (ax.jY (ae rfl) rfl (ae rfl)) ?_;rintro _ _ _ ⟨Zr,rfl,rfl,rfl⟩;refine zw rfl (ax.kM (ae rfl) rfl (ae rfl) rfl rfl rfl) ?_;rintro _ _ _ ⟨Px,Py,rfl,rfl,rfl⟩;refine aR ?_;refine⟨bQ,((i+1,(n+1,acc++[(⟨i,s.extract i (i+1),false,0⟩:Tk)])),(Px,Py)),_,zM,?_,⟨rfl,by show i+1≤s.size;omega,by show n+1≤i+1;omega,by show (acc++[(⟨i,s.extract i (i+1),false,0⟩:Tk)]).length=n+1;rw[bq,dr];rfl,⟨f,by show s.size<i+1+f;omega,jD⟩,rfl⟩,(by show s.size-(i+1)<s.size-i;omega)⟩
   ·rw[iS];exact zE
  cases hl:bN (aJ s i) with
  |true=>
   have hle:=jq bN s (i:=i) ad;(have BA:bf bN s i=bf bN s (i+1)+1:=by rw[mR,aq ⟨aV,hl⟩]);(have ho:gQ s i=some ⟨i,s.extract i (i+bf bN s i),false,0⟩:=by rw[gQ,ag ad,aq hl]);rw[ho] at jD;(have hz:(s.extract i (i+bf bN s i)).size=bf bN s i:=by rw[ByteArray.size_extract];omega);simp only[hz] at jD;rw[hl] at mZ;refine bt ?_;refine iQ ?_;refine bg ?_;refine zO rfl (Rd.bh (ae rfl) rfl rfl rfl gD) ?_;refine xk ?_;refine ik ?_;refine cp ?_;refine ik ?_;refine cx ?_;refine yC (mZ) ?_;refine a8 ?_;refine XA.loop [(7,7),(59,70)] (fun j:Nat=>[(7,i64 j)]) (fun j aj al=>σ=aj∧i+1≤j∧j≤s.size∧bf bN s (i+1)=bf bN s j+(j-(i+1))∧al=[aw g3 [i64 0,i64 0] 34,aS 185 4 (.slice p n c) n (Dp acc)]) (fun j=>s.size-j) (i+1) eb (Δ0:=_) ?_ (⟨rfl,bX _,aV,by rw[Nat.sub_self];rfl,rfl⟩) ?_
   ·exact zE
   rintro j Dc _ _ ⟨rfl,Rq,wj,uO,rfl⟩;dsimp only[dq,List.foldl];replace Rq:i+1≤j:=Rq;replace wj:j≤s.size:=wj;replace uO:bf bN s (i+1)=bf bN s j+(j-(i+1)):=uO;by_cases uP:j<s.size
   ·have Hy:=Ak σ (aJ s j) (jv s j);rw[mR bN s j] at uO
    cases Hz:bN (aJ s j) with
    |true=>
     rw[Hz] at Hy;rw[aq ⟨uP,Hz⟩] at uO;refine aR ?_;(first|(refine zG ?_;refine zO rfl (Rd.bh (ae rfl) rfl rfl rfl gD) ?_)|refine zH ?_);refine zG ?_;refine yC (Hy) ?_;refine eA ?_;refine⟨bQ,j+1,_,zM,?_,⟨rfl,by show i+1≤j+1;omega,uP,by show bf bN s (i+1)=bf bN s (j+1)+(j+1-(i+1));omega,rfl⟩,ad⟩
     ·exact zE
    |false=>
     rw[Hz] at Hy;rw[ag (fun x=>by rw[Hz] at x;exact Bool.noConfusion x.2),Nat.zero_add] at uO;refine aR ?_;(first|(refine zG ?_;refine zO rfl (Rd.bh (ae rfl) rfl rfl rfl gD) ?_)|refine zH ?_);refine zG ?_;refine yC (Hy) ?_;refine dh ?_;(have wD:j=i+bf bN s i:=by omega);clear uO;subst wD;refine zO rfl (Rd.jI (ae rfl) rfl rfl rfl rfl ad rfl) ?_;refine bS ?_;refine zw rfl (ax.jY (ae rfl) rfl (ae rfl)) ?_;rintro _ _ _ ⟨g78,rfl,rfl,rfl⟩;refine zw rfl (ax.kM (ae rfl) rfl (ae rfl) rfl rfl rfl) ?_;rintro _ _ _ ⟨Xl,Xm,rfl,rfl,rfl⟩;refine aR ?_;refine⟨bQ,((i+bf bN s i,(n+1,acc++[(⟨i,s.extract i (i+bf bN s i),false,0⟩:Tk)])),(Xl,Xm)),_,zM,?_,⟨rfl,by show i+bf bN s i≤s.size;omega,by show n+1≤i+bf bN s i;omega,by show (acc++[(⟨i,s.extract i (i+bf bN s i),false,0⟩:Tk)]).length=n+1;rw[bq,dr];rfl,⟨f,by show s.size<i+bf bN s i+f;omega,jD⟩,rfl⟩,(by show s.size-(i+bf bN s i)<s.size-i;omega)⟩
     ·rw[iS];exact zE
   ·rw[pM (fun x=>uP x.1),Nat.zero_add] at uO;refine aR ?_;(first|(refine zG ?_;refine zO rfl (Rd.bh (ae rfl) rfl rfl rfl gD) ?_)|refine zH ?_);(first|refine zH ?_);refine cx ?_;refine ik ?_;refine cp ?_;(have wD:j=i+bf bN s i:=by omega);clear uO;subst wD;refine zO rfl (Rd.jI (ae rfl) rfl rfl rfl rfl ad rfl) ?_;refine bS ?_;refine zw rfl (ax.jY (ae rfl) rfl (ae rfl)) ?_;rintro _ _ _ ⟨g78,rfl,rfl,rfl⟩;refine zw rfl (ax.kM (ae rfl) rfl (ae rfl) rfl rfl rfl) ?_;rintro _ _ _ ⟨Xl,Xm,rfl,rfl,rfl⟩;refine aR ?_;refine⟨bQ,((i+bf bN s i,(n+1,acc++[(⟨i,s.extract i (i+bf bN s i),false,0⟩:Tk)])),(Xl,Xm)),_,zM,?_,⟨rfl,by show i+bf bN s i≤s.size;omega,by show n+1≤i+bf bN s i;omega,by show (acc++[(⟨i,s.extract i (i+bf bN s i),false,0⟩:Tk)]).length=n+1;rw[bq,dr];rfl,⟨f,by show s.size<i+bf bN s i+f;omega,jD⟩,rfl⟩,(by show s.size-(i+bf bN s i)<s.size-i;omega)⟩
    ·rw[iS];exact zE
  |false=>
   rw[hl] at mZ;by_cases hd:aL (aJ s i)=true∨aJ s i=45
   ·cases hq:aL (aJ s i) with
    |true=>
     rw[hq] at oY;have hle:=jq aL s (i:=i+1) ad;(have ho:gQ s i=(eY (s.extract i (i+1+bf aL s (i+1)))).map fun n=>⟨i,s.extract i (i+1+bf aL s (i+1)),true,n⟩:=by rw[gQ,ag ad,ag (by rw[hl];exact Bool.noConfusion),aq hd]);refine bt ?_;refine iQ ?_;refine bg ?_;refine zO rfl (Rd.bh (ae rfl) rfl rfl rfl gD) ?_;refine xk ?_;refine ik ?_;refine cp ?_;refine ik ?_;refine cx ?_;refine yC (mZ) ?_;refine bg ?_;refine yC (oY) ?_;refine bg ?_;refine iQ ?_;refine aU ?_;refine XA.loop [(7,7),(87,98)] (fun j:Nat=>[(7,i64 j)]) (fun j aj al=>σ=aj∧i+1≤j∧j≤s.size∧bf aL s (i+1)=bf aL s j+(j-(i+1))∧al=[aw g3 [i64 0,i64 0] 34,aS 185 4 (.slice p n c) n (Dp acc)]) (fun j=>s.size-j) (i+1) eb (Δ0:=_) ?_ (⟨rfl,bX _,aV,by rw[Nat.sub_self];rfl,rfl⟩) ?_
     ·exact zE
     rintro j Dc _ _ ⟨rfl,Rq,wj,uO,rfl⟩;dsimp only[dq,List.foldl];replace Rq:i+1≤j:=Rq;replace wj:j≤s.size:=wj;replace uO:bf aL s (i+1)=bf aL s j+(j-(i+1)):=uO;by_cases uP:j<s.size
     ·have Hy:=xE σ (aJ s j) (jv s j);rw[mR aL s j] at uO
      cases Hz:aL (aJ s j) with
      |true=>
       rw[Hz] at Hy;rw[aq ⟨uP,Hz⟩] at uO;refine aR ?_;(first|(refine zG ?_;refine zO rfl (Rd.bh (ae rfl) rfl rfl rfl gD) ?_)|refine zH ?_);refine zG ?_;refine yC (Hy) ?_;refine eA ?_;refine⟨bQ,j+1,_,zM,?_,⟨rfl,by show i+1≤j+1;omega,uP,by show bf aL s (i+1)=bf aL s (j+1)+(j+1-(i+1));omega,rfl⟩,ad⟩
       ·exact zE
      |false=>
       rw[Hz] at Hy;rw[ag (fun x=>by rw[Hz] at x;exact Bool.noConfusion x.2),Nat.zero_add] at uO;refine aR ?_;(first|(refine zG ?_;refine zO rfl (Rd.bh (ae rfl) rfl rfl rfl gD) ?_)|refine zH ?_);refine zG ?_;refine yC (Hy) ?_;refine eA ?_;(have wD:j=i+1+bf aL s (i+1):=by omega);clear uO;subst wD;refine zO rfl (Rd.jI (ae rfl) rfl rfl rfl rfl ad rfl) ?_;(have Bt:(s.extract i (i+1+bf aL s (i+1))).size=1+bf aL s (i+1):=by rw[ByteArray.size_extract];omega);have gO:(s.extract i (i+1+bf aL s (i+1))).size≤100000000:=by omega
       cases ri:eY (s.extract i (i+1+bf aL s (i+1))) with
       |none=>
        have zp:=mc σ gO hT hE ri;rw[ri] at ho;rw[show gQ s i=none from ho] at jD;simp only at jD;rw[hP,jD];refine yC (zp) ?_;refine lR ?_;refine yC (wi σ 7 i) ?_;refine bm ?_;exact ao.ret (aB.Ji rfl rfl rfl (Ld.bn (ae rfl) rfl zL rfl cK cJ)) (ar.nil _) ⟨_,rfl,bV.nil _ _ _,.refl _,rfl⟩
       |some m=>
        have zp:=ma σ gO hT hE ri;rw[ri] at ho;rw[show gQ s i=some ⟨i,s.extract i (i+1+bf aL s (i+1)),true,m⟩ from ho] at jD;simp only[Bt] at jD;rw[←Nat.add_assoc] at jD;refine yC (zp) ?_;refine rM ?_;refine zO rfl (Rd.jI (ae rfl) rfl rfl rfl rfl ad rfl) ?_;refine aU ?_;refine zw rfl (ax.jY (ae rfl) rfl (ae rfl)) ?_;rintro _ _ _ ⟨S6,rfl,rfl,rfl⟩;refine zw rfl (ax.kM (ae rfl) rfl (ae rfl) rfl rfl rfl) ?_;rintro _ _ _ ⟨FM,FN,rfl,rfl,rfl⟩;refine aR ?_;refine⟨bQ,((i+1+bf aL s (i+1),(n+1,acc++[(⟨i,s.extract i (i+1+bf aL s (i+1)),true,m⟩:Tk)])),(FM,FN)),_,zM,?_,⟨rfl,by show i+1+bf aL s (i+1)≤s.size;omega,by show n+1≤i+1+bf aL s (i+1);omega,by show (acc++[(⟨i,s.extract i (i+1+bf aL s (i+1)),true,m⟩:Tk)]).length=n+1;rw[bq,dr];rfl,⟨f,by show s.size<i+1+bf aL s (i+1)+f;omega,jD⟩,rfl⟩,(by show s.size-(i+1+bf aL s (i+1))<s.size-i;omega)⟩
        ·rw[iS];exact zE
     ·rw[pM (fun x=>uP x.1),Nat.zero_add] at uO;refine aR ?_;(first|(refine zG ?_;refine zO rfl (Rd.bh (ae rfl) rfl rfl rfl gD) ?_)|refine zH ?_);(first|refine zH ?_);refine cx ?_;refine ik ?_;refine aR ?_;(have wD:j=i+1+bf aL s (i+1):=by omega);clear uO;subst wD;refine zO rfl (Rd.jI (ae rfl) rfl rfl rfl rfl ad rfl) ?_;(have Bt:(s.extract i (i+1+bf aL s (i+1))).size=1+bf aL s (i+1):=by rw[ByteArray.size_extract];omega);have gO:(s.extract i (i+1+bf aL s (i+1))).size≤100000000:=by omega
      cases ri:eY (s.extract i (i+1+bf aL s (i+1))) with
      |none=>
       have zp:=mc σ gO hT hE ri;rw[ri] at ho;rw[show gQ s i=none from ho] at jD;simp only at jD;rw[hP,jD];refine yC (zp) ?_;refine lR ?_;refine yC (wi σ 7 i) ?_;refine bm ?_;exact ao.ret (aB.Ji rfl rfl rfl (Ld.bn (ae rfl) rfl zL rfl cK cJ)) (ar.nil _) ⟨_,rfl,bV.nil _ _ _,.refl _,rfl⟩
      |some m=>
       have zp:=ma σ gO hT hE ri;rw[ri] at ho;rw[show gQ s i=some ⟨i,s.extract i (i+1+bf aL s (i+1)),true,m⟩ from ho] at jD;simp only[Bt] at jD;rw[←Nat.add_assoc] at jD;refine yC (zp) ?_;refine rM ?_;refine zO rfl (Rd.jI (ae rfl) rfl rfl rfl rfl ad rfl) ?_;refine aU ?_;refine zw rfl (ax.jY (ae rfl) rfl (ae rfl)) ?_;rintro _ _ _ ⟨S6,rfl,rfl,rfl⟩;refine zw rfl (ax.kM (ae rfl) rfl (ae rfl) rfl rfl rfl) ?_;rintro _ _ _ ⟨FM,FN,rfl,rfl,rfl⟩;refine aR ?_;refine⟨bQ,((i+1+bf aL s (i+1),(n+1,acc++[(⟨i,s.extract i (i+1+bf aL s (i+1)),true,m⟩:Tk)])),(FM,FN)),_,zM,?_,⟨rfl,by show i+1+bf aL s (i+1)≤s.size;omega,by show n+1≤i+1+bf aL s (i+1);omega,by show (acc++[(⟨i,s.extract i (i+1+bf aL s (i+1)),true,m⟩:Tk)]).length=n+1;rw[bq,dr];rfl,⟨f,by show s.size<i+1+bf aL s (i+1)+f;omega,jD⟩,rfl⟩,(by show s.size-(i+1+bf aL s (i+1))<s.size-i;omega)⟩
       ·rw[iS];exact zE
    |false=>
     have Zi:aJ s i=45:=hd.resolve_left (by rw[hq];exact Bool.noConfusion);rw[hq] at oY;have hle:=jq aL s (i:=i+1) ad;(have ho:gQ s i=(eY (s.extract i (i+1+bf aL s (i+1)))).map fun n=>⟨i,s.extract i (i+1+bf aL s (i+1)),true,n⟩:=by rw[gQ,ag ad,ag (by rw[hl];exact Bool.noConfusion),aq hd]);refine bt ?_;refine iQ ?_;refine bg ?_;refine zO rfl (Rd.bh (ae rfl) rfl rfl rfl gD) ?_;refine xk ?_;refine ik ?_;refine cp ?_;refine ik ?_;refine cx ?_;refine yC (mZ) ?_;refine bg ?_;refine yC (oY) ?_;refine bg ?_;refine iQ ?_;refine aU ?_;refine XA.loop [(7,7),(87,98)] (fun j:Nat=>[(7,i64 j)]) (fun j aj al=>σ=aj∧i+1≤j∧j≤s.size∧bf aL s (i+1)=bf aL s j+(j-(i+1))∧al=[aw g3 [i64 0,i64 0] 34,aS 185 4 (.slice p n c) n (Dp acc)]) (fun j=>s.size-j) (i+1) eb (Δ0:=_) ?_ (⟨rfl,bX _,aV,by rw[Nat.sub_self];rfl,rfl⟩) ?_
     ·exact zE
     rintro j Dc _ _ ⟨rfl,Rq,wj,uO,rfl⟩;dsimp only[dq,List.foldl];replace Rq:i+1≤j:=Rq;replace wj:j≤s.size:=wj;replace uO:bf aL s (i+1)=bf aL s j+(j-(i+1)):=uO;by_cases uP:j<s.size
     ·have Hy:=xE σ (aJ s j) (jv s j);rw[mR aL s j] at uO
      cases Hz:aL (aJ s j) with
      |true=>
       rw[Hz] at Hy;rw[aq ⟨uP,Hz⟩] at uO;refine aR ?_;(first|(refine zG ?_;refine zO rfl (Rd.bh (ae rfl) rfl rfl rfl gD) ?_)|refine zH ?_);refine zG ?_;refine yC (Hy) ?_;refine eA ?_;refine⟨bQ,j+1,_,zM,?_,⟨rfl,by show i+1≤j+1;omega,uP,by show bf aL s (i+1)=bf aL s (j+1)+(j+1-(i+1));omega,rfl⟩,ad⟩
       ·exact zE
      |false=>
       rw[Hz] at Hy;rw[ag (fun x=>by rw[Hz] at x;exact Bool.noConfusion x.2),Nat.zero_add] at uO;refine aR ?_;(first|(refine zG ?_;refine zO rfl (Rd.bh (ae rfl) rfl rfl rfl gD) ?_)|refine zH ?_);refine zG ?_;refine yC (Hy) ?_;refine eA ?_;(have wD:j=i+1+bf aL s (i+1):=by omega);clear uO;subst wD;refine zO rfl (Rd.jI (ae rfl) rfl rfl rfl rfl ad rfl) ?_;(have Bt:(s.extract i (i+1+bf aL s (i+1))).size=1+bf aL s (i+1):=by rw[ByteArray.size_extract];omega);have gO:(s.extract i (i+1+bf aL s (i+1))).size≤100000000:=by omega
       cases ri:eY (s.extract i (i+1+bf aL s (i+1))) with
       |none=>
        have zp:=mc σ gO hT hE ri;rw[ri] at ho;rw[show gQ s i=none from ho] at jD;simp only at jD;rw[hP,jD];refine yC (zp) ?_;refine lR ?_;refine yC (wi σ 7 i) ?_;refine bm ?_;exact ao.ret (aB.Ji rfl rfl rfl (Ld.bn (ae rfl) rfl zL rfl cK cJ)) (ar.nil _) ⟨_,rfl,bV.nil _ _ _,.refl _,rfl⟩
       |some m=>
        have zp:=ma σ gO hT hE ri;rw[ri] at ho;rw[show gQ s i=some ⟨i,s.extract i (i+1+bf aL s (i+1)),true,m⟩ from ho] at jD;simp only[Bt] at jD;rw[←Nat.add_assoc] at jD;refine yC (zp) ?_;refine rM ?_;refine zO rfl (Rd.jI (ae rfl) rfl rfl rfl rfl ad rfl) ?_;refine aU ?_;refine zw rfl (ax.jY (ae rfl) rfl (ae rfl)) ?_;rintro _ _ _ ⟨S6,rfl,rfl,rfl⟩;refine zw rfl (ax.kM (ae rfl) rfl (ae rfl) rfl rfl rfl) ?_;rintro _ _ _ ⟨FM,FN,rfl,rfl,rfl⟩;refine aR ?_;refine⟨bQ,((i+1+bf aL s (i+1),(n+1,acc++[(⟨i,s.extract i (i+1+bf aL s (i+1)),true,m⟩:Tk)])),(FM,FN)),_,zM,?_,⟨rfl,by show i+1+bf aL s (i+1)≤s.size;omega,by show n+1≤i+1+bf aL s (i+1);omega,by show (acc++[(⟨i,s.extract i (i+1+bf aL s (i+1)),true,m⟩:Tk)]).length=n+1;rw[bq,dr];rfl,⟨f,by show s.size<i+1+bf aL s (i+1)+f;omega,jD⟩,rfl⟩,(by show s.size-(i+1+bf aL s (i+1))<s.size-i;omega)⟩
        ·rw[iS];exact zE
     ·rw[pM (fun x=>uP x.1),Nat.zero_add] at uO;refine aR ?_;(first|(refine zG ?_;refine zO rfl (Rd.bh (ae rfl) rfl rfl rfl gD) ?_)|refine zH ?_);(first|refine zH ?_);refine cx ?_;refine ik ?_;refine aR ?_;(have wD:j=i+1+bf aL s (i+1):=by omega);clear uO;subst wD;refine zO rfl (Rd.jI (ae rfl) rfl rfl rfl rfl ad rfl) ?_;(have Bt:(s.extract i (i+1+bf aL s (i+1))).size=1+bf aL s (i+1):=by rw[ByteArray.size_extract];omega);have gO:(s.extract i (i+1+bf aL s (i+1))).size≤100000000:=by omega
      cases ri:eY (s.extract i (i+1+bf aL s (i+1))) with
      |none=>
       have zp:=mc σ gO hT hE ri;rw[ri] at ho;rw[show gQ s i=none from ho] at jD;simp only at jD;rw[hP,jD];refine yC (zp) ?_;refine lR ?_;refine yC (wi σ 7 i) ?_;refine bm ?_;exact ao.ret (aB.Ji rfl rfl rfl (Ld.bn (ae rfl) rfl zL rfl cK cJ)) (ar.nil _) ⟨_,rfl,bV.nil _ _ _,.refl _,rfl⟩
      |some m=>
       have zp:=ma σ gO hT hE ri;rw[ri] at ho;rw[show gQ s i=some ⟨i,s.extract i (i+1+bf aL s (i+1)),true,m⟩ from ho] at jD;simp only[Bt] at jD;rw[←Nat.add_assoc] at jD;refine yC (zp) ?_;refine rM ?_;refine zO rfl (Rd.jI (ae rfl) rfl rfl rfl rfl ad rfl) ?_;refine aU ?_;refine zw rfl (ax.jY (ae rfl) rfl (ae rfl)) ?_;rintro _ _ _ ⟨S6,rfl,rfl,rfl⟩;refine zw rfl (ax.kM (ae rfl) rfl (ae rfl) rfl rfl rfl) ?_;rintro _ _ _ ⟨FM,FN,rfl,rfl,rfl⟩;refine aR ?_;refine⟨bQ,((i+1+bf aL s (i+1),(n+1,acc++[(⟨i,s.extract i (i+1+bf aL s (i+1)),true,m⟩:Tk)])),(FM,FN)),_,zM,?_,⟨rfl,by show i+1+bf aL s (i+1)≤s.size;omega,by show n+1≤i+1+bf aL s (i+1);omega,by show (acc++[(⟨i,s.extract i (i+1+bf aL s (i+1)),true,m⟩:Tk)]).length=n+1;rw[bq,dr];rfl,⟨f,by show s.size<i+1+bf aL s (i+1)+f;omega,jD⟩,rfl⟩,(by show s.size-(i+1+bf aL s (i+1))<s.size-i;omega)⟩
       ·rw[iS];exact zE
   ·have ho:gQ s i=none:=by rw[gQ,ag ad,ag (by rw[hl];exact Bool.noConfusion),ag hd]
    have hq:aL (aJ s i)=false:=by
     cases h:aL (aJ s i) with
     |true=>exact absurd (.inl h) hd
     |false=>rfl
    (have Zi:¬(aJ s i=45):=fun h=>hd (.inr h));rw[hq] at oY;rw[ho] at jD;simp only at jD;rw[hP,jD];refine bt ?_;refine iQ ?_;refine bg ?_;refine zO rfl (Rd.bh (ae rfl) rfl rfl rfl gD) ?_;refine xk ?_;refine ik ?_;refine cp ?_;refine ik ?_;refine cx ?_;refine yC (mZ) ?_;refine bg ?_;refine yC (oY) ?_;refine bg ?_;refine ik ?_;refine cx ?_;refine yC (wi σ 7 i) ?_;refine cp ?_;exact ao.ret (aB.Ji rfl rfl rfl (Ld.bn (ae rfl) rfl zL rfl cK cJ)) (ar.nil _) ⟨_,rfl,bV.nil _ _ _,.refl _,rfl⟩
 ·have hRe:R=.ok acc:=by
   rw[jD]
   cases f with
   |zero=>rfl
   |succ f=>rw[tu,ag aV]
  refine bt ?_;refine ik ?_;refine eA ?_;refine DA.mX (R:=aS 185 4 (.slice p n c) _ _) zL cm aH ?_;rintro cO ⟨⟩ Bw bz;rw[hP,hRe];exact ao.ret (aB.Ji rfl rfl rfl (Ld.bn (ae rfl) rfl zL rfl cK cJ)) (ar.nil _) ⟨_,rfl,(Ht cO acc).Cx dr.symm Bw,bz,rfl⟩
section
variable {ρ:Env} {S:Heap→Prop} {ty:TypeId}
theorem X.wk {a b c d:Int} (w:World):(Op.equalIn 10000 34 (.agg #[i64 a,i64 b]) (.agg #[i64 c,i64 d])).run Tryz.prog w=.ok (decide (a=c∧b=d)) w:=by
 have hI:aX Tryz.prog 3=some _:=ae rfl;obtain⟨wW,ii',z',sA,rI,-⟩:=aF hI;(cases wW<;>simp[kindOf,OW] at rI);(have hu:Tryz.prog.underlying 34=some (.struct (Tryz.prog.fieldsOf 34)):=by kernel_rfl);(have hf:(Tryz.prog.fieldsOf 34).toList.map (fun f=>(f.name,f.type,f.offset))=[("Code",3,0),("At",3,1)]:=by kernel_rfl);obtain⟨f1,f2,n9⟩:=WZ (l:=(Tryz.prog.fieldsOf 34).toList) (by simpa using congrArg List.length hf);rw[n9] at hf;simp only[List.map_cons,List.map_nil,List.cons.injEq,Prod.mk.injEq,and_true] at hf;obtain⟨⟨n1,t1,o1⟩,n2,t2,o2⟩:=hf;rw[run_equalIn_agg w 9999 _ _ _ hu aC,n9];(have hb:∀(w:World),(isAgg 3).run Tryz.prog w=.ok false w:=fun w=>by unfold isAgg;rw[Sem.run_bind,run_underlying sA w];rfl);(have q2:=fun x y=>run_equalIn_int (P:=Tryz.prog) w 9998 3 .i64 _ x y sA);simp[Op.eqFields,part,hb,q2,n1,n2,t1,t2,o1,o2];by_cases h1:a=c
 ·by_cases h2:b=d<;>simp[h1,h2]
 ·simp[h1]
theorem X.Rd.Ap {T':TypeId} {x y:Operand} {a b:Int} (hx:ev ρ x=.agg #[i64 a,i64 b]) (hy:ev ρ y=.agg #[i64 a,i64 b]):Rd Tryz.prog ρ S (.binOp .neq 34 x y T') ty (.bool false):=by
 (refine .pure fun d pos af gd w=>?_);have h2:(eqGuard .neq 34 x y (.agg #[i64 a,i64 b]) (.agg #[i64 a,i64 b])).run Tryz.prog w=.ok () w:=run_eqGuard_agg w _ _ _ _ _ _ aC
 have h3:(binOp .neq 34 (.agg #[i64 a,i64 b]) (.agg #[i64 a,i64 b])).run Tryz.prog w=.ok (.bool false) w:=by
  rw[run_neq_struct];rw[X.wk (a:=a) (b:=b) w];simp
 simp only[execOp,hx,hy,Sem.run_bind,h2,h3,Result.andThen_ok,Sem.run_pure]
end
def put (i:Nat) (t:Tk):Tk:=⟨i,t.text,t.num,t.n⟩
def Xn (t:Tk):ByteArray×Bool×Int:=(t.text,t.num,t.n)
def Zs (l l':List Tk):Prop:=l.map Xn=l'.map Xn
theorem Zs.length {l l':List Tk} (h:Zs l l'):l.length=l'.length:=by simpa using congrArg List.length h
def Rr {α:Type} (a b:PR α):Prop:=∀x r,a=.ok (x,r)→∃r',b=.ok (x,r')∧Zs r r'
theorem Rr.ok {α:Type} {x:α} {r r':List Tk} (h:Zs r r'):Rr (.ok (x,r)) (.ok (x,r')):=fun _ _ q=>by cases q;exact⟨r',rfl,h⟩
section
variable {vl:List Va} {e e':Int}
end
section
variable {P:Program} {N:Nat} {fn:Func} {σ:PH} {Γ:List HP}
theorem X.dk.Aq {f:FuncId} {rest:Code} {id:Nat} {d1 d2:Nat} {t1 t2:TypeId} {s1 s2:String} {a1 a2:Array Edge} {mE:Array TypeId} {x0 x1:Value} {u:FrameMode} {R:FrameMode→PH→List HP→Prop}
 (hf:P.funcs[f]? =some fn) (hb:fn.body=some (.seq (.region id #[⟨some d1,.call {callee:=.builtin .recover,args:=#[],argTypes:=mE},t1,s1,a1,none⟩,⟨some d2,.assign (.tmp d1),t2,s2,a2,none⟩] false) rest)) (hN:Nat.ble 2 fn.ntmps=true)
 (Cy:Nat.blt d1 fn.ntmps=true) (E6:Nat.blt d2 fn.ntmps=true) (hx:XA P fn.ntmps rest (dO (dO (dO (dO U 0 x0) 1 x1) d1 (recv u).1) d2 (recv u).1) σ Γ (ao P fn (aA fun _ aj al=>R (recv u).2 aj al))):
 dk P f #[x0,x1] u σ Γ R:=fun fr h hh w hw=>by
 refine(pK (vs:=#[x0,x1]) (ρ0:=dO (dO U 0 x0) 1 x1) hf hb hN (fun s=>match s with
  |0=>rfl
  |1=>rfl
  |s+2=>by rw[show (#[x0,x1]:Array Value).getD (s+2) undef=undef from by simp,fv _ _ _ _ ad,fv _ _ _ _ ad]) Cy E6 (XA.Sz hx hh) w hw).mono ?_
 rintro e u' w' ⟨rfl,a,aj,al,b,c⟩
 cases e with
 |returned v=>exact⟨a,⟨v,rfl⟩,aj,al,b,c⟩
 |_=>exact b.elim
def HA (K:KA):KA
 |.ret,ρ,σ,Γ=>K .ret ρ σ Γ
 |_,_,_,_=>False
theorem X.sD.of {c:Code} {ρ:Env} {next:Env→PH→List HP→Prop} {K:KA} (hx:XA P N c ρ σ Γ (qZ next (HA K))):sD P N c ρ σ Γ (qZ next K):=by
 refine⟨fun f h hh=>⟨fun w0 a w hs hw he=>wp_mono ((hx.out f h hh).out w0 a w hs hw he) ?_⟩⟩;rintro e a' w' ⟨h1,h2,er,h3,aj,al,hk,kR⟩
 cases e with
 |normal=>exact⟨h1,h2,er,h3,aj,al,hk,kR⟩
 |ret=>exact⟨h1,h2,er,h3,aj,al,hk,kR⟩
 |_=>exact hk.elim
theorem X.sD.Xo {c:Code} {ρ:Env} {K:KA} (hx:XA P N c ρ σ Γ (HA K)):sD P N c ρ σ Γ K:=by
 refine⟨fun f h hh=>⟨fun w0 a w hs hw he=>wp_mono ((hx.out f h hh).out w0 a w hs hw he) ?_⟩⟩;rintro e a' w' ⟨h1,h2,er,h3,aj,al,hk,kR⟩
 cases e with
 |ret=>exact⟨h1,h2,er,h3,aj,al,hk,kR⟩
 |_=>exact hk.elim
end
theorem X.Rd.LI {P:Program} {ρ:Env} {S:Heap→Prop} {ty T I:TypeId} {x:Operand} {v:Value} {r:Ty} {fs:List (TypeId×Nat)} (hT:aX P T=some r) (hk:r.k=.struct fs) (hx:ev ρ x=.iface T v):Rd P ρ S (.typeAssert x I T true) ty (.tuple #[v,.bool true]):=by
 (refine .pure fun d pos af g w=>?_);obtain⟨dd,i,z,e1,e2,-⟩:=aF hT;rw[hk] at e2;(cases dd<;>simp[kindOf] at e2);simp[execOp,Instr.typeAssert,run_underlying e1,hx]
theorem HB:∃ms,Tryz.prog.underlying 20=some (.interface ms):=⟨#[],aC⟩
theorem Dw (σ:PH) (ga gb:Nat):dk Tryz.prog 144 #[ptr ga,ptr gb] .returning σ [] (fun u' aj al=>settle u'=.returning∧σ=aj∧al=[]):=by
 refine dk.Aq Tryz.func144 rfl rfl rfl rfl ?_;dsimp only[recv];refine cx ?_;refine zO rfl (Rd.uI HB.choose_spec rfl) ?_;refine bY ?_;exact iN rfl ⟨rfl,rfl,rfl⟩
theorem LJ (σ:PH) (ga gb:Nat) (x:Int×Int) (r0 r1:List Value) (Dx:r0.length=2) (E5:r1.length=2):dk Tryz.prog 144 #[ptr ga,ptr gb] (.panicking (j4 x)) σ [aw ga r0 69,aw gb r1 34]
 (fun u' aj al=>settle u'=.returning∧σ=aj∧al=[aw ga [.slice none 0 0,.slice none 0 0] 69,aw gb [i64 x.1,i64 x.2] 34]):=by
 refine dk.Aq Tryz.func144 rfl rfl rfl rfl ?_;dsimp only[recv,j4];have iP:aQ r0 0 [.slice none 0 0,.slice none 0 0]=[.slice none 0 0,.slice none 0 0]:=iB Dx;have sR:aQ r1 0 [i64 x.1,i64 x.2]=[i64 x.1,i64 x.2]:=iB E5;(have gf:0+OV.size≤r0.length:=by rw[Dx];exact bX _);(have pH:∀_:Unit,0+aam.size≤r1.length:=fun _=>by rw[E5];exact bX _);refine cx ?_;refine zO rfl (Rd.uH HB.choose_spec rfl) ?_;refine a8 ?_;refine zO rfl (X.Rd.LI (ae rfl) rfl rfl) ?_;refine cx ?_;refine di (fun g3=>?_) (ae rfl);refine eA ?_;refine et 4 75 [3] (ar.bB (R:=aw g3 _ _) zL (ar.nil _)) ?_;refine aU ?_;refine aP.fw rfl rfl Gd.free (ax.st (ae rfl) rfl) ?_;rintro _ _ _ ⟨rfl,rfl,rfl⟩;refine stays ?_;refine kS rfl (ax.st (ae rfl) rfl) ?_;refine bS ?_;exact iN rfl ⟨rfl,rfl,rfl⟩
theorem X.dk.LK {P:Program} {f:FuncId} {vs:Array Value} {u:FrameMode} {σ:PH} {Γ b6 Δ:List HP} {R R':FrameMode→PH→List HP→Prop} (hc:dk P f vs u σ b6 R) (he:ar Γ (b6++Δ))
 (k:∀u' aj al fr h,R u' aj al→Holds aj (al++Δ) fr h→∃cL mY,R' u' cL mY∧Holds cL mY fr h):dk P f vs u σ Γ R':=fun fr h hh w hw=>by
 obtain⟨f',a,b⟩:=(hh.eX he).aside;refine(hc f' h a w hw).mono ?_;rintro e u' w' ⟨h1,h2,aj,al,h3,h4⟩;obtain⟨cL,mY,h5,h6⟩:=k u' aj al fr w'.heap h3 (b _ _ _ h4);exact⟨h1,h2,cL,mY,h5,h6⟩
theorem X.jH.wr {P:Program} {N:Nat} {ρ:Env} {σ:PH} {Γ:List HP} {K:KA} {all:Array Oper} {rest:List Oper} {ty:TypeId} {pos:String} {af:Array Edge} {d:Option Nat} {op:Op} {R:Value→PH→List HP→Prop} (hd:gu N d=true) (hr:ax P ρ σ Γ op ty R ig) (k:∀v aj al,R v aj al→jH P N all rest (jz ρ d v) aj al K):
 jH P N all (⟨d,op,ty,pos,af,none⟩::rest) ρ σ Γ K:=
 ⟨fun fr h hh=>Kw.wr hd (hr.out fr h hh) (fun v h' ⟨aj,al,a,b⟩=>(k v aj al a).out fr h' b) (fun _ _ ⟨_,_,h,_⟩=>h.elim)⟩
theorem X.aB.cc {P:Program} {ρ:Env} {σ:PH} {Γ:List HP} {fn:Func} {t1 t2:Tmp} {T1 T2:TypeId} {g1 o1 g2 o2:Nat} {v1 v2:Value} (hf:fn.results=#[.cell t1 T1,.cell t2 T2]) (h1:ρ t1=.pointer (some ⟨g1,o1,Option.none⟩)) (h2:ρ t2=.pointer (some ⟨g2,o2,Option.none⟩))
 (l1:∀h,Ho σ Γ h→Ld P h T1 g1 o1 v1) (l2:∀h,Ho σ Γ h→Ld P h T2 g2 o2 v2):aB P fn ρ σ Γ (.tuple #[v1,v2]):=fun h hh w a hw he=>by
 have e1:=he.get t1;rw[h1] at e1;simp at e1;have e2:=he.get t2;rw[h2] at e2;simp at e2;simp[results,hf,e1,e2,asAddr,l1 h hh w hw,l2 h hh w hw]
theorem HC {P:Program} {σ:PH} {Γ:List HP} {fn:Func} {RR:Ending→PH→List HP→Prop} {f:FuncId} {co:Code} {a:Value} (hf:P.funcs[f]? =some fn) (hb:fn.body=some co) (hn:eN fn=true) (hN:Nat.ble 1 fn.ntmps=true) (hx:sE P fn co (dO U 0 a) σ Γ RR):ah P f #[a] σ Γ RR:=
 ⟨enters hf hb hn,fun fr h hh=>Lt hf hb hn hN (fun s=>match s with
  |0=>rfl
  |s+1=>by rw[show (#[a]:Array Value).getD (s+1) undef=undef from by simp,fv _ _ _ _ ad]) (hx.out fr h hh)⟩
theorem Ar {s:ByteArray}:∀(f i:Nat) (acc l:List Tk),iY s f i acc=.ok l→i≤s.size→l.length≤acc.length+(s.size-i)
 |0,i,acc,l,h,hi=>by cases h;omega
 |f+1,i,acc,l,h,hi=>by
  rw[iY] at h;split at h
  ·rename_i hi;split at h
   ·rename_i t ht;obtain⟨h1,h2,h3⟩:=qD hi ht;have hle:=jq dH s (i:=i+t.text.size) h3;have:=Ar f _ _ l h hle;rw[bq,dZ] at this;omega
   ·cases h
  ·cases h;omega
theorem uQ {s:ByteArray} {l:List Tk} (h:fy s=.ok l):l.length≤s.size:=by
 have h0:=(pO h).1;rw[fy,ag ad] at h;have hle:=jq dH s (i:=0) ad
 cases hl:iY s (s.size+1) (bf dH s 0) [] with
 |ok l'=>rw[hl] at h;cases h;have:=Ar _ _ _ _ hl ad;simp only[List.length_nil] at this;omega
 |error i=>rw[hl] at h;cases h
def br (s:ByteArray):wg Pr:=match fy s with
 |.error x=>.error x
 |.ok l=>match jb s.size l with
  |.error x=>.error x
  |.ok (pr,_)=>if bZ pr≠0 then .error (bZ pr,-1) else .ok pr
def S7:wg Pr→Pr
 |.error _=>⟨[],[]⟩
 |.ok p=>p
theorem qH (σ:PH):gT σ [.slice none 0 0,.slice none 0 0] ⟨[],[]⟩:=⟨_,_,rfl,bV.nil _ _ _,bV.nil _ _ _⟩
def As (s:ByteArray) (σ:PH):Value→PH→List HP→Prop:=fun v aj al=>∃cs,v=.tuple #[.agg (List.toArray cs),.agg #[i64 (pN (br s)),i64 (Dm (br s))]]∧gT aj cs (S7 (br s))∧σ.sub aj∧al=[]
theorem Pz (σ:PH) (s:ByteArray) (hs:s.size≤100000000) (hT:py σ) (hE:kT σ):ah Tryz.prog 103 #[.string s] σ [] (aA (As s σ)):=by
 have Dy:=SS σ s hs hT hE
 cases hR:fy s with
 |error x=>
  obtain⟨x1,x2⟩:=x
  have he:¬(x1=0):=by
   have h:=hR;rw[fy] at h;split at h
   ·cases h;decide
   ·cases hl:iY s (s.size+1) (bf dH s 0) [] with
    |ok l'=>rw[hl] at h;cases h
    |error i=>rw[hl] at h;cases h;decide
  (have hp:br s=.error (x1,x2):=by rw[br,hR]);rw[hR] at Dy;replace Dy:ah Tryz.prog 143 #[.string s] σ [] (aA fun v aj al=>∃sl,v=.tuple #[sl,.agg #[i64 x1,i64 x2]]∧bV 4 je aj sl []∧σ.sub aj∧al=[]):=Dy;refine HC Tryz.func103 rfl rfl rfl ?_;refine sE.seq ?_;refine bS ?_;refine di (fun g2=>?_) (ae rfl);refine di (fun g3=>?_) (ae rfl);refine aU ?_;refine sE.seq ?_;refine aU ?_;refine zw rfl (ax.cE (Dy) rfl) ?_;rintro _ cO _ ⟨_,⟨sl,rfl,hl,bz,rfl⟩,rfl⟩;refine az.cl ?_;refine bg ?_;refine sE.seq ?_;refine bg ?_;refine XA.aY rfl (by first|rfl|exact aM he) ?_;refine bS ?_;refine et 4 76 [3] (ar.bB (R:=aw g2 _ _) zL (ar.bB (R:=aw g3 _ _) zL (ar.nil _))) ?_;refine aU ?_;refine aP.fw rfl rfl Gd.free (ax.st (ae rfl) rfl) ?_;rintro _ _ _ ⟨rfl,rfl,rfl⟩;refine stays ?_;refine kS rfl (ax.st (ae rfl) rfl) ?_;refine bY ?_;exact ao.ret (X.aB.cc rfl rfl rfl (Ld.bn (ae rfl) rfl zL rfl cK cJ) (Ld.bn (ae rfl) rfl zL rfl cK cJ)) (ar.nil _) ⟨_,by rw[hp];rfl,by rw[hp];exact qH _,bz,rfl⟩
 |ok l=>
  obtain⟨h6,cR⟩:=pO hR;have hF:∀t∈l,lH t:=fun t ht=>⟨by have:=(cR t ht).size;simp only[maxLen];omega,(cR t ht).num⟩
  have hL:l.length≤10000:=by
   have:=uQ hR;omega
  rw[hR] at Dy;replace Dy:ah Tryz.prog 143 #[.string s] σ [] (aA fun v aj al=>∃sl,v=.tuple #[sl,.agg #[i64 0,i64 0]]∧bV 4 je aj sl l∧σ.sub aj∧al=[]):=Dy;refine HC Tryz.func103 rfl rfl rfl ?_;refine sE.seq ?_;refine bS ?_;refine di (fun g2=>?_) (ae rfl);refine di (fun g3=>?_) (ae rfl);refine aU ?_;refine sE.seq ?_;refine aU ?_;refine zw rfl (ax.cE (Dy) rfl) ?_;rintro _ cO _ ⟨_,⟨sl,rfl,hl,bz,rfl⟩,rfl⟩;refine az.cl ?_;obtain⟨p,c,rfl,BB,tz⟩:=hl.shape;refine bg ?_;refine sE.seq ?_;refine bg ?_;refine XA.aI rfl (by first|rfl|exact aE (fun h=>h rfl)) ?_;refine aU ?_;refine sE.defer (caps:=#[ptr g2,ptr g3]) (enters Tryz.func144 rfl rfl) rfl (by simp only[List.map_toArray,List.map_cons,List.map_nil]) ?_;refine sD.seq ?_;refine X.sD.of ?_;refine zR (yA ?_);refine yA ?_;refine zO rfl (Rd.uv (ae rfl) rfl rfl) ?_;refine zO rfl (Rd.bl (fun _ _=>ae) rfl rfl rfl) ?_;refine zw rfl (ax.bx rfl) ?_;rintro _ _ _ ⟨gp,rfl,rfl,rfl⟩;refine yS ?_;refine zN (zT ?_);have Rs:=Jp cO gp p c s.size l hl hF hL;show sD _ _ _ _ _ _ _;refine sD.seq ?_;refine sD.region ?_;refine jH.rd rfl (Rd.move rfl) ?_
  cases hP:jb s.size l with
  |error x=>
   have hp:br s=.error x:=by rw[br,hR];simp only;rw[hP]
   have aa8:ah Tryz.prog 145 #[ptr gp] cO [aw gp [.slice p l.length c,i64 s.size,.slice none 0 0] 213] (na fun ch aj al=>ch=j4 x∧cO.sub aj∧∃cs,al=[aw gp cs 213]):=by
    refine Rs.mono fun en aj al hr=>?_
    cases en with
    |returned v=>obtain⟨x',SZ,h1,-⟩:=hr;rw[hP] at h1;cases h1
    |panicked ch=>obtain⟨x',h1,h2⟩:=hr;rw[hP] at h1;cases h1;exact h2
    |outgrown=>exact False.elim hr
   refine jH.die rfl aa8 rfl zD ?_;rintro _ cL _ ⟨rfl,bT,cb,rfl⟩;show dk _ _ _ _ _ _ _;refine X.dk.LK (LJ cL g2 g3 x _ _ rfl rfl) (Δ:=[]) zE ?_;rintro u' aj al fr h ⟨hu,rfl,rfl⟩ hh;simp only[List.cons_append,List.nil_append] at hh;refine⟨_,_,?_,hh⟩;refine⟨hu,_,X.aB.cc rfl rfl rfl (Ld.bn (ae rfl) rfl zL rfl cK cJ) (Ld.bn (ae rfl) rfl zL rfl cK cJ),[],ar.nil _,?_⟩;exact⟨_,by rw[hp];rfl,by rw[hp];exact qH _,bz.trans bT,rfl⟩
  |ok y=>
   obtain⟨pr,l'⟩:=y
   have Xp:ah Tryz.prog 145 #[ptr gp] cO [aw gp [.slice p l.length c,i64 s.size,.slice none 0 0] 213] (aA fun v aj al=>∃cs,v=.agg (List.toArray cs)∧gT aj cs pr∧cO.sub aj∧∃cb,al=[aw gp cb 213]):=by
    refine Rs.mono fun en aj al hr=>?_
    cases en with
    |returned v=>obtain⟨x',SZ,h1,h2⟩:=hr;rw[hP] at h1;cases h1;exact h2
    |panicked ch=>obtain⟨x',h1,-⟩:=hr;rw[hP] at h1;cases h1
    |outgrown=>exact False.elim hr
   refine jH.call rfl Xp rfl zD ?_;rintro _ cL _ ⟨cs,rfl,FO,bT,cb,rfl⟩;have Xq:=FO;obtain⟨vs,bs,rfl,hv,hb⟩:=FO;obtain⟨pv,cv,rfl,-,-⟩:=hv.shape;obtain⟨pb,cb2,rfl,-,-⟩:=hb.shape;simp only[List.cons_append,List.nil_append];refine X.jH.wr rfl (ax.st (ae rfl) rfl) ?_;rintro _ _ _ ⟨rfl,rfl,rfl⟩;refine jH.nil ?_;show sD _ _ _ _ _ _ _;refine sD.seq ?_;refine X.sD.of ?_;refine zS (zR ?_);refine zO rfl (Rd.Bl rfl) ?_;refine yC (oz cL _ pr Xq) ?_;refine yS ?_;refine zN (zT ?_);by_cases hc:bZ pr≠0
   ·(have hp:br s=.error (bZ pr,-1):=by rw[br,hR];simp only;rw[hP];simp only;rw[aq hc]);refine zS (zR (yA ?_));refine zO rfl (Rd.neq rfl rfl) ?_;refine zN (zT (XA.aY rfl (by first|rfl|exact aM hc) ?_));refine zS (zR ?_);refine zO rfl (Rd.bl (fun _ _=>ae) rfl rfl rfl) ?_;refine yA ?_;refine zO rfl (Rd.bl (fun _ _=>ae) rfl rfl rfl) ?_;refine zw rfl (ax.st (ae rfl) rfl) ?_;rintro _ _ _ ⟨rfl,rfl,rfl⟩;refine zw rfl (ax.st (ae rfl) rfl) ?_;rintro _ _ _ ⟨rfl,rfl,rfl⟩;refine zN (zT (XA.ret (DA.Bf ?_)));refine .here ?_;show dk _ _ _ _ _ _ _;refine X.dk.LK (Dw cL g2 g3) (Δ:=_) (ar.refl _) ?_;rintro u' aj al fr h ⟨hu,rfl,rfl⟩ hh;simp only[List.nil_append] at hh;refine⟨_,_,?_,hh⟩;refine⟨hu,_,X.aB.cc rfl rfl rfl (Ld.bn (ae rfl) rfl zL rfl cK cJ) (Ld.bn (ae rfl) rfl zL rfl cK cJ),[],ar.nil _,?_⟩;exact⟨_,by rw[hp];rfl,by rw[hp];exact qH _,bz.trans bT,rfl⟩
   ·(have hp:br s=.ok pr:=by rw[br,hR];simp only;rw[hP];simp only;rw[ag hc]);refine zS (zR (yA ?_));refine zO rfl (Rd.neq rfl rfl) ?_;refine zN (zT (XA.aI rfl (by first|rfl|exact aE hc) (XA.skip (zT ?_))));show sD _ _ _ _ _ _ _;refine X.sD.Xo ?_;refine zS (zR ?_);refine zO rfl (Rd.Bl rfl) ?_;refine zO rfl (Rd.bl (fun _ _=>ae) rfl rfl rfl) ?_;refine zw rfl (ax.st (ae rfl) rfl) ?_;rintro _ _ _ ⟨rfl,rfl,rfl⟩;refine zw rfl (ax.st (ae rfl) rfl) ?_;rintro _ _ _ ⟨rfl,rfl,rfl⟩;refine zN (zT (XA.ret ?_));refine .here ?_;show dk _ _ _ _ _ _ _;refine X.dk.LK (Dw cL g2 g3) (Δ:=_) (ar.refl _) ?_;rintro u' aj al fr h ⟨hu,rfl,rfl⟩ hh;simp only[List.nil_append] at hh;refine⟨_,_,?_,hh⟩;refine⟨hu,_,X.aB.cc rfl rfl rfl (Ld.bn (ae rfl) rfl zL rfl cK cJ) (Ld.bn (ae rfl) rfl zL rfl cK cJ),[],ar.nil _,?_⟩;exact⟨_,by rw[hp];rfl,by rw[hp];exact Xq,bz.trans bT,rfl⟩
theorem qI {w:ByteArray} {l:List Tk} (h:ku w l=true):l.length=l.tail.length+1:=by
 obtain⟨t,r,rfl⟩:=dv h;rfl
theorem Au {W:Int→ByteArray} {m:Nat} {l:List Tk} {k:Nat} (h:iC W m l=some k):l.length=l.tail.length+1:=qI (lY m 1 h).2.2.1
theorem Dz {α:Type} {e:Int} {x y:α} {l l':List Tk} (h:cT e x l=.ok (y,l')):x=y∧l.length=l'.length+1:=by
 rw[cT] at h;split at h
 ·rename_i q;cases h;exact⟨rfl,qI q⟩
 ·cases h
theorem HD {E:List Tk→PR Ex} (hE:∀l x l',E l=.ok (x,l')→uD x+l'.length≤l.length):∀(m:Nat) (l:List Tk) (acc xs:List Ex) (l':List Tk),dX E m l acc=.ok (xs,l')→lV xs+l'.length≤lV acc+l.length
 |0,l,acc,xs,l',h=>by cases h;exact bX _
 |m+1,l,acc,xs,l',h=>by
  rw[dX] at h
  cases q:E l with
  |error x=>rw[q] at h;cases h
  |ok y=>
   obtain⟨x,l1⟩:=y;rw[q] at h;have h1:=HD hE m l1 _ xs l' h;have h2:=hE l x l1 q;rw[sX] at h1;simp only[lV] at h1;omega
theorem BD {vl:List Va} {e:Int}:∀(f:Nat) (l:List Tk) (x:Ex) (l':List Tk),bL vl e f l=.ok (x,l')→uD x+l'.length≤l.length
 |0,l,x,l',h=>by cases h
 |f+1,l,x,l',h=>by
  rw[bL] at h;split at h
  ·rename_i q;have h0:=qI q
   cases hk:iC cS 8 l.tail with
   |none=>rw[hk] at h;cases h
   |some k=>
    rw[hk] at h;simp only at h;have h1:=Au hk
    cases hh:fH vl e k l.tail.tail with
    |error x=>rw[hh] at h;cases h
    |ok y=>
     obtain⟨vn,l3⟩:=y;rw[hh] at h;simp only at h;have h2:=(uL hh).2
     cases hs:dX (bL vl e f) (partsOf k).toNat l3 [] with
     |error x=>rw[hs] at h;cases h
     |ok z=>
      obtain⟨xs,l4⟩:=z;rw[hs] at h;simp only at h;have h3:=HD (BD f) _ _ _ _ _ hs;obtain⟨rfl,h4⟩:=Dz h;simp only[lV] at h3;simp only[uD];omega
  ·cases h
theorem HE {S:List Tk→PR St} (hS:∀l x l',S l=.ok (x,l')→Bq x+l'.length≤l.length):∀(g:Nat) (l:List Tk) (acc xs:List St) (l':List Tk),iF S g l acc=.ok (xs,l')→fh xs+l'.length≤fh acc+l.length
 |0,l,acc,xs,l',h=>by cases h
 |g+1,l,acc,xs,l',h=>by
  rw[iF] at h;split at h
  ·rename_i q;have:=qI q;cases h;omega
  ·cases q:S l with
   |error x=>rw[q] at h;cases h
   |ok y=>
    obtain⟨x,l1⟩:=y;rw[q] at h;have h1:=HE hS g l1 _ xs l' h;have h2:=hS l x l1 q;rw[pI] at h1;simp only[fh] at h1;omega
theorem HF {S:List Tk→PR St} {e:Int} (hS:∀l x l',S l=.ok (x,l')→Bq x+l'.length≤l.length) {l l':List Tk} {xs:List St} (h:dA S e l=.ok (xs,l')):fh xs+l'.length≤l.length:=by
 rw[dA] at h;split at h
 ·rename_i q;have h0:=qI q;have:=HE hS _ _ _ _ _ h;simp only[fh] at this;omega
 ·cases h
theorem LL {b:Bool} {x:Ex} {a:List Tk→PR Ex} {l l':List Tk} (ha:∀l x l',a l=.ok (x,l')→uD x+l'.length≤l.length) (h:cA b eU a l=.ok (x,l')):uD x+l'.length≤l.length+1:=by
 rw[cA] at h;split at h
 ·have:=ha _ _ _ h;omega
 ·cases h;simp only[eU,uD,lV];omega
theorem LM {b:Bool} {x:List St} {a:List Tk→PR (List St)} {l l':List Tk} (ha:∀l x l',a l=.ok (x,l')→fh x+l'.length≤l.length) (h:cA b [] a l=.ok (x,l')):fh x+l'.length≤l.length:=by
 rw[cA] at h;split at h
 ·exact ha _ _ _ h
 ·cases h;simp only[fh];omega
theorem BE {vl:List Va} {e:Int}:∀(f:Nat) (l:List Tk) (x:St) (l':List Tk),bH vl e f l=.ok (x,l')→Bq x+l'.length≤l.length
 |0,l,x,l',h=>by cases h
 |f+1,l,x,l',h=>by
  rw[bH] at h;split at h
  ·rename_i q;have h0:=qI q
   cases hk:iC eH 7 l.tail with
   |none=>rw[hk] at h;cases h
   |some k=>
    rw[hk] at h;simp only at h;have h1:=Au hk;obtain⟨v,l3,h3,h⟩:=fc h;obtain⟨x1,l4,h4,h⟩:=fc h;obtain⟨x2,l5,h5,h⟩:=fc h;obtain⟨x3,l6,h6,h⟩:=fc h;obtain⟨x4,l7,h7,h⟩:=fc h;have e3:=(iG (fun _ _ _=>tj) h3).2;have e4:=LL (BD f) h4;have e5:=LL (BD f) h5;have e6:=LM (fun _ _ _=>HF (BE f)) h6;have e7:=LM (fun _ _ _=>HF (BE f)) h7;obtain⟨rfl,h8⟩:=Dz h;simp only[Bq];omega
  ·cases h
theorem HG {S:List Tk→PR St} (hS:∀l x l',S l=.ok (x,l')→Bq x+l'.length≤l.length):∀(g:Nat) (l:List Tk) (acc xs:List St) (l':List Tk),ja S g l acc=.ok (xs,l')→fh xs≤fh acc+l.length
 |0,l,acc,xs,l',h=>by cases h
 |g+1,l,acc,xs,l',h=>by
  rw[ja] at h;split at h
  ·cases h;omega
  ·cases q:S l with
   |error x=>rw[q] at h;cases h
   |ok y=>
    obtain⟨x,l1⟩:=y;rw[q] at h;have h1:=HG hS g l1 _ xs l' h;have h2:=hS l x l1 q;rw[pI] at h1;simp only[fh] at h1;omega
theorem HI {e:Int}:∀(g:Nat) (l:List Tk) (acc vs:List Va) (l':List Tk),iZ e g l acc=.ok (vs,l')→l'.length≤l.length
 |0,l,acc,vs,l',h=>by cases h
 |g+1,l,acc,vs,l',h=>by
  rw[iZ] at h;split at h
  ·obtain⟨s,l1,h1,h⟩:=fc h;obtain⟨n,l2,h2,h⟩:=fc h;obtain⟨t1,e1,-,-⟩:=kE h1;have e2:=(Du h2).2;have e3:=HI g l2 _ vs l' h;(have e4:l.tail.length=l1.length+1:=by rw[e1];rfl);have e5:=(Sub.tail l).2;omega
  ·cases h;exact bX _
theorem PA {e:Int} {l r:List Tk} {p:Pr} (h:jb e l=.ok (p,r)):fh p.body≤l.length:=by
 rw[jb] at h;obtain⟨vl,l1,h1,h⟩:=fc h;obtain⟨b,l2,h2,h⟩:=fc h;cases h;have e1:=HI _ _ _ _ _ h1;have e2:=HG (BE 13) _ _ _ _ _ h2;simp only[fh] at e2;show fh b≤l.length;omega
theorem oG {s:ByteArray} {p:Pr} (h:br s=.ok p):bZ p=0∧fh p.body≤6000:=by
 rw[br] at h
 cases hs:fy s with
 |error y=>rw[hs] at h;cases h
 |ok l=>
  rw[hs] at h;simp only at h
  cases hp:jb s.size l with
  |error y=>rw[hp] at h;cases h
  |ok y=>
   obtain⟨pr,r⟩:=y;rw[hp] at h;simp only at h;have h6:=(pO hs).1;have hl:=uQ hs;have hn:=PA hp;split at h
   ·cases h
   ·rename_i hc;cases h;exact⟨Decidable.not_not.1 hc,ad⟩
structure av where
 l:List (List Int)
 wait:List (Nat×List Int)
namespace av
def ok (d:av):Prop:=d.l.length=34∧(∀w∈d.l,w.length=8)∧∀p∈d.wait,p.1<34∧p.2.length=8
def cells (d:av):List Value:=ints d.l.flatten
def oH (d:av):List Value:=d.wait.flatMap fun p=>i64 p.1::ints p.2
def last (w:List Int) (at_:Nat) (ps:List (Nat×List Int)):List Int:=ps.foldl (fun w p=>if p.1=at_ then p.2 else w) w
def bU:List Int:=List.replicate 8 0
def read (d:av) (at_:Int):List Int:=if 0≤at_∧at_<34 then last (d.l.getD at_.toNat bU) at_.toNat d.wait else bU
def write (d:av) (at_:Int) (w:List Int):av:=if 0≤at_∧at_<34 then {d with wait:=d.wait++[(at_.toNat,w)]} else d
def settle (d:av) (is:Nat→Bool):av:={l:=(d.wait.zipIdx.foldl (fun l p=>if is p.2 then l.set p.1.1 p.1.2 else l) d.l),wait:=[]}
def new:av:={l:=List.replicate 34 bU,wait:=[]}
theorem LN:new.ok:=⟨by simp[new],by simp[new,bU],by simp[new]⟩
end av
def bW (b:Nat) (d:av):HP:=fun m=>∃sl,Sat [aw b (d.cells++[sl]) 225,aS 278 9 sl d.wait.length d.oH] m∧d.ok
theorem bW.mk {b:Nat} {d:av} {sl:Value} {cs xs:List Value} {n:Nat} (hd:d.ok) (e1:cs=d.cells) (e2:n=d.wait.length) (e3:xs=d.oH):∀m,Sat [aw b (cs++[sl]) 225,aS 278 9 sl n xs] m→bW b d m:=fun _ h=>⟨sl,by subst e1;subst e2;subst e3;exact h,hd⟩
theorem HJ (σ:PH) (a:Int):ah Tryz.prog 215 #[.int .i64 a] σ [] (aA fun v aj al=>v=.bool (decide (0≤a∧a<34))∧σ=aj∧al=[]):=by
 by_cases h0:0≤a
 ·refine cM Tryz.func215 ?_;refine dV ?_;exact ao.ret (aB.one rfl rfl) (ar.refl _) ⟨by simp[h0],rfl,rfl⟩
 ·refine cM Tryz.func215 ?_;refine dV ?_;exact ao.ret (aB.one rfl rfl) (ar.refl _) ⟨by simp[h0],rfl,rfl⟩
theorem bW.aW {b:Nat} {d:av}:∀m,bW b d m→∃x:Option Addr×Nat,d.ok∧Sat [aw b (d.cells++[.slice x.1 d.wait.length x.2]) 225,aS 278 9 (.slice x.1 d.wait.length x.2) d.wait.length d.oH] m:=by
 rintro m ⟨sl,h,ok⟩;obtain⟨m1,m2,a,⟨m3,m4,b,c⟩,e⟩:=h;obtain⟨x,⟨rfl,-⟩,-⟩:=I9 _ b;exact⟨x,ok,m1,m2,a,⟨m3,m4,b,c⟩,e⟩
theorem lJ {d:av} (hd:d.ok):d.cells.length=272:=by
 have:∀(l:List (List Int)),(∀w∈l,w.length=8)→l.flatten.length=l.length*8:=by
  intro l
  induction l with
  |nil=>intro _;rfl
  |cons a l ih=>intro hl;simp[ih (fun w hw=>hl w (by simp[hw])),hl a aZ];omega
 rw[av.cells,ints,List.length_map,this d.l hd.2.1,hd.1]
theorem nK {d:av} {a:Int} {w:List Int} (hc:0≤a∧a<34):d.write a w={d with wait:=d.wait++[(a.toNat,w)]}:=by rw[av.write,aq hc]
theorem Av {d:av} {a:Int} {w:List Int} (hc:¬(0≤a∧a<34)):d.write a w=d:=by rw[av.write,ag hc]
theorem av.ok.write {d:av} (hd:d.ok) {a:Int} {w:List Int} (hw:w.length=8):(d.write a w).ok:=by
 by_cases hc:0≤a∧a<34
 ·rw[nK hc];refine⟨hd.1,hd.2.1,fun p hp=>?_⟩;simp only[List.mem_append,List.mem_singleton] at hp;rcases hp with hp|rfl
  ·exact hd.2.2 p hp
  ·exact⟨gF,hw⟩
 ·rw[Av hc];exact hd
theorem LO {d:av} (hd:d.ok) (sl:Value):(d.cells++[sl])[272]? =some sl:=by rw[List.getElem?_append_right (by rw[lJ hd];exact bX _)];simp[lJ hd]
theorem aa9 {d:av} (hd:d.ok) (sl sl':Value):aQ (d.cells++[sl]) 272 [sl']=d.cells++[sl']:=by simp[aQ,lJ hd]
theorem HK (σ:PH) (b:Nat) (d:av) (a:Int) (w:List Int) (hw:w.length=8) (hlen:d.wait.length<1000000):
 ah Tryz.prog 246 #[ptr b,i64 a,wv w] σ [bW b d] (aA fun v aj al=>v=.bool (decide (0≤a∧a<34))∧σ=aj∧al=[bW b (d.write a w)]):=by
 (refine lS Tryz.func246 ?_;refine aU ?_;refine cP fun g5=>?_;refine bg ?_;refine yC (HJ σ a) ?_;refine aU ?_);(first|refine XA.aW (R:=bW b d) zL (bW.aW) ?_|refine az.aW (R:=bW b d) zL (bW.aW) ?_|refine DA.aW (R:=bW b d) zL (bW.aW) ?_);rintro⟨pp,cc⟩ cR;refine gX ?_;have h1:=LO cR (.slice pp d.wait.length cc);have iP:=aa9 cR (.slice pp d.wait.length cc);have hl:=lJ cR;refine XA.bE rfl (fun hc=>?_) (fun hc=>?_)
 ·skip;refine et 13 1116180 [9,12] (ar.bB (R:=aw b _ _) zL (ar.bB (R:=aw g5 _ _) zL (ar.nil _))) ?_;refine bJ ?_;refine aP.fw rfl rfl Gd.free (ax.jY (ae rfl) rfl (ae rfl)) ?_;rintro _ _ _ ⟨g17,rfl,rfl,rfl⟩;refine stays ?_;refine aP.b7 rfl rfl Gd.free aC (ax.kM (ae rfl) rfl (ae rfl) rfl rfl rfl) ?_;rintro _ _ _ ⟨p18,c18,rfl,rfl,rfl⟩;refine aU ?_;refine kS rfl (ax.st (ae rfl) rfl) ?_;refine dc ?_;refine yC (HJ σ a) ?_;refine bY ?_;refine ao.ret (aB.one rfl rfl) (ar.eS zE (bW.mk (cR.write hw) ?_ ?_ ?_)) ⟨rfl,rfl,rfl⟩
  ·rw[nK hc];rfl
  ·rw[nK hc];simp
  ·rw[nK hc];simp only[av.oH,List.flatMap_append,List.flatMap_cons,List.flatMap_nil,List.append_nil,Int.toNat_of_nonneg hc.1]
 ·refine dc ?_;refine yC (HJ σ a) ?_;refine bY ?_;exact ao.ret (aB.one rfl rfl) (ar.eS zE (bW.mk cR rfl rfl rfl)) ⟨rfl,rfl,by rw[Av hc]⟩
theorem eV {α:Type} {l:List α} {k:Nat} {x:α} (hk:l[k]? =some x):l.take (k+1)=l.take k++[x]:=by
 rw[List.take_add_one,hk];rfl
theorem Aw (w:List Int) (n:Nat) (ps:List (Nat×List Int)) (p:Nat×List Int):av.last w n (ps++[p])=if p.1=n then p.2 else av.last w n ps:=by simp[av.last]
theorem Xr {d:av} (hd:d.ok) {k:Nat} {p:Nat×List Int} (hk:d.wait[k]? =some p):(d.oH.drop (k*9)).take (i64 p.1::ints p.2).length=i64 p.1::ints p.2:=
 pC (fun p:Nat×List Int=>i64 p.1::ints p.2) 9 d.wait (fun x hx=>by simp[(hd.2.2 x hx).2]) k p hk
theorem abb {d:av} (hd:d.ok) {k:Nat} {w:List Int} (hk:d.l[k]? =some w) (sl:Value):((d.cells++[sl]).drop (k*8)).take 8=ints w:=by
 have h1:=pC (fun w=>ints w) 8 d.l (fun x hx=>by simp[hd.2.1 x hx]) k w hk;(have aV:k<34:=by rw[←hd.1];exact(List.getElem?_eq_some_iff.1 hk).1);(have h2:d.cells=d.l.flatMap (fun w=>ints w):=by simp[av.cells,ints,List.flatMap,List.map_flatten]);have fG:=lJ hd;have hw:w.length=8:=hd.2.1 w (fg hk);rw[show (ints w).length=8 from by simp[hw]] at h1;rw[List.drop_append_of_le_length ad,List.take_append_of_le_length sU,h2];exact h1
theorem DB {w:List Int} (hw:w.length=8) (n:Nat):∀(ps:List (Nat×List Int)),(∀p∈ps,p.2.length=8)→(av.last w n ps).length=8:=by
 intro ps
 induction ps generalizing w with
 |nil=>intro _;exact hw
 |cons p ps ih=>
  intro hp;simp only[av.last,List.foldl_cons];refine ih ?_ (fun q hq=>hp q (by simp[hq]));split
  ·exact hp p aZ
  ·exact hw
theorem FP (σ:PH) (b:Nat) (d:av) (a:Int) (hlen:d.wait.length<1000000):
 ah Tryz.prog 183 #[ptr b,i64 a] σ [bW b d] (aA fun v aj al=>v=wv (d.read a)∧σ=aj∧al=[bW b d]):=by
 refine cw Tryz.func183 ?_;refine aU ?_;refine di (fun g4=>?_) (ae rfl);refine a8 ?_;refine yC (HJ σ a) ?_;refine cx ?_;refine XA.bE rfl (fun hc=>?_) (fun hc=>?_)
 ·refine aU ?_;refine zO rfl (Rd.WV (fun _ _=>ae) rfl rfl rfl) ?_;refine dc ?_;refine ao.ret (aB.cell rfl rfl (Ld.bn (ae rfl) rfl zL rfl cK cJ)) zE ⟨?_,rfl,rfl⟩;rw[av.read,ag hc];rfl
 ·have hc:0≤a∧a<34:=Decidable.not_not.1 hc;(first|refine XA.aW (R:=bW b d) zL (bW.aW) ?_|refine az.aW (R:=bW b d) zL (bW.aW) ?_|refine DA.aW (R:=bW b d) zL (bW.aW) ?_);rintro⟨pp,cc⟩ cR;refine gX ?_;obtain⟨w0,E9⟩:∃w0,d.l[a.toNat]? =some w0:=⟨_,b9 (by rw[cR.1];omega)⟩;have Vs:w0.length=8:=cR.2.1 w0 (fg E9);have Dx:=abb cR E9 (.slice pp d.wait.length cc);have hcw:=LO cR (.slice pp d.wait.length cc);(have oY:d.read a=av.last w0 a.toNat d.wait:=by rw[av.read,aq hc,ey,E9];rfl);refine aR ?_;refine di (fun g5=>?_) (ae rfl);(refine dh ?_;refine XA.gen [(1,_),(4,_),(5,_),(21,_),(22,_),(23,_)] iX fun δ=>?_);dsimp only[List.foldl];refine XA.loop [(7,7),(23,33)] (fun k:Nat=>[(23,i64 k)]) (fun k aj al=>σ=aj∧k≤d.wait.length∧al=[aw g5 (ints (av.last w0 a.toNat (d.wait.take k))) 221,aw g4 KX.zero 221,aw b (d.cells++[.slice pp d.wait.length cc]) 225,aS 278 9 (.slice pp d.wait.length cc) d.wait.length d.oH]) (fun k=>d.wait.length-k) 0 eb (Δ0:=_) ?_ (⟨rfl,cg _,rfl⟩) ?_
  ·exact zE
  rintro k δ _ _ ⟨rfl,hk,rfl⟩;dsimp only[dq,List.foldl];have E8:(av.last w0 a.toNat (d.wait.take k)).length=8:=DB Vs _ _ (fun p hp=>(cR.2.2 p (List.mem_of_mem_take hp)).2);refine a8 ?_;refine XA.bE rfl (fun aV=>?_) (fun aV=>?_)
  ·(have aV:k<d.wait.length:=by omega);obtain⟨p,hp⟩:∃p,d.wait[k]? =some p:=⟨_,b9 aV⟩;have hp8:p.2.length=8:=(cR.2.2 p (fg hp)).2;(have bG:(d.oH.drop (k*9)).take 9=i64 p.1::ints p.2:=by have:=Xr cR hp;simpa[hp8] using this);have um:=eV hp;(first|refine XA.aW (R:=aS 278 9 (.slice pp d.wait.length cc) _ _) zL (dG ad) ?_|refine az.aW (R:=aS 278 9 (.slice pp d.wait.length cc) _ _) zL (dG ad) ?_|refine DA.aW (R:=aS 278 9 (.slice pp d.wait.length cc) _ _) zL (dG ad) ?_);rintro g rfl;refine gX ?_;refine bJ ?_;refine di (fun g7=>?_) (ae rfl);refine cp ?_;refine XA.bE rfl (fun heq=>?_) (fun heq=>?_)
   ·refine bm ?_;(have e:av.last w0 a.toNat (d.wait.take (k+1))=p.2:=by rw[um,Aw,aq ad]);refine⟨bQ,k+1,_,zM,?_,⟨rfl,aV,rfl⟩,ad⟩
    ·rw[e];exact zE
   ·refine bJ ?_;(have e:av.last w0 a.toNat (d.wait.take (k+1))=av.last w0 a.toNat (d.wait.take k):=by rw[um,Aw,ag ad]);refine⟨bQ,k+1,_,zM,?_,⟨rfl,aV,rfl⟩,ad⟩
    ·rw[e];exact zE
  ·(have sC:k=d.wait.length:=by omega);subst sC;rw[List.take_length] at*;refine bm ?_;exact ao.ret (aB.cell rfl rfl (Ld.bn (ae rfl) rfl zL rfl cK cJ)) (ar.eS zE (bW.mk (sl:=.slice pp d.wait.length cc) cR rfl rfl rfl)) ⟨by rw[oY];rfl,rfl,rfl⟩
theorem Xs (σ:PH):ah Tryz.prog 105 #[] σ [] (aA fun v aj al=>∃b,v=ptr b∧σ=aj∧al=[bW b av.new]):=by
 (refine zf0 Tryz.func105 ?_;refine bJ ?_;refine cP fun g2=>?_;refine bY ?_);(have hw:KY.zero=av.new.cells++[.slice none 0 0]:=by simp only[av.cells,av.new,av.bU,ints,List.flatten_replicate_replicate,List.map_replicate];rfl);rw[show (Value.int IntKind.i64 0::(List.replicate 271 (Value.int IntKind.i64 0)).append (List.replicate 1 (Value.slice none 0 0)))=KY.zero from rfl,hw];exact ao.ret (aB.one rfl rfl) (ar.eS zE (bW.mk (sl:=.slice none 0 0) (n:=0) (xs:=[]) av.LN rfl rfl rfl)) ⟨_,rfl,rfl,rfl⟩
end Go.Proofs.YtgeoiflbjcehcaaGreatDoor
