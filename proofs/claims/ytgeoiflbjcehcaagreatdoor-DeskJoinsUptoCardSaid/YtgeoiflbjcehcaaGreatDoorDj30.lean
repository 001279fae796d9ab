import Derived.Test.YtgeoiflbjcehcaaGreatDoorDj29
import Derived.LaidLaws
import Derived.Stop.LaidErr
import Derived.RowKit3
import Derived.RowKitTokens
import Derived.ChangeMaps5
import Derived.Handed
import Derived.SizedLaws
set_option maxHeartbeats 4000000
set_option maxRecDepth 2000
set_option linter.unusedVariables false
set_option linter.unusedSimpArgs false
namespace Go.Proofs.YtgeoiflbjcehcaaGreatDoor
open Go X
def eV:List ByteArray→Nat
 |[]=>0
 |s::l=>pw s+eV l
def kv:List ByteArray→Nat
 |[]=>0
 |s::l=>s.size+kv l
def px:List ByteArray→Nat
 |[]=>0
 |s::l=>s.size+1+px l
theorem kz:∀(a b:List ByteArray),eV (a++b)=eV a+eV b
 |[],b=>by simp[eV]
 |s::a,b=>by rw[List.cons_append,eV,eV,kz a b];omega
theorem py:∀(a b:List ByteArray),kv (a++b)=kv a+kv b
 |[],b=>by simp[kv]
 |s::a,b=>by rw[List.cons_append,kv,kv,py a b];omega
theorem C9:∀(a b:List ByteArray),px (a++b)=px a+px b
 |[],b=>by simp[px]
 |s::a,b=>by rw[List.cons_append,px,px,C9 a b];omega
theorem OS:∀{l:List ByteArray},∀x∈l,x.size≤px l
 |[],x,h=>by cases h
 |s::l,x,h=>by
  rw[px];rcases List.mem_cons.1 h with rfl|h
  ·omega
  ·have:=OS x h;omega
theorem OT:∀(l:List ByteArray),l.length≤px l
 |[]=>Nat.le_refl _
 |s::l=>by have:=OT l;rw[px,List.length_cons];omega
theorem VW:∀(l:List ByteArray),(rn l).size≤px l
 |[]=>Nat.le_refl _
 |s::l=>by
  have key:∀(r:List ByteArray) (t:ByteArray),(r.foldl (fun t y=>t++zF++y) t).size≤t.size+px r:=by
   intro r
   induction r with
   |nil=>intro t;exact Nat.le_refl _
   |cons y r ih=>
    intro t;have:=ih (t++zF++y);rw[List.foldl_cons,px];have e:zF.size=1:=rfl;simp only[ByteArray.size_append] at this;omega
  have:=key l s;rw[px];show (l.foldl (fun t y=>t++zF++y) s).size≤_;omega
theorem tE.of {l:List ByteArray} (h:px l≤1000000):tE l:=⟨fun x hx=>by have:=OS x hx;simp only[maxLen];omega,by have:=OT l;omega,by have:=VW l;omega⟩
theorem nM (d:jT) (p:Pr) (inp:List Int) (L:Li) (s:oV):(iz d p inp L s).1.text=d.text:=by
 rw[iz];split<;>rfl
theorem Bx (d:jT):(iJ d).1.text=d.text:=by
 rw[iJ];split
 ·rfl
 ·split<;>rfl
theorem By (d:jT) (p:Pr) (inp:List Int) (L:Li) (w:ByteArray) (n:List Int):(jK d p inp L w n).1.text=d.text:=by
 rw[jK];split
 ·exact nM ..
 split
 ·exact nM ..
 split
 ·exact nM ..
 split<;>rfl
theorem EC (d:jT) (w:ByteArray) (n:List Int):(jV d w n).1.text=d.text∨(jV d w n).1.text=[]:=by
 rw[jV];split
 ·exact .inr rfl
 split
 ·exact .inl rfl
 split
 ·exact .inl (Bx d)
 split
 ·exact .inl rfl
 split
 ·exact .inl rfl
 ·exact .inl (By ..)
theorem Bz (d:jT) (s:ByteArray):px (fQ d s).1.text≤px d.text+s.size:=by
 rw[fQ];split
 ·rename_i h;show px (d.text++[s.extract 1 s.size])≤_;rw[C9,px,px,ByteArray.size_extract];omega
 split
 ·exact Nat.le_add_right _ _
 split
 ·exact Nat.le_add_right _ _
 ·rename_i w r _ _ n _;rcases EC d w n with h|h<;>rw[h]
  ·exact Nat.le_add_right _ _
  ·exact Nat.zero_le _
theorem ma:∀(l:List ByteArray) (d:jT),px (cy d l).1.text≤px d.text+kv l
 |[],d=>Nat.le_refl _
 |s::l,d=>by
  have h1:=Bz d s;have h2:=ma l (fQ d s).1;rw[cy,kv];show px (cy (fQ d s).1 l).1.text≤_;omega
theorem Da:∀{l:List ByteArray},∀x∈l,x.size≤kv l
 |[],x,h=>by cases h
 |s::l,x,h=>by
  rw[kv];rcases List.mem_cons.1 h with rfl|h
  ·omega
  ·have:=Da x h;omega
theorem pz (l:List ByteArray) (i:Nat):kv (l.take i)≤kv l:=by
 have h:=congrArg kv (List.take_append_drop i l);rw[py] at h;omega
theorem nO (l:List ByteArray) (i:Nat):eV (l.take i)≤eV l:=by
 have h:=congrArg eV (List.take_append_drop i l);rw[kz] at h;omega
theorem rz (d:jT) (l:List ByteArray) (s:ByteArray):cy d (l++[s])=((fQ (cy d l).1 s).1,(cy d l).2++(fQ (cy d l).1 s).2):=by
 rw[nF];simp[cy]
theorem HQ {ls:List ByteArray} {i:Nat} {s:ByteArray} (h:ls[i]? =some s) (hn:oZ s=false):zQ (i:Nat) (ls.drop i)=zQ ((i+1:Nat):Int) (ls.drop (i+1)):=by
 rw[er h,zQ,if_neg (by rw[hn];decide)];rfl
theorem LX {ls:List ByteArray} {i:Nat} {s:ByteArray} (h:ls[i]? =some s) (hn:oZ s=true):zQ (i:Nat) (ls.drop i)=(14,(i:Int)):=by
 rw[er h,zQ,if_pos hn]
def lk (σ:PH) (gd:Nat) (d:jT) (k:Nat) (Γ:List HP):Prop:=∃q sl pt ct pi ci xv b7,aV σ (.slice pi d.input.length ci) d.input∧(∀x∈d.input,aF x)∧mY σ xv d.tp k b7∧
 Γ=au gd [q,sl,.slice pt d.text.length ct,.slice pi d.input.length ci,xv] 49::bn 9 1 (.slice pt d.text.length ct) d.text.length (d.text.map Value.string)::b7
theorem LY (σ:PH) (gd:Nat) (q sl v0 v1 v2:Value):ae Tryz.prog 13 #[ptr gd] σ [au gd [q,sl,v0,v1,v2] 49] (aE fun v ag ah=>v=.tuple #[]∧σ=ag∧ah=[au gd [.pointer none,.slice none 0 0,v0,v1,v2] 49]):=by
 refine dF Tryz.func13 ?_;refine dJ ?_;exact fU rfl ⟨rfl,rfl,rfl⟩
theorem aw.back {Γ:List HP} {R:HP}:aw (R::Γ) (Γ++[R]):=fun m ⟨m1,m2,a,b,c,d,e⟩=>Sat.join b (show Sat [R] m1 from ⟨m1,PH.none,a,trivial,PH.cK _,.refl _,PH.ej _⟩) c.symm e d
theorem aw.front {Γ:List HP} {R:HP}:aw (Γ++[R]) (R::Γ):=fun m x=>by
 obtain⟨m1,m2,a,⟨n1,n2,b,-,-,s1,-⟩,c,d,e⟩:=Sat.append x;exact⟨n1,m1,b,a,(c.mono (.refl _) s1).symm,s1.trans e,d⟩
theorem dbl (σ:PH) (gd:Nat) (d:jT) (k:Nat) (ls:List ByteArray) (pl:Option Addr) (cl:Nat) (Γ:List HP) (hD:lk σ gd d k Γ) (hl:bO 1 n9 σ (.slice pl ls.length cl) ls) (H5:px d.text+kv ls≤1000000) (hT:rP σ) (hE:lp σ) (hk:k+eV ls+3000≤160000):
 ae Tryz.prog 8 #[ptr gd,.slice pl ls.length cl] σ Γ (aE fun v ag ah=>σ.sub ag∧((aM ls≠(0,0)∧v=.tuple #[.string ByteArray.empty,.agg #[i64 (aM ls).1,i64 (aM ls).2]]∧lk ag gd d k ah)∨(aM ls=(0,0)∧(∀j,j≤ls.length→(cZ ByteArray.empty (cy d (ls.take j)).2).size≤4000000*j)∧ls.length≤150∧v=.tuple #[.string (cZ ByteArray.empty (cy d ls).2),.agg #[i64 0,i64 0]]∧lk ag gd (cy d ls).1 (k+eV ls) ah))):=by
 obtain⟨p0,c0,e0,mR,VX⟩:=hl.shape;cases e0;simp only[maxLen] at VX;by_cases ED:150<ls.length
 ·(have hF:aM ls=(3,-1):=by rw[aM,if_pos ED]);(have Sp:((ls.length:Nat):Int)>150:=by omega);rw[hF];obtain⟨q,sl,pt,ct,pi,ci,xv,b7,hi,qC,hL,rfl⟩:=hD;refine bS Tryz.func8 ?_;refine bq ?_;refine cR (fun g5=>?_) (ad rfl);refine aW ?_;refine XA.bG rfl (by first|rfl|exact decide_eq_true Sp) ?_;refine a8 ?_;exact ao.ret (X.aG.SH rfl rfl rfl (Ld.bN (ad rfl) rfl zL rfl (by first|exact bJ (by first|rfl|assumption|(refine(aj _).trans ?_;assumption)|(simp[*];(first|done|fail)))|assumption|exact aI (by first|rfl|assumption|(refine(aj _).trans ?_;assumption)|(simp[*];(first|done|fail)))|(conv=>lhs;simp only[List.drop_succ_cons,List.drop_zero,List.take_succ_cons,List.take_zero])) (by first|rfl|assumption|(refine(aj _).trans ?_;assumption)|(simp[*];(first|done|fail))))) aw.tail ⟨.refl _,.inl ⟨by decide,rfl,q,sl,pt,ct,pi,ci,xv,b7,hi,qC,hL,rfl⟩⟩
 ·(have Sp:¬((ls.length:Nat):Int)>150:=by omega);obtain⟨q,sl,pt,ct,pi,ci,xv,b7,hi,qC,hL,rfl⟩:=hD;(have hF0:aM ls=zQ 0 ls:=by rw[aM,if_neg ED]);rw[hF0];refine bS Tryz.func8 ?_;refine bq ?_;refine cR (fun g5=>?_) (ad rfl);refine aW ?_;refine XA.aR rfl (by first|rfl|exact decide_eq_false Sp) ?_;(refine cg ?_;refine XA.gen [(0,_),(1,_),(4,_),(5,_),(14,_),(15,_),(16,_)] jN fun δ=>?_);dsimp only[List.foldl];refine XA.loop [(4,4),(6,7),(16,25)] (fun i:Nat=>[(16,i64 i)]) (fun i ag ah=>σ=ag∧i≤ls.length∧zQ 0 ls=zQ (i:Nat) (ls.drop i)∧ah=au g5 [i64 0,i64 0] 34::au gd [q,sl,.slice pt d.text.length ct,.slice pi d.input.length ci,xv] 49::bn 9 1 (.slice pt d.text.length ct) d.text.length (d.text.map Value.string)::b7) (fun i=>ls.length-i) 0 (by exact⟨rfl,trivial⟩) (Δ0:=_) ?_ (⟨rfl,Nat.zero_le _,rfl,rfl⟩) ?_
  ·exact aw.refl _
  rintro i δ _ _ ⟨rfl,Zx,bF,rfl⟩;dsimp only[eb,List.foldl];by_cases aT:i<ls.length
  ·obtain⟨s,hs⟩:∃s,ls[i]? =some s:=⟨_,List.getElem?_eq_getElem aT⟩;obtain⟨gs,os,row,rfl,⟨rfl,-⟩,-,bL⟩:=hl.at hs;rw[Nat.mul_one] at bL;refine aO ?_;refine mQ ?_;refine ic ?_;refine zw rfl (aC.cE (yK σ s) rfl) ?_;rintro _ _ _ ⟨_,⟨rfl,rfl,rfl⟩,rfl⟩;refine az.cl ?_;refine aN ?_
   cases hn:oZ s with
   |true=>
    rw[LX hs hn] at bF;rw[bF];refine cr ?_;refine ao.ret (X.aG.SH rfl rfl rfl (Ld.bN (ad rfl) rfl zL rfl (by first|exact bJ (by first|rfl|assumption|(refine(aj _).trans ?_;assumption)|(simp[*];(first|done|fail)))|assumption|exact aI (by first|rfl|assumption|(refine(aj _).trans ?_;assumption)|(simp[*];(first|done|fail)))|(conv=>lhs;simp only[List.drop_succ_cons,List.drop_zero,List.take_succ_cons,List.take_zero])) (by first|rfl|assumption|(refine(aj _).trans ?_;assumption)|(simp[*];(first|done|fail))))) aw.tail ⟨.refl _,.inl ⟨(by intro h;cases h),rfl,q,sl,pt,ct,pi,ci,xv,b7,hi,qC,hL,rfl⟩⟩
   |false=>
    have iM:=HQ hs hn;refine a8 ?_;refine⟨cF,i+1,_,zM,?_,⟨rfl,aT,bF.trans iM,rfl⟩,(by omega)⟩
    ·exact aw.refl _
  ·have H9:ls.drop i=[]:=List.drop_of_length_le (by omega);rw[H9] at bF;have bF:zQ 0 ls=(0,0):=bF;rw[bF];refine aO ?_;refine lz ?_;refine aW ?_;refine zw rfl (aC.cE (LY σ gd q sl _ _ _) rfl) ?_;rintro _ _ _ ⟨_,⟨rfl,rfl,rfl⟩,rfl⟩;refine az.cl ?_;refine az.eS (aw.fold (S:=cM 49 gd [.slice pt d.text.length ct,.slice pi d.input.length ci,xv] ByteArray.empty) (Θ:=[au gd (k6 false gd::.slice none 0 0::[.slice pt d.text.length ct,.slice pi d.input.length ci,xv]) 49,bn 5 1 (.slice none 0 0) 0 []]) (aw.take b6.head (aw.kC (aw.all _))) (fun m hm=>⟨false,none,0,fun _=>⟨rfl,rfl⟩,hm⟩) (aw.refl _)) ?_;(refine cg ?_;refine XA.gen [(0,_),(4,_),(5,_),(30,_),(31,_),(32,_)] jN fun δ=>?_);dsimp only[List.foldl];refine XA.loop [(9,9),(32,39)] (fun i:Nat=>[(32,i64 i)]) (fun i ag ah=>σ.sub ag∧i≤ls.length∧∃ot,ku ag gd (cy d (ls.take i)).1 (cZ ByteArray.empty (cy d (ls.take i)).2) (k+eV (ls.take i)) ot∧(∀j,j≤i→(cZ ByteArray.empty (cy d (ls.take j)).2).size≤4000000*j)∧ah=au g5 [i64 0,i64 0] 34::ot) (fun i=>ls.length-i) 0 (by exact⟨rfl,trivial⟩) (Δ0:=_) ?_ (⟨.refl _,Nat.zero_le _,_,⟨pt,ct,pi,ci,xv,b7,hi,qC,hL,rfl⟩,(fun j hj=>by obtain rfl:j=0:=Nat.le_zero.1 hj;exact Nat.le_refl _),rfl⟩) ?_
   ·exact aw.bP (b6.tail b6.head) (aw.refl _)
   rintro j N2 dq _ ⟨bT,hj,ot,hX,gD,rfl⟩;dsimp only[eb,List.foldl];by_cases E0:j<ls.length
   ·obtain⟨s,hs⟩:∃s,ls[j]? =some s:=⟨_,List.getElem?_eq_getElem E0⟩;obtain⟨gs,os,row,rfl,⟨rfl,-⟩,-,bL⟩:=(hl.mono bT (fun _ _ h=>h)).at hs;rw[Nat.mul_one] at bL;have xU:=nO ls j;have aei:=gD j (Nat.le_refl _);have AI:=nO ls (j+1);rw[fN hs,kz,eV,eV] at AI;have Wc:=ma (ls.take j) d;have Y1:=pz ls j;have hsx:=Da s (List.mem_of_getElem? hs);have Is:=So dq gd _ _ _ s ot hX (tE.of (by omega)) (by omega) (hT.mono bT) (hE.mono bT) (by omega) (by omega);refine aO ?_;refine mQ ?_;refine dJ ?_;refine zw rfl (aC.cE Is rfl aw.back) ?_;rintro _ lB _ ⟨Γ3,⟨rfl,fc,htl,hX3⟩,rfl⟩;refine az.eS aw.front ?_;refine bC ?_;refine⟨cF,j+1,_,zM,?_,⟨bT.trans fc,E0,Γ3,(by rw[fN hs,rz,nG,kz];show ku _ _ _ _ (k+(eV (ls.take j)+(pw s+0))) _;rw[Nat.add_zero,←Nat.add_assoc];exact hX3),(fun q hq=>(Nat.lt_or_ge q (j+1)).elim (fun h=>gD q (by omega)) (fun h=>by rw[show q=j+1 by omega,fN hs,rz,nG,rq];omega)),rfl⟩,(by omega)⟩
    ·exact aw.refl _
   ·have AK:ls.take j=ls:=List.take_of_length_le (by omega);rw[AK] at hX;(obtain rfl:j=ls.length:=by omega);obtain⟨pt2,ct2,RY,RZ,xv2,Γ4,EW,Z9,EV,rfl⟩:=hX;refine aO ?_;refine lz ?_;refine aW ?_;refine zw rfl (aC.cE (Hn dq 49 gd _ _) rfl) ?_;rintro _ _ _ ⟨_,⟨rfl,rfl,q2,sl2,rfl⟩,rfl⟩;refine az.cl ?_;refine aO ?_;exact ao.ret (X.aG.SH rfl rfl rfl (Ld.bN (ad rfl) rfl zL rfl (by first|exact bJ (by first|rfl|assumption|(refine(aj _).trans ?_;assumption)|(simp[*];(first|done|fail)))|assumption|exact aI (by first|rfl|assumption|(refine(aj _).trans ?_;assumption)|(simp[*];(first|done|fail)))|(conv=>lhs;simp only[List.drop_succ_cons,List.drop_zero,List.take_succ_cons,List.take_zero])) (by first|rfl|assumption|(refine(aj _).trans ?_;assumption)|(simp[*];(first|done|fail))))) aw.tail ⟨bT,.inr ⟨rfl,gD,by omega,rfl,q2,sl2,pt2,ct2,RY,RZ,xv2,Γ4,EW,Z9,EV,rfl⟩⟩
theorem HR (w:List UInt8) (s:ByteArray) {i:Nat} {c:UInt8} (hc:s.data.toList[i]? =some c):(⟨w.toArray⟩:ByteArray)++s.extract i (i+1)=⟨(w++[c]).toArray⟩:=by
 apply ByteArray.ext;apply Array.toList_inj.1;simp;rw[er hc];rfl
theorem HS {l:List UInt8} {i:Nat} {c:UInt8} {w:List UInt8} (hc:l[i]? =some c) (h:c≠32):dN (l.drop i) w=dN (l.drop (i+1)) (w++[c]):=by
 rw[er hc,dN,if_neg h]
theorem EE {l:List UInt8} {i:Nat} {w:List UInt8} (hc:l[i]? =some 32):dN (l.drop i) w=(if w=[] then [] else [⟨w.toArray⟩])++dN (l.drop (i+1)) []:=by
 rw[er hc,dN,if_pos rfl];split<;>simp
theorem BA {s:ByteArray} {i:Nat} {c:UInt8} (hc:s.data.toList[i]? =some c):bc s i=c.toNat:=by
 obtain⟨hi,he⟩:=List.getElem?_eq_some_iff.1 hc;(have WX:i<s.size:=by rw[Array.length_toList] at hi;exact hi);rw[bc,dif_pos WX,←he];rfl
theorem HT (σ:PH) (s:ByteArray) (hs:s.size≤100000000):
 ae Tryz.prog 11 #[.string s] σ [] (aE fun r ag ah=>∃p c,r=.slice p (eu s).length c∧bO 1 n9 ag (.slice p (eu s).length c) (eu s)∧σ.sub ag∧ah=[]):=by
 have gD:s.data.toList.length=s.size:=Array.length_toList;obtain⟨l,hl⟩:∃l,s.data.toList=l:=⟨_,rfl⟩;(have hW:eu s=dN l []:=by rw[eu,hl]);rw[hl] at gD;(refine dF Tryz.func11 ?_;refine oa ?_;refine XA.eS (aw.fy (e:=9) (size:=1) (aw.refl _)) ?_;refine XA.gen [(0,_),(2,_),(3,_),(4,_),(5,_)] jN fun δ=>?_);dsimp only[List.foldl];refine XA.loop [(3,34)] (fun x:(Nat×List UInt8)×(Nat×(Option Addr×Nat))=>[(5,i64 x.1.1),(4,.string ⟨x.1.2.toArray⟩),(3,.slice x.2.2.1 x.2.1 x.2.2.2)]) (fun x ag ah=>σ=ag∧x.1.1≤s.size+1∧x.1.2.length≤x.1.1∧x.2.1≤x.1.1∧∃acc:List ByteArray,acc.length=x.2.1∧(∀y∈acc,y.size≤maxLen)∧(x.1.1≤s.size→eu s=acc++dN (l.drop x.1.1) x.1.2)∧(x.1.1=s.size+1→eu s=acc)∧ah=[bn 9 1 (.slice x.2.2.1 x.2.1 x.2.2.2) x.2.1 (acc.map Value.string)]) (fun x=>s.size+1-x.1.1) ((0,[]),(0,(none,0))) (by exact⟨rfl,rfl,rfl,trivial⟩) (Δ0:=_) ?_ (⟨rfl,Nat.zero_le _,Nat.zero_le _,Nat.zero_le _,[],rfl,fun y hy=>(by cases hy),fun _=>hW,fun h=>(by simp at h),rfl⟩) ?_
 ·exact zE
 rintro⟨⟨i,w⟩,n,pl,cl⟩ δ _ _ ⟨rfl,hi,hw,hni,acc,eR,E3,h1,h2,rfl⟩;dsimp only[eb,List.foldl];simp only at hi hw hni eR h1 h2;by_cases hle:i≤s.size
 ·have h1:=h1 hle;by_cases aT:i<s.size
  ·obtain⟨c,hc⟩:∃c,l[i]? =some c:=⟨_,List.getElem?_eq_getElem (by omega)⟩;have hb:=BA (s:=s) (i:=i) (c:=c) (by rw[hl];exact hc);by_cases h32:c=32
   ·subst h32;(have aad:((bc s i:Nat):Int)=32:=by rw[hb];rfl);rw[EE hc] at h1;refine a8 ?_;refine mQ ?_;refine dJ ?_;(first|(refine zG ?_;refine zO rfl (Rd.dS (ad rfl) rfl rfl rfl (by first|omega|decide|(simp;omega))) ?_)|refine zH ?_);refine bM ?_;refine XA.aR rfl (by first|rfl|exact decide_eq_false (fun h=>h aad)) ?_;refine aO ?_;refine zO rfl (Rd.neqs rfl rfl) ?_;refine aN ?_;by_cases zo:w=[]
    ·(have hq:¬((⟨w.toArray⟩:ByteArray)≠⟨#[]⟩):=fun h=>h (by rw[zo]));rw[if_pos zo,List.nil_append] at h1;refine XA.aR rfl (by first|rfl|exact decide_eq_false hq) ?_;refine eP ?_;refine⟨cF,((i+1,[]),(n,(pl,cl))),_,zM,?_,⟨rfl,by show i+1≤s.size+1;omega,Nat.zero_le _,by show n≤i+1;omega,acc,eR,E3,fun _=>h1,fun h=>(by exfalso;have:i+1=s.size+1:=h;omega),rfl⟩,(by show s.size+1-(i+1)<s.size+1-i;omega)⟩
     ·exact zE
    ·(have hq:(⟨w.toArray⟩:ByteArray)≠⟨#[]⟩:=fun h=>zo (by have:=congrArg (fun b:ByteArray=>b.data.toList) h;simpa using this));rw[if_neg zo,←List.append_assoc] at h1;have VY:(⟨w.toArray⟩:ByteArray).size=w.length:=by simp[ByteArray.size]
     have HC:∀y∈acc++[(⟨w.toArray⟩:ByteArray)],y.size≤maxLen:=fun y hy=>by
      rcases List.mem_append.1 hy with hy|hy
      ·exact E3 y hy
      ·rw[List.mem_singleton] at hy;subst hy;rw[VY];simp only[maxLen];omega
     (have zp:(acc++[(⟨w.toArray⟩:ByteArray)]).map Value.string=acc.map Value.string++[.string ⟨w.toArray⟩]:=by simp);refine XA.bG rfl (by first|rfl|exact decide_eq_true hq) ?_;refine bq ?_;refine zw rfl (aC.qO (ad rfl) rfl (ad rfl)) ?_;rintro _ _ _ ⟨g33,rfl,rfl,rfl⟩;refine zw rfl (aC.tS (ad rfl) rfl (ad rfl) rfl rfl rfl) ?_;rintro _ _ _ ⟨p34,c34,rfl,rfl,rfl⟩;refine dJ ?_;refine⟨cF,((i+1,[]),(n+1,(p34,c34))),_,zM,?_,⟨rfl,by show i+1≤s.size+1;omega,Nat.zero_le _,by show n+1≤i+1;omega,acc++[⟨w.toArray⟩],(by rw[List.length_append,eR];rfl),HC,fun _=>h1,fun h=>(by exfalso;have:i+1=s.size+1:=h;omega),rfl⟩,(by show s.size+1-(i+1)<s.size+1-i;omega)⟩
     ·rw[zp];exact zE
   ·(have hbn:¬((bc s i:Nat):Int)=32:=fun e=>h32 (UInt8.toNat_inj.1 (by rw[←hb];exact Int.ofNat.inj e)));have iM:=HR w s (i:=i) (c:=c) (by rw[hl];exact hc);rw[HS hc h32] at h1;have VY:(⟨w.toArray⟩:ByteArray).size=w.length:=by simp[ByteArray.size]
    have hex:w.length+(s.extract ((i:Int)).toNat ((i:Int)+1).toNat).size≤9223372036854775807:=by
     rw[ByteArray.size_extract];omega
    have aag:(⟨w.toArray⟩:ByteArray)++s.extract ((i:Int)).toNat ((i:Int)+1).toNat=⟨(w++[c]).toArray⟩:=iM;refine a8 ?_;refine mQ ?_;refine dJ ?_;(first|(refine zG ?_;refine zO rfl (Rd.dS (ad rfl) rfl rfl rfl (by first|omega|decide|(simp;omega))) ?_)|refine zH ?_);refine bM ?_;refine XA.bG rfl (by first|rfl|exact decide_eq_true hbn) ?_;refine bt ?_;refine zO rfl (X.Rd.lM (ad rfl) rfl rfl rfl rfl (by omega)) ?_;refine zO rfl (X.Rd.nr rfl rfl (by rw[VY];exact hex)) ?_;refine eP ?_;rw[aag];refine⟨cF,((i+1,w++[c]),(n,(pl,cl))),_,zM,?_,⟨rfl,by show i+1≤s.size+1;omega,by show (w++[c]).length≤i+1;rw[List.length_append,List.length_singleton];omega,by show n≤i+1;omega,acc,eR,E3,fun _=>h1,fun h=>(by exfalso;have:i+1=s.size+1:=h;omega),rfl⟩,(by show s.size+1-(i+1)<s.size+1-i;omega)⟩
    ·exact zE
  ·(have hei:i=s.size:=by omega);have H9:l.drop i=[]:=List.drop_of_length_le (by omega);(have Ff:¬((i:Int)<(s.size:Nat)):=by omega);have h1:eu s=acc++((if w=[] then [] else [⟨w.toArray⟩])++[]):=by rw[h1,H9,dN,List.append_nil]
   ·skip;refine a8 ?_;refine mQ ?_;refine dJ ?_;(first|(refine zG ?_;refine zO rfl (Rd.dS (ad rfl) rfl rfl rfl (by first|omega|decide|(simp;omega))) ?_)|refine zH ?_);refine bM ?_;refine XA.aR rfl (by first|rfl|exact decide_eq_false Ff) ?_;refine aO ?_;refine zO rfl (Rd.neqs rfl rfl) ?_;refine aN ?_;by_cases zo:w=[]
    ·(have hq:¬((⟨w.toArray⟩:ByteArray)≠⟨#[]⟩):=fun h=>h (by rw[zo]));rw[if_pos zo,List.nil_append] at h1;refine XA.aR rfl (by first|rfl|exact decide_eq_false hq) ?_;refine eP ?_;refine⟨cF,((i+1,[]),(n,(pl,cl))),_,zM,?_,⟨rfl,by show i+1≤s.size+1;omega,Nat.zero_le _,by show n≤i+1;omega,acc,eR,E3,fun h=>(by exfalso;have:i+1≤s.size:=h;omega),fun _=>(by rw[h1,List.append_nil]),rfl⟩,(by show s.size+1-(i+1)<s.size+1-i;omega)⟩
     ·exact zE
    ·(have hq:(⟨w.toArray⟩:ByteArray)≠⟨#[]⟩:=fun h=>zo (by have:=congrArg (fun b:ByteArray=>b.data.toList) h;simpa using this));rw[if_neg zo,←List.append_assoc] at h1;have VY:(⟨w.toArray⟩:ByteArray).size=w.length:=by simp[ByteArray.size]
     have HC:∀y∈acc++[(⟨w.toArray⟩:ByteArray)],y.size≤maxLen:=fun y hy=>by
      rcases List.mem_append.1 hy with hy|hy
      ·exact E3 y hy
      ·rw[List.mem_singleton] at hy;subst hy;rw[VY];simp only[maxLen];omega
     (have zp:(acc++[(⟨w.toArray⟩:ByteArray)]).map Value.string=acc.map Value.string++[.string ⟨w.toArray⟩]:=by simp);refine XA.bG rfl (by first|rfl|exact decide_eq_true hq) ?_;refine bq ?_;refine zw rfl (aC.qO (ad rfl) rfl (ad rfl)) ?_;rintro _ _ _ ⟨g33,rfl,rfl,rfl⟩;refine zw rfl (aC.tS (ad rfl) rfl (ad rfl) rfl rfl rfl) ?_;rintro _ _ _ ⟨p34,c34,rfl,rfl,rfl⟩;refine dJ ?_;refine⟨cF,((i+1,[]),(n+1,(p34,c34))),_,zM,?_,⟨rfl,by show i+1≤s.size+1;omega,Nat.zero_le _,by show n+1≤i+1;omega,acc++[⟨w.toArray⟩],(by rw[List.length_append,eR];rfl),HC,fun h=>(by exfalso;have:i+1≤s.size:=h;omega),fun _=>(by rw[h1,List.append_nil]),rfl⟩,(by show s.size+1-(i+1)<s.size+1-i;omega)⟩
     ·rw[zp];exact zE
 ·have h2:=h2 (by omega);subst eR;rw[h2];refine a8 ?_;refine lz ?_;refine bH ?_;refine DA.qM (R:=bn 9 1 _ _ _) zL dp aU ?_;rintro dQ ⟨⟩ hf bQ;exact b8 rfl rfl ⟨pl,cl,rfl,o8 E3 rfl hf,bQ,rfl⟩
abbrev Sq:=Except (Int×Int) (List Tk)
abbrev VZ (b:Nat) (sl:Value) (e:Int) (k:Nat) (c a:Int) (vs:Value):HP:=au b [sl,i64 e,i64 k,i64 c,i64 a,vs] 132
def Rg (L:List Tk) (sl:Value) (e:Int) (vs:Value) (b:Nat) (s:Sq):HP:=fun m=>∃(k:Nat) (c a:Int),VZ b sl e k c a vs m∧k≤L.length∧match s with|.ok l=>c=0∧a=0∧L.drop k=l|.error y=>c=y.1∧a=y.2∧y.1≠0
section
variable {L l:List Tk} {sl vs:Value} {e:Int} {b k:Nat} {y:Int×Int}
end
section
variable (σ:PH) (L:List Tk) (p:Option Addr) (n0 c0:Nat) (e:Int) (vs:Value) (b k:Nat)
end
def Raw (L:List Tk) (sl:Value) (e:Int) (vs:Value) (b:Nat) (s:Sq) (Γ:List HP):Prop:=∃(k:Nat) (c a:Int),Γ=[VZ b sl e k c a vs]∧k≤L.length∧match s with|.ok l=>c=0∧a=0∧L.drop k=l|.error y=>c=y.1∧a=y.2∧y.1≠0
theorem Raw.eS {L:List Tk} {sl vs:Value} {e:Int} {b:Nat} {s:Sq} {Γ:List HP} (h:Raw L sl e vs b s Γ):aw Γ [Rg L sl e vs b s]:=by
 obtain⟨k,c,a,rfl,h2⟩:=h;exact aw.one (fun m hm=>⟨k,c,a,hm,h2⟩)
section
variable (σ:PH) (L:List Tk) (p:Option Addr) (c0:Nat) (e:Int) (vs:Value) (b:Nat) (s:Sq)
end
section
variable (σ:PH) (L:List Tk) (p:Option Addr) (c0:Nat) (e:Int) (vs:Value) (b:Nat) (s:Sq)
end
section
variable (σ:PH) (L:List Tk) (p:Option Addr) (c0:Nat) (e:Int) (vs:Value) (b:Nat) (s:Sq)
end
section
variable (σ:PH) (L:List Tk) (p:Option Addr) (c0:Nat) (e:Int) (b:Nat) (s:Sq)
end
set_option maxRecDepth 4000
end Go.Proofs.YtgeoiflbjcehcaaGreatDoor
namespace Go.Proofs.YtgeoiflbjcehcaaGreatDoor
open Go X
set_option maxRecDepth 4000
end Go.Proofs.YtgeoiflbjcehcaaGreatDoor
namespace Go.Proofs.YtgeoiflbjcehcaaGreatDoor
open Go X
theorem Sr (σ:PH):ae Tryz.prog 7 #[] σ [] (aE fun v ag ah=>∃g,v=ptr g∧σ=ag∧ah=[au g [.pointer none,.slice none 0 0,.slice none 0 0,.slice none 0 0,.pointer none] 49]):=by
 (refine XJ Tryz.func7 ?_;refine bC ?_;refine cN fun g2=>?_;refine bM ?_);exact b8 rfl rfl ⟨_,rfl,rfl,rfl⟩
theorem wK (σ:PH):ae Tryz.prog 7 #[] σ [] (aE fun v ag ah=>∃g,v=ptr g∧σ=ag∧lk ag g qx 0 ah):=
 X.ae.post (Sr σ) fun v ag ah ⟨g,a,b,c⟩=>⟨_,⟨g,a,b,.pointer none,.slice none 0 0,none,0,none,0,.pointer none,[],⟨none,0,rfl,Nat.le_refl _,Nat.zero_le _,fun h=>absurd h (Nat.not_lt_zero _)⟩,(fun x hx=>by cases hx),⟨rfl,rfl⟩,rfl⟩,by rw[c];exact aw.bP b6.head (aw.fy (aw.nil _))⟩
def fG (s:ByteArray):Nat:=match eu s with
 |[]=>0
 |w::r=>if r.length≠0∧(w=oY∨w=jJ∨w=iE) then 1 else 0
def eD:List ByteArray→Nat
 |[]=>0
 |s::l=>fG s+eD l
theorem vd:∀(a b:List ByteArray),eD (a++b)=eD a+eD b
 |[],b=>by simp[eD]
 |s::a,b=>by rw[List.cons_append,eD,eD,vd a b];omega
theorem BB (s:ByteArray):pw s≤3000*fG s:=by
 cases hW:eu s with
 |nil=>rw[pw,hW];exact Nat.zero_le _
 |cons w r=>
  (have e1:pw s=if (w=oY∨w=jJ)∧r.length≠0 then 3000 else 0:=by rw[pw,hW]);(have e2:fG s=if r.length≠0∧(w=oY∨w=jJ∨w=iE) then 1 else 0:=by rw[fG,hW]);rw[e1,e2];split
  ·rename_i h;rw[if_pos ⟨h.2,h.1.elim .inl (fun h=>.inr (.inl h))⟩];exact Nat.le_refl _
  ·exact Nat.zero_le _
theorem y9 (s:ByteArray):fG s=1∨fG s=0:=by
 cases hW:eu s with
 |nil=>exact .inr (by rw[fG,hW])
 |cons w r=>
  (have e2:fG s=if r.length≠0∧(w=oY∨w=jJ∨w=iE) then 1 else 0:=by rw[fG,hW]);rw[e2];split
  ·exact .inl rfl
  ·exact .inr rfl
theorem tF:∀(l:List ByteArray),eV l≤3000*eD l
 |[]=>Nat.le_refl _
 |s::l=>by have:=BB s;have:=tF l;rw[eV,eD];omega
theorem ve:∀(l:List ByteArray),eD l≤l.length
 |[]=>Nat.le_refl _
 |s::l=>by
  have h:=y9 s;have:=ve l;rw[eD,List.length_cons];omega
theorem Ss (σ:PH) (ls:List ByteArray) (pl:Option Addr) (cl:Nat) (hl:bO 1 n9 σ (.slice pl ls.length cl) ls) (hz:kv ls≤10000000) (hn:ls.length≤10000000):
 ae Tryz.prog 6 #[.slice pl ls.length cl] σ [] (aE fun v ag ah=>v=.bool (decide (9000<kv ls∨25<eD ls))∧σ.sub ag∧ah=[]):=by
 obtain⟨p0,c0,e0,mR,VX⟩:=hl.shape;cases e0;simp only[maxLen] at VX;(refine dF Tryz.func6 ?_;refine tW ?_;refine XA.gen [(0,_),(2,_),(3,_),(4,_),(5,_)] jN fun δ=>?_);dsimp only[List.foldl];refine XA.loop [(3,47)] (fun i:Nat=>[(5,i64 i),(3,i64 (kv (ls.take i):Nat)),(4,i64 (eD (ls.take i):Nat))]) (fun i ag ah=>σ.sub ag∧i≤ls.length∧ah=[]) (fun i=>ls.length-i) 0 (by exact⟨rfl,rfl,rfl,trivial⟩) (Δ0:=_) ?_ (⟨.refl _,Nat.zero_le _,rfl⟩) ?_
 ·exact zE
 rintro j N2 dq _ ⟨bT,hj,rfl⟩;dsimp only[eb,List.foldl];by_cases E0:j<ls.length
 ·obtain⟨s,hs⟩:∃s,ls[j]? =some s:=⟨_,List.getElem?_eq_getElem E0⟩;obtain⟨gs,os,row,rfl,⟨rfl,-⟩,-,bL⟩:=(hl.mono bT (fun _ _ h=>h)).at hs;rw[Nat.mul_one] at bL;have Fb:=pz ls j;have KB:=pz ls (j+1);rw[fN hs,py,kv,kv] at KB;have hsx:=Da s (List.mem_of_getElem? hs);have Ie:=ve (ls.take j);rw[List.length_take] at Ie;(have e1:((kv (ls.take j):Nat):Int)+((s.size:Nat):Int)=((kv (ls.take (j+1)):Nat):Int):=by rw[fN hs,py,kv,kv];omega);(have e2:eD (ls.take (j+1))=eD (ls.take j)+fG s:=by rw[fN hs,vd,eD,eD];omega);refine a8 ?_;refine mQ ?_;refine oa ?_;rw[e1];refine zw rfl (aC.cE (HT dq s (by omega)) rfl) ?_;rintro _ lB _ ⟨_,⟨p,c,rfl,AE,fc,rfl⟩,rfl⟩;refine az.cl ?_;refine b9 ?_;refine az.join (List.take_append_drop 21 _).symm [(25,45)] (fun _:Unit=>[(45,.bool (decide (fG s=1)))]) (fun _ ag ah=>lB=ag∧ah=[]) ?_ ?_
  ·cases hW:eu s with
   |nil=>
    rw[show decide (fG s=1)=false from decide_eq_false (by rw[fG,hW];decide)];(have hq:¬((([]:List ByteArray).length:Nat):Int)>1:=by decide);refine bt ?_;(first|(refine zG ?_;refine zO rfl (Rd.eE rfl rfl) ?_)|refine zH ?_);refine bM ?_;(first|(refine zG ?_;refine zO rfl (Rd.eE rfl rfl) ?_)|refine zH ?_);refine b9 ?_;(first|(refine zG ?_;refine zO rfl (Rd.eE rfl rfl) ?_)|refine zH ?_);refine bM ?_;refine⟨cF,(),_,zM,?_,⟨rfl,rfl⟩⟩
    ·exact zE
   |cons w r=>
    rw[hW] at AE;(have zp:fG s=if r.length≠0∧(w=oY∨w=jJ∨w=iE) then 1 else 0:=by rw[fG,hW]);by_cases hr:(((w::r).length:Nat):Int)>1
    ·(have xT:r.length≠0:=by rw[List.length_cons] at hr;omega);obtain⟨gw,ow,Z5,rfl,⟨rfl,-⟩,-,HN⟩:=AE.at (k:=0) (x:=w) rfl;(have HO:cz lB gw ow [.string w]:=by simpa using HN);have kI:(0:Int)≤0∧(0:Int)<(((w::r).length:Nat):Int):=⟨by omega,by omega⟩;by_cases h1:w=oY
     ·rw[show decide (fG s=1)=true from decide_eq_true (by rw[zp,if_pos ⟨xT,.inl h1⟩])];refine bt ?_;(first|(refine zG ?_;refine zO rfl (Rd.eE rfl rfl) ?_)|refine zH ?_);refine bM ?_;(first|(refine zG ?_;refine zO rfl (Rd.eE rfl rfl) ?_)|refine zH ?_);refine b9 ?_;(first|(refine zG ?_;refine zO rfl (Rd.eE rfl rfl) ?_)|refine zH ?_);refine bM ?_;refine⟨cF,(),_,zM,?_,⟨rfl,rfl⟩⟩
      ·exact zE
     by_cases h2:w=jJ
     ·rw[show decide (fG s=1)=true from decide_eq_true (by rw[zp,if_pos ⟨xT,.inr (.inl h2)⟩])];refine bt ?_;(first|(refine zG ?_;refine zO rfl (Rd.eE rfl rfl) ?_)|refine zH ?_);refine bM ?_;(first|(refine zG ?_;refine zO rfl (Rd.eE rfl rfl) ?_)|refine zH ?_);refine b9 ?_;(first|(refine zG ?_;refine zO rfl (Rd.eE rfl rfl) ?_)|refine zH ?_);refine bM ?_;refine⟨cF,(),_,zM,?_,⟨rfl,rfl⟩⟩
      ·exact zE
     ·rw[show decide (fG s=1)=decide (w=iE) from by
       rw[decide_eq_decide,zp];by_cases h3:w=iE
       ·rw[if_pos ⟨xT,.inr (.inr h3)⟩];exact⟨fun _=>h3,fun _=>rfl⟩
       ·rw[if_neg (fun h=>h.2.elim h1 (fun h=>h.elim h2 h3))];exact⟨fun h=>(by cases h),fun h=>absurd h h3⟩]
      refine bt ?_;(first|(refine zG ?_;refine zO rfl (Rd.eE rfl rfl) ?_)|refine zH ?_);refine bM ?_;(first|(refine zG ?_;refine zO rfl (Rd.eE rfl rfl) ?_)|refine zH ?_);refine b9 ?_;(first|(refine zG ?_;refine zO rfl (Rd.eE rfl rfl) ?_)|refine zH ?_);refine bM ?_;refine⟨cF,(),_,zM,?_,⟨rfl,rfl⟩⟩
      ·exact zE
    ·rw[show decide (fG s=1)=false from decide_eq_false (by rw[zp,if_neg (fun h=>h.1 (by rw[List.length_cons] at hr;omega))];decide)];refine bt ?_;(first|(refine zG ?_;refine zO rfl (Rd.eE rfl rfl) ?_)|refine zH ?_);refine bM ?_;(first|(refine zG ?_;refine zO rfl (Rd.eE rfl rfl) ?_)|refine zH ?_);refine b9 ?_;(first|(refine zG ?_;refine zO rfl (Rd.eE rfl rfl) ?_)|refine zH ?_);refine bM ?_;refine⟨cF,(),_,zM,?_,⟨rfl,rfl⟩⟩
     ·exact zE
  rintro-δ3 _ _ ⟨rfl,rfl⟩;dsimp only[eb,List.foldl];refine aN ?_;by_cases h1:fG s=1
  ·(have e3:((eD (ls.take j):Nat):Int)+1=((eD (ls.take (j+1)):Nat):Int):=by rw[e2,h1];omega);refine XA.bG rfl (by first|rfl|exact decide_eq_true h1) ?_;refine eP ?_;rw[e3];refine⟨cF,j+1,_,zM,?_,⟨bT.trans fc,E0,rfl⟩,(by omega)⟩
   ·exact zE
  ·have h0:fG s=0:=(y9 s).resolve_left h1;(have e3:eD (ls.take j)=eD (ls.take (j+1)):=by rw[e2,h0,Nat.add_zero]);rw[e3];refine XA.aR rfl (by first|rfl|exact decide_eq_false h1) ?_;refine a8 ?_;refine⟨cF,j+1,_,zM,?_,⟨bT.trans fc,E0,rfl⟩,(by omega)⟩
   ·exact zE
 ·have AK:ls.take j=ls:=List.take_of_length_le (by omega);rw[AK];by_cases h1:((kv ls:Nat):Int)>9000
  ·rw[show decide (9000<kv ls∨25<eD ls)=true from decide_eq_true (.inl (by omega))];refine a8 ?_;refine lz ?_;refine dE ?_;exact b8 rfl rfl ⟨rfl,bT,rfl⟩
  ·rw[show decide (9000<kv ls∨25<eD ls)=decide (((eD ls:Nat):Int)>25) from by rw[decide_eq_decide];omega];refine a8 ?_;refine lz ?_;refine dE ?_;exact b8 rfl rfl ⟨rfl,bT,rfl⟩
def za:List ByteArray:=[⟨#[124,108,101,116,32,97,32,49]⟩,⟨#[124,40,114,101,97,100,32,97,41,32,40,112,114,105,110,116,32,40,118,97,114,32,97,41,41,32,40,99,111,109,109,105,116,41]⟩,⟨#[105,110,112,117,116,32,55]⟩,⟨#[110,111,119]⟩,⟨#[98,111,111,116]⟩,⟨#[114,117,110,32,50]⟩,⟨#[110,111,119]⟩,⟨#[99,114,97,115,104,32,48]⟩,⟨#[114,117,110,32,57]⟩,⟨#[110,111,119]⟩,⟨#[105,100,101,97,108,32,57]⟩,⟨#[120]⟩]
def aah:ByteArray:=⟨List.toArray (List.append [119,104,97,116,10,111,107,10,100,105,100,32,50,10,99,111,100,101,32,49,51,10,111,117,116,10,99,101,108,108,115,32,55,10,100,105,100,32,48,10,100,105,100,32,53,10,99,111,100,101] [32,48,10,111,117,116,32,55,10,99,101,108,108,115,32,55,10,116,111,111,107,32,53,10,99,111,100,101,32,48,10,111,117,116,32,55,10,99,101,108,108,115,32,55,10,119,104,97,116,10])⟩
set_option maxRecDepth 20000 in
theorem HU:cZ ByteArray.empty (cy qx za).2=aah:=by kernel_rfl
theorem EF:aM za=(0,0):=by kernel_rfl
theorem EG:eV za≤150000:=by decide+kernel
theorem LZ:kv za≤1000:=by decide+kernel
theorem HV {σ:PH} {g n c:Nat} {xs:List ByteArray} (bL:cz σ g 0 (xs.map Value.string)) (hx:∀x∈xs,x.size≤maxLen) (hn:n=xs.length) (hc:n≤c) (hm:c≤maxLen):bO 1 n9 σ (.slice (some ⟨g,0,none⟩) n c) xs:=
 o8 (k:=xs.length) hx hn ⟨hc,hm,List.length_map ..,fun _=>⟨g,0,rfl,bL⟩⟩
theorem lk.mono {σ ag:PH} {gd:Nat} {d:jT} {k:Nat} {Γ:List HP} (h:lk σ gd d k Γ) (hs:σ.sub ag):lk ag gd d k Γ:=by
 obtain⟨q,sl,pt,ct,pi,ci,xv,b7,a,b,c,d⟩:=h;exact⟨q,sl,pt,ct,pi,ci,xv,b7,a.mono hs,b,c.mono hs,d⟩
set_option maxRecDepth 20000 in
theorem L2 (σ:PH) (hT:rP σ) (hE:lp σ):ae Tryz.prog 5 #[] σ [] (aE fun v ag ah=>v=.bool true∧σ.sub ag∧ah=[]):=by
 have hbs:=LZ;have hbc:=EG;refine XJ Tryz.func5 ?_;refine bt ?_;refine zw rfl (aC.cE (wK σ) rfl) ?_;rintro _ _ _ ⟨b7,⟨g,rfl,rfl,hD⟩,rfl⟩;refine az.cl ?_;refine az.eS (by rw[List.append_nil];exact aw.refl _) ?_;refine zw rfl (aC.bs (fun _ _=>ad) rfl rfl rfl rfl rfl) ?_;rintro _ _ _ ⟨g5,rfl,rfl,rfl⟩;refine az.qM (R:=au g5 _ _) zL vw kD ?_;rintro dQ ⟨⟩ bL bQ;have AE:bO 1 n9 dQ (.slice (some ⟨g5,0,none⟩) za.length 12) za:=HV bL (fun x hx=>by have:=Da x hx;simp only[maxLen];omega) rfl (Nat.le_refl _) (by simp only[maxLen];omega);have hd:=dbl dQ g qx 0 za _ 12 b7 (hD.mono bQ) AE (by show 0+kv za≤_;omega) (hT.mono bQ) (hE.mono bQ) (by omega);refine zw rfl (aC.cE hd rfl aw.VR) ?_;rintro _ dq _ ⟨ot,⟨bT,Sl⟩,rfl⟩;refine az.eS (by rw[List.append_nil];exact aw.refl _) ?_;rcases Sl with ⟨hF,-⟩|⟨-,-,-,rfl,EY⟩
 ·exact absurd EF hF
 rw[HU];refine bq ?_;refine cR (fun g2=>?_) (ad rfl);refine cg ?_;(first|(refine zG ?_;refine zO rfl (Rd.eE rfl rfl) ?_)|refine zH ?_);refine b9 ?_;exact b8 rfl rfl ⟨congrArg Value.bool (decide_eq_true rfl),bQ.trans bT,rfl⟩
theorem aw.wL {A B:List HP}:aw (A++B) (B++A):=fun m x=>by
 obtain⟨m1,m2,a,b,c,d,e⟩:=Sat.append x;exact Sat.join b a c.symm e d
theorem zb:∀(l:List ByteArray) (i:Int),zQ i l≠(0,0)→(zQ i l).1≠0
 |[],_,h=>absurd rfl h
 |s::l,i,h=>by
  rw[zQ] at h⊢;split
  ·show (14:Int)≠0;decide
  ·rename_i hs;rw[if_neg hs] at h;exact zb l (i+1) h
theorem nP {ls:List ByteArray} (h:aM ls≠(0,0)):(aM ls).1≠0:=by
 rw[aM] at h⊢;split
 ·decide
 ·rename_i hl;rw[if_neg hl] at h;exact zb ls 0 h
theorem aw.right {A B:List HP}:aw (A++B) B:=fun m x=>by
 obtain⟨m1,m2,p,q,r,s,t⟩:=Sat.append x;exact q.mono t
theorem tG:∀(rows:List (List Value)),(∀r∈rows,r.length=1)→rows.flatten.length=rows.length
 |[],_=>rfl
 |r::rs,h=>by
  rw[List.flatten_cons,List.length_append,h r (by simp),tG rs (fun q hq=>h q (by simp[hq])),List.length_cons];omega
theorem EH {α:Type} {R:RT α} {σ:PH} {p:Option Addr} {n c k:Nat} {xs:List α} (h:bO 1 R σ (.slice p n c) xs) (hk:k≤n):bO 1 R σ (.slice (if c=k then p else p.map (·.add (k*1))) (n-k) (c-k)) (xs.drop k):=by
 obtain⟨p',c',rows,h1,h2,h3,h4,h5,h6,h7⟩:=h;simp only[Value.slice.injEq] at h1;obtain⟨rfl,rfl,rfl⟩:=h1;refine⟨_,_,rows.drop k,by rw[List.length_drop],by rw[List.length_drop];omega,by omega,by rw[List.length_drop,List.length_drop,h4],fun r hr=>h5 r (List.mem_of_mem_drop hr),fun i row x a b=>?_,fun hp=>?_⟩
 ·rw[List.getElem?_drop] at a b;exact h6 _ row x a b
 ·rw[List.length_drop] at hp;obtain⟨g,o,rfl,hr⟩:=h7 (by omega);refine⟨g,o+k,by rw[if_neg (by omega),Option.map_some,addr_add,Nat.mul_one],?_⟩;refine hr.sub (j:=k) ?_;(have e:rows.flatten=(rows.take k).flatten++(rows.drop k).flatten:=by rw[←List.flatten_append,List.take_append_drop]);(have hl:(rows.take k).flatten.length=k:=by rw[tG _ (fun r hr=>h5 r (List.mem_of_mem_take hr)),List.length_take,h4];omega);rw[e,List.drop_left' hl,List.take_of_length_le (Nat.le_refl _)]
theorem X.Rd.BD {P:Program} {ρ:Env} {S:Heap→Prop} {ty:TypeId} {T:TypeId} {x y:Operand} {r re:Ty} {e len cap:Nat} {a:Option Addr} {i:Nat} {kk:IntKind} (hT:av P T=some r) (hk:r.k=.slice e) (hE:av P e=some re) (bQ:re.size=1) (hx:ev ρ x=.slice a len cap) (hy:ev ρ y=.int kk i) (hi:i≤len):Rd P ρ S (.slice T x (some y) none none) ty (.slice (if cap=i then a else a.map (·.add (i*1))) (len-i) (cap-i)):=by
 have h:=X.Rd.j0 (P:=P) (ρ:=ρ) (S:=S) (ty:=ty) (lo:=some y) (hi:=none) (mx:=none) (l:=i) (hh:=len) (m:=cap) hT hk hE hx (fun w=>by
  have hb:=fun c w=>X.lC (P:=P) (y:=len) (c:=c) (kk:=kk) (i:=i) (by omega) (by omega) w
  simp[Instr.sliceBounds,hy,hb])
 rw[bQ] at h;exact h
theorem zc:∀(l:List ByteArray) (i:Int),zQ i l=(0,0)↔∀s∈l,oZ s=false
 |[],i=>⟨fun _ s h=>(by cases h),fun _=>rfl⟩
 |s::l,i=>by
  rw[zQ]
  cases hn:oZ s with
  |true=>
   rw[if_pos rfl];exact⟨fun h=>(by cases h),fun h=>(by rw[h s (by simp)] at hn;cases hn)⟩
  |false=>
   rw[if_neg (by decide),zc l (i+1)];exact⟨fun h x hx=>(List.mem_cons.1 hx).elim (fun e=>e▸hn) (h x),fun h x hx=>h x (by simp[hx])⟩
theorem gY {l:List ByteArray} (h:l.length≤150):aM l=(0,0)↔∀s∈l,oZ s=false:=by
 rw[aM,if_neg (by omega)];exact zc l 0
def rM (d:jT) (ls:List ByteArray):ByteArray:=if aM ls=(0,0) then cZ ByteArray.empty (cy d ls).2 else ByteArray.empty
def BE (d:jT) (ls:List ByteArray):jT:=if aM ls=(0,0) then (cy d ls).1 else d
theorem lk.le {σ:PH} {gd:Nat} {d:jT} {k l:Nat} {Γ:List HP} (h:lk σ gd d k Γ) (hl:k≤l):lk σ gd d l Γ:=by
 obtain⟨q,sl,pt,ct,pi,ci,xv,b7,a,b,c,e⟩:=h;exact⟨q,sl,pt,ct,pi,ci,xv,b7,a,b,c.le hl,e⟩
theorem L3 (σ:PH) (gd:Nat) (d:jT) (k:Nat) (ls:List ByteArray) (pl:Option Addr) (n cl:Nat) (Γ:List HP) (hD:lk σ gd d k Γ) (hl:bO 1 n9 σ (.slice pl n cl) ls) (hn:n=ls.length) (H5:px d.text+kv ls≤1000000) (hT:rP σ) (hE:lp σ) (hk:k+eV ls+3000≤160000):
 ae Tryz.prog 8 #[ptr gd,.slice pl n cl] σ Γ (aE fun v ag ah=>v=.tuple #[.string (rM d ls),.agg #[i64 (aM ls).1,i64 (aM ls).2]]∧σ.sub ag∧(rM d ls).size≤600000000∧lk ag gd (BE d ls) (k+eV ls) ah):=by
 subst hn;(refine(dbl σ gd d k ls pl cl Γ hD hl H5 hT hE hk).post fun v ag ah ⟨hs,Sl⟩=>⟨ah,?_,aw.refl _⟩);rcases Sl with ⟨hF,rfl,hY⟩|⟨hF,gD,ED,rfl,hY⟩
 ·rw[rM,BE,if_neg hF,if_neg hF];exact⟨rfl,hs,Nat.zero_le _,hY.le (Nat.le_add_right _ _)⟩
 ·have h1:=gD ls.length (Nat.le_refl _);rw[List.take_length] at h1;rw[rM,BE,if_pos hF,if_pos hF];exact⟨by rw[hF],hs,by omega,hY⟩
theorem EI (d:jT) (ls:List ByteArray):px (BE d ls).text≤px d.text+kv ls:=by
 rw[BE];split
 ·exact ma ls d
 ·exact Nat.le_add_right _ _
theorem HW (l:List ByteArray) (k:Nat) (h1:aM (l.take k)=(0,0)) (h2:aM (l.drop k)=(0,0)) (h:aM l=(0,0)):rM qx (l.take k)++rM (BE qx (l.take k)) (l.drop k)=rM qx l:=by
 rw[rM,BE,rM,rM,if_pos h1,if_pos h1,if_pos h2,if_pos h,←Ev,List.take_append_drop]
theorem L4 (σ:PH) (l:List ByteArray) (pl:Option Addr) (cl:Nat) (cut:Int) (hl:bO 1 n9 σ (.slice pl l.length cl) l) (hz:kv l≤2000000) (hn:l.length≤2000000) (hT:rP σ) (hE:lp σ):
 ae Tryz.prog 4 #[.slice pl l.length cl,i64 cut] σ [] (aE fun v ag ah=>v=.bool true∧σ.sub ag∧ah=[]):=by
 obtain⟨p0,c0,e0,mR,VX⟩:=hl.shape;cases e0;refine bS Tryz.func4 ?_;refine bC ?_;refine zw rfl (aC.cE (L2 σ hT hE) rfl) ?_;rintro _ dQ _ ⟨_,⟨rfl,bQ,rfl⟩,rfl⟩;refine az.cl ?_;refine bq ?_;refine aO ?_;have zl:=hl.mono bQ (fun _ _ h=>h);have qJ:=hT.mono bQ;have Ij:=hE.mono bQ;refine az.join (List.take_append_drop 7 _).symm [(18,24)] (fun y:Bool=>[(24,.bool y)]) (fun y ag ah=>dQ.sub ag∧(y=false→l.length≤150∧kv l≤9000∧eD l≤25)∧ah=[]) ?_ ?_
 ·by_cases h1:((l.length:Nat):Int)>150
  ·refine b9 ?_;(first|refine zH ?_);refine bq ?_;refine⟨cF,true,_,zM,?_,⟨.refl _,fun h=>(by cases h),rfl⟩⟩
   ·exact zE
  ·refine b9 ?_;(first|refine az.wanted rfl rfl ?_|refine az.wq rfl rfl ?_);refine zw rfl (aC.cE (Ss dQ l pl cl zl (by omega) (by omega)) rfl) ?_;rintro _ dq _ ⟨_,⟨rfl,bT,rfl⟩,rfl⟩;refine az.cl ?_;refine bq ?_;refine⟨cF,(decide (9000<kv l∨25<eD l)),_,zM,?_,⟨bT,fun h=>(by have:=of_decide_eq_false h;omega),rfl⟩⟩
   ·exact zE
 rintro y N2 dq _ ⟨bT,hy,rfl⟩;dsimp only[eb,List.foldl];refine aN ?_;have uf:=bQ.trans bT;have pE:=qJ.mono bT;have Du:=Ij.mono bT;have jy:=zl.mono bT (fun _ _ h=>h)
 cases y with
 |true=>
  refine bC ?_;exact b8 rfl rfl ⟨rfl,uf,rfl⟩
 |false=>
  obtain⟨ED,z1,z2⟩:=hy rfl;have dY:=tF l;obtain⟨u,hu⟩:∃u:Nat,IntKind.u64.wrap cut=(u:Int):=Int.eq_ofNat_of_zero_le (by simp[IntKind.wrap,IntKind.bits,IntKind.signed];omega);obtain⟨k,hk⟩:∃k,k=u%(l.length+1):=⟨_,rfl⟩;(have Qv:k≤l.length:=by rw[hk];exact Nat.le_of_lt_succ (Nat.mod_lt u (Nat.succ_pos l.length)));have aai:=VX;simp only[maxLen] at aai;have hta:=EH jy Qv;have AK:=X.bO.take jy Qv;have aeu:=pz l k;have aev:=nO l k;have SD:=List.take_append_drop k l;(have aew:kv (l.take k)+kv (l.drop k)=kv l:=by rw[←py,SD]);(have aex:eV (l.take k)+eV (l.drop k)=eV l:=by rw[←kz,SD]);(have aT:(l.take k).length=k:=by rw[List.length_take];omega);have rQ:(l.drop k).length=l.length-k:=List.length_drop ..;refine cg ?_;rw[hu];refine zO rfl (Rd.Df (c:=((k:Nat):Int)) rfl rfl (by omega) (by rw[Int.tmod_eq_emod_of_nonneg (by omega),hk];rfl)) ?_;refine aO ?_;refine zw rfl (aC.cE (wK dq) rfl) ?_;rintro _ _ _ ⟨Γd,⟨gd,rfl,rfl,hD⟩,rfl⟩;refine az.cl ?_;refine az.eS (by rw[List.append_nil];exact aw.refl _) ?_;refine zw rfl (aC.cE (wK dq) rfl) ?_;rintro _ _ _ ⟨Γe,⟨ge,rfl,rfl,hDe⟩,rfl⟩;refine az.cl ?_;refine a8 ?_;refine zO rfl (Rd.n8 (ad rfl) rfl (ad rfl) rfl rfl (by omega)) ?_;refine zw rfl (aC.cE (L3 dq gd qx 0 (l.take k) pl k cl Γd hD AK aT.symm (by show 0+_≤_;omega) pE Du (by omega)) rfl aw.wL) ?_;rintro _ lB _ ⟨V0,⟨rfl,fc,o1,EY⟩,rfl⟩;have aaj:=uf.trans fc;have VG:=pE.mono fc;have hE3:=Du.mono fc;have DB:=jy.mono fc (fun _ _ h=>h);refine bq ?_;refine cR (fun g9=>?_) (ad rfl);refine bC ?_;refine zw rfl (aC.cE (L3 lB ge qx 0 l pl _ cl Γe (hDe.mono fc) DB rfl (by show 0+_≤_;omega) VG hE3 (by omega)) rfl (aw.wL (A:=_::V0))) ?_;rintro _ LB _ ⟨aeB,⟨rfl,oW,o2,-⟩,rfl⟩;refine az.eS aw.right ?_;have aak:=aaj.trans oW;have Ey:=fc.trans oW;have hT4:=VG.mono oW;have hE4:=hE3.mono oW;have Wc:=EI qx (l.take k);have ht0:px qx.text=0:=rfl;refine bq ?_;refine cR (fun g11=>?_) (ad rfl);refine a8 ?_;refine zO rfl (X.Rd.BD (ad rfl) rfl (ad rfl) rfl rfl rfl Qv) ?_;refine zw rfl (aC.cE (L3 LB gd _ _ (l.drop k) _ _ _ V0 (EY.mono oW) (hta.mono Ey (fun _ _ h=>h)) rQ.symm (by omega) hT4 hE4 (by omega)) rfl (aw.wL (A:=[_,_]))) ?_;rintro _ Zv _ ⟨aeC,⟨rfl,SV,o3,-⟩,rfl⟩;refine az.eS aw.right ?_;have Sv:=aak.trans SV;have hT5:=hT4.mono SV;have hE5:=hE4.mono SV;have FP:=jy.mono (Ey.trans SV) (fun _ _ h=>h);refine bq ?_;refine cR (fun g13=>?_) (ad rfl);refine bH ?_;by_cases hF:aM l=(0,0)
  ·have bF:=(gY ED).1 hF;(have vD:aM (l.take k)=(0,0):=(gY (by omega)).2 fun s hs=>bF s (List.mem_of_mem_take hs));(have zt:aM (l.drop k)=(0,0):=(gY (by omega)).2 fun s hs=>bF s (List.mem_of_mem_drop hs));(have wR:¬((aM l).1≠0):=by rw[hF];exact fun h=>h rfl);(have yx:(aM (l.take k)).1=0:=by rw[vD]);(have h20:(aM (l.drop k)).1=0:=by rw[zt]);have V1:=HW l k vD zt hF;have hSS:rM qx l=rM qx l:=rfl;refine XA.aR rfl (by first|rfl|exact decide_eq_false wR) ?_;refine bM ?_;refine zw rfl (aC.cE (wK Zv) rfl) ?_;rintro _ _ _ ⟨Γn,⟨gn,rfl,rfl,hDn⟩,rfl⟩;refine az.cl ?_;refine b3 ?_;refine zw rfl (aC.cE (L3 Zv gn qx 0 l pl _ cl Γn hDn FP rfl (by show 0+_≤_;omega) hT5 hE5 (by omega)) rfl (aw.refl _)) ?_;rintro _ σ6 _ ⟨aeH,⟨rfl,hs6,o4,-⟩,rfl⟩;refine az.eS aw.right ?_;refine bq ?_;refine cR (fun g15=>?_) (ad rfl);refine dE ?_;(first|refine az.wanted rfl rfl ?_|refine az.wq rfl rfl ?_);refine zO rfl (X.Rd.nr rfl rfl (by omega)) ?_;rw[V1];refine b3 ?_;(first|(refine zG ?_;refine zO rfl (Rd.eE rfl rfl) ?_)|refine zH ?_);refine bM ?_;(first|(refine zG ?_;refine zO rfl (Rd.eE rfl rfl) ?_)|refine zH ?_);refine b9 ?_;exact b8 rfl rfl ⟨congrArg Value.bool (decide_eq_true rfl),Sv.trans hs6,rfl⟩
  ·have hc:=nP hF;by_cases hA:(aM (l.take k)).1≠0
   ·refine XA.bG rfl (by first|rfl|exact decide_eq_true hc) ?_;refine cr ?_;exact b8 rfl rfl ⟨rfl,Sv,rfl⟩
   ·have hB:(aM (l.drop k)).1≠0:=fun h=>by
     (have f1:aM (l.take k)=(0,0):=Classical.byContradiction fun h=>hA (nP h));(have f2:aM (l.drop k)=(0,0):=Classical.byContradiction fun q=>nP q h);have g1:=(gY (by omega)).1 f1;have g2:=(gY (by omega)).1 f2;refine hF ((gY ED).2 fun s hs=>?_);rw[←SD] at hs;exact(List.mem_append.1 hs).elim (g1 s) (g2 s)
    refine XA.bG rfl (by first|rfl|exact decide_eq_true hc) ?_;refine cr ?_;exact b8 rfl rfl ⟨congrArg Value.bool (decide_eq_true hB),Sv,rfl⟩
end Go.Proofs.YtgeoiflbjcehcaaGreatDoor
namespace Go.Proofs.YtgeoiflbjcehcaaGreatDoor
open Go X Go.RowKit
theorem star: "*" ++ "errors.errorString" = "*errors.errorString" :=by decide
theorem HX (u:TypeId) (h:Tryz.prog.typeName? 3 u=some "*errors.errorString"):u=252:=
 typeName_ptr_named (nm:= "errors.errorString") (by rw[star];kernel_rfl) (by kernel_rfl) (by decide) u (by rw[star];exact h)
theorem Sw {W w:World} {n:String} {cs:Array Value} (hw:(ek W.heap).le w.heap) (h:W.var? Tryz.prog n=some cs):w.var? Tryz.prog n=some cs:=by
 unfold World.var? at h⊢
 cases hg:Tryz.prog.globalNamed n with
 |none=>simp[hg] at h
 |some g=>
  simp only[hg,Option.bind_some] at h⊢
  cases ho:W.heap[g]? with
  |none=>simp[ho] at h
  |some o=>
   have:=hw g o ho;rw[this];rw[ho] at h;exact h
theorem Db {W:World} {n:String} {g:Nat} {cs:Array Value} (hg:Tryz.prog.globalNamed n=some g) (h:W.var? Tryz.prog n=some cs):cz (ek W.heap) g 0 cs.toList:=by
 unfold World.var? at h;simp only[hg,Option.bind_some] at h;split at h
 ·rename_i Wm T fr he;cases h;exact⟨_,_,_,he,by rw[List.drop_zero];exact List.take_of_length_le (Nat.le_refl _)⟩
 ·cases h
theorem V2 {α:Type} {l:List α} (h:l.length=1):∃a,l=[a]:=by
 match l,h with
 |[a],_=>exact⟨a,rfl⟩
theorem HY:∃f:Field,Tryz.prog.underlying 254=some (.struct #[f])∧f.type=9∧f.offset=0:=by
 (have hu:Tryz.prog.underlying 254=some (.struct (Tryz.prog.fieldsOf 254)):=by kernel_rfl);(have hf:(Tryz.prog.fieldsOf 254).toList.map (fun f=>(f.type,f.offset))=[(9,0)]:=by kernel_rfl);obtain⟨f,hl⟩:=V2 (l:=(Tryz.prog.fieldsOf 254).toList) (by simpa using congrArg List.length hf);rw[hl] at hf;simp only[List.map_cons,List.map_nil,List.cons.injEq,Prod.mk.injEq,and_true] at hf;refine⟨f,?_,hf.1,hf.2⟩;rw[hu,←Array.toArray_toList (xs:=Tryz.prog.fieldsOf 254),hl]
abbrev aal:ByteArray:={data:=#[105,110,118,97,108,105,100,32,115,121,110,116,97,120]}
abbrev aam:ByteArray:={data:=#[118,97,108,117,101,32,111,117,116,32,111,102,32,114,97,110,103,101]}
noncomputable def low:Nat:=(World.holding Tryz.prog default ⟨#[],#[],[]⟩).heap.size
def setCells (cs:Array Value):Obj→Obj
 |.cells _ t frozen=>.cells cs t frozen
 |o=>o
def zd (d:DataW Unit):Array Value:=match d with
 |.agg l=>(l.map fun d=>match d with|.lit (.int k z)=>Value.int k z|_=>undef).toArray
 |_=>#[]
noncomputable def vf (os:Os):World:=
 let w0:=World.holding Tryz.prog os ⟨#[.cells #[.string aal] 254,.cells #[.string aam] 254],#[],[]⟩
 {w0 with heap:=((((w0.heap.modify 1 (setCells #[.iface 252 (.pointer (some ⟨low,0,none⟩))])).modify 2 (setCells #[.iface 252 (.pointer (some ⟨low+1,0,none⟩))])).modify 3 (setCells (zd Rows.laid_internal_strconv_uint64pow10))).modify
  6 (setCells (zd Rows.laid_math_bits_deBruijn32tab))).modify 7 (setCells (zd Rows.laid_math_bits_deBruijn64tab))}
end Go.Proofs.YtgeoiflbjcehcaaGreatDoor
