import Derived.Test.YtgeoiflbjcehcaaGreatDoorDj23
set_option maxHeartbeats 4000000
set_option maxRecDepth 2000
set_option linter.unusedVariables false
set_option linter.unusedSimpArgs false
namespace Go.Proofs.YtgeoiflbjcehcaaGreatDoor
open Go X
section
variable {C:List In} {inp:List Int}
theorem kZ {pc n:Nat} {b:Be} {s s1:RS} (hR:ug inp pc s b) (e:s1={s with left:=s1.left}):ug inp n s1 (eg b n []):=by
 (have ho:s1.out=s.out:=by rw[e]);(have hc:s1.cells=s.cells:=by rw[e]);(have hi:s1.inp=s.inp:=by rw[e]);exact⟨rfl,rfl,by rw[ho];exact hR.outn,hR.st,by rw[hc];exact hR.cells,by rw[ho];exact hR.out,hR.wrong,by rw[hi];exact hR.inp⟩
theorem drop_cons {l:List Int} {n:Nat} {x:Int} {r:List Int} (h:x::r=l.drop n):n<l.length∧l.getD n 0=x∧r=l.drop (n+1):=by
 have hn:n<l.length:=by
  rcases Nat.lt_or_ge n l.length with h1|h1
  ·exact h1
  ·rw[List.drop_of_length_le h1] at h;cases h
 rw[List.drop_eq_getElem_cons hn] at h;simp only[List.cons.injEq] at h;exact⟨hn,by rw[List.getD_eq_getElem?_getD,List.getElem?_eq_getElem hn];exact h.1.symm,h.2⟩
theorem RF (vs:List Va) (nv:Nat):∀(g:Nat) (x:St),A0 nv x→OE C inp vs (fT vs g) x:=by
 intro g
 induction g with
 |zero=>intro x _ pc b s r h;cases h
 |succ g ih=>
 intro x hV pc b s r hr hC hR;obtain⟨op,v,e,f,body,cG⟩:=x;have hV0:=hV;rw[A0] at hV;obtain⟨tY,hv,he,hf,-,-,ml,jE⟩:=hV;(have Rn:op=1∨op=2∨op=3∨op=4∨op=5∨op=6∨op=7:=by omega);rcases Rn with rfl|rfl|rfl|rfl|rfl|rfl|rfl
 ·(have hc:bg vs (.mk 1 v e f body cG) pc=aA vs e++[⟨9,cellOf vs v,0,0⟩]:=by rw[bg];rfl);rw[hc] at hC⊢;rw[fT,if_pos rfl] at hr;cases hr;obtain⟨h1,h2⟩:=oU (inp:=inp) (he rfl).1 hC.left hR.next hR.st hR.cells hR.out hR.wrong;rw[vY]
  cases e1:mE vs e s with
  |error q=>exact⟨fun s' h=>(by cases h),fun c s' h=>by cases h;exact h2 _ _ e1⟩
  |ok q=>
   obtain⟨n,s1⟩:=q;obtain⟨g1,q1⟩:=h1 _ _ e1;rw[hR.stack] at g1;have R1:=kZ (n:=pc+(aA vs e).length) hR q1;obtain⟨k1,k2⟩:=iU (b1:=eg b (pc+(aA vs e).length) [n]) g1 R1.st hC.right.one R1.cells R1.out R1.wrong;simp only
   cases e2:cx s1 with
   |error q=>exact⟨fun s' h=>(by cases h),fun c s' h=>by cases h;exact k2 _ _ e2⟩
   |ok s2=>
    obtain⟨g2,q2⟩:=k1 _ e2;refine⟨fun s' h=>?_,fun c s' h=>(by cases h)⟩;cases h;refine⟨_,g2,?_⟩;have ed:aL inp false ⟨9,cellOf vs v,0,0⟩ (bump (eg b (pc+(aA vs e).length) [n]))={b with m:={b.m with next:=pc+(aA vs e).length+1,stack:=[],cells:=b.m.cells.set (cellOf vs v).toNat n}}:=rfl;rw[ed];(have h3:s2={s with left:=s2.left}:=by rw[q1] at q2;exact q2);(have ho:s2.out=s.out:=by rw[h3]);(have Lu:s2.cells=s.cells:=by rw[h3]);(have hi:s2.inp=s.inp:=by rw[h3]);exact⟨by simp[Nat.add_assoc],rfl,by show b.m.outn=s2.out.length;rw[ho];exact hR.outn,hR.st,by show b.m.cells.set _ n=s2.cells.set _ n;rw[Lu,hR.cells],by show b.out=s2.out;rw[ho];exact hR.out,hR.wrong,by show s2.inp=_;rw[hi];exact hR.inp⟩
 ·(have hc:bg vs (.mk 2 v e f body cG) pc=aA vs e++(aA vs f++[⟨10,cellOf vs v,fu vs v,0⟩]):=by rw[bg,←List.append_assoc];rfl);rw[hc] at hC⊢;rw[fT,if_neg (by decide),if_pos rfl] at hr;cases hr;obtain⟨h1,h2⟩:=oU (inp:=inp) (he rfl).1 hC.left hR.next hR.st hR.cells hR.out hR.wrong;rw[qh]
  cases e1:mE vs e s with
  |error q=>exact⟨fun s' h=>(by cases h),fun c s' h=>by cases h;exact h2 _ _ e1⟩
  |ok q=>
   obtain⟨k,s1⟩:=q;obtain⟨g1,q1⟩:=h1 _ _ e1;rw[hR.stack] at g1;have R1:=kZ (n:=pc+(aA vs e).length) hR q1;have hC2:=hC.right;obtain⟨j1,j2⟩:=oU (inp:=inp) (b:=eg b (pc+(aA vs e).length) [k]) (s:=s1) (hf rfl).1 hC2.left rfl R1.st R1.cells R1.out R1.wrong;simp only
   cases e2:mE vs f s1 with
   |error q=>exact⟨fun s' h=>(by cases h),fun c s' h=>by cases h;obtain⟨b',g2,d⟩:=j2 _ _ e2;exact⟨b',g1.trans g2,d⟩⟩
   |ok q=>
    obtain⟨n,s2⟩:=q;obtain⟨g2,q2⟩:=j1 _ _ e2;(have q12:s2={s with left:=s2.left}:=by rw[q1] at q2;exact q2);have R2:=kZ (n:=pc+(aA vs e).length+(aA vs f).length) hR q12;have g12:=g1.trans g2;obtain⟨k1,k2⟩:=iU (b1:=eg b (pc+(aA vs e).length+(aA vs f).length) [n,k]) g12 R2.st hC2.right.one R2.cells R2.out R2.wrong;simp only
    cases e3:cx s2 with
    |error q=>exact⟨fun s' h=>(by cases h),fun c s' h=>by cases h;exact k2 _ _ e3⟩
    |ok s3=>
     obtain⟨g3,q3⟩:=k1 _ e3;(have h3:s3={s with left:=s3.left}:=by rw[q12] at q3;exact q3);(have ho:s3.out=s.out:=by rw[h3]);(have Lu:s3.cells=s.cells:=by rw[h3]);(have hi:s3.inp=s.inp:=by rw[h3]);simp only;by_cases hk:k<0∨fu vs v≤k
     ·rw[if_pos hk];refine⟨fun s' h=>(by cases h),fun c s' h=>?_⟩;cases h;have ed:aL inp false ⟨10,cellOf vs v,fu vs v,0⟩ (bump (eg b (pc+(aA vs e).length+(aA vs f).length) [n,k]))={b with m:={b.m with next:=pc+(aA vs e).length+(aA vs f).length+1,stack:=[],st:=13}}:=if_pos hk;rw[ed] at g3;exact⟨_,g3,by show b.m.cells=s3.cells;rw[Lu];exact hR.cells,by show b.out=s3.out;rw[ho];exact hR.out,hR.wrong,.inr ⟨by decide,rfl⟩⟩
     ·rw[if_neg hk];refine⟨fun s' h=>?_,fun c s' h=>(by cases h)⟩;cases h;have ed:aL inp false ⟨10,cellOf vs v,fu vs v,0⟩ (bump (eg b (pc+(aA vs e).length+(aA vs f).length) [n,k]))={b with m:={b.m with next:=pc+(aA vs e).length+(aA vs f).length+1,stack:=[],cells:=b.m.cells.set (cellOf vs v+k).toNat n}}:=if_neg hk;rw[ed] at g3;exact⟨_,g3,by simp only[List.length_append,List.length_singleton];omega,rfl,by show b.m.outn=s3.out.length;rw[ho];exact hR.outn,hR.st,by show b.m.cells.set _ n=s3.cells.set _ n;rw[Lu,hR.cells],by show b.out=s3.out;rw[ho];exact hR.out,hR.wrong,by show s3.inp=_;rw[hi];exact hR.inp⟩
 ·(have hc:bg vs (.mk 3 v e f body cG) pc=aA vs e++[⟨11,0,0,0⟩]:=by rw[bg];rfl);rw[hc] at hC⊢;rw[fT,if_neg (by decide),if_neg (by decide),if_pos rfl] at hr;cases hr;obtain⟨h1,h2⟩:=oU (inp:=inp) (he rfl).1 hC.left hR.next hR.st hR.cells hR.out hR.wrong;rw[kV]
  cases e1:mE vs e s with
  |error q=>exact⟨fun s' h=>(by cases h),fun c s' h=>by cases h;exact h2 _ _ e1⟩
  |ok q=>
   obtain⟨n,s1⟩:=q;obtain⟨g1,q1⟩:=h1 _ _ e1;rw[hR.stack] at g1;have R1:=kZ (n:=pc+(aA vs e).length) hR q1;obtain⟨k1,k2⟩:=iU (b1:=eg b (pc+(aA vs e).length) [n]) g1 R1.st hC.right.one R1.cells R1.out R1.wrong;simp only
   cases e2:cx s1 with
   |error q=>exact⟨fun s' h=>(by cases h),fun c s' h=>by cases h;exact k2 _ _ e2⟩
   |ok s2=>
    obtain⟨g2,q2⟩:=k1 _ e2;refine⟨fun s' h=>?_,fun c s' h=>(by cases h)⟩;cases h;refine⟨_,g2,?_⟩;(have h3:s2={s with left:=s2.left}:=by rw[q1] at q2;exact q2);(have ho:s2.out=s.out:=by rw[h3]);(have Lu:s2.cells=s.cells:=by rw[h3]);(have hi:s2.inp=s.inp:=by rw[h3]);(have Ib:b.m.outn=b.out.length:=by rw[hR.outn,hR.out]);have ed:aL inp false ⟨11,0,0,0⟩ (bump (eg b (pc+(aA vs e).length) [n]))={b with m:={b.m with next:=pc+(aA vs e).length+1,stack:=[],outn:=b.m.outn+1},out:=b.out++[n]}:=if_pos Ib;rw[ed];exact⟨by simp[Nat.add_assoc],rfl,by show b.m.outn+1=(s2.out++[n]).length;rw[ho,hR.outn];simp,hR.st,by show b.m.cells=s2.cells;rw[Lu,hR.cells],by show b.out++[n]=s2.out++[n];rw[ho,hR.out],hR.wrong,by show s2.inp=_;rw[hi];exact hR.inp⟩
 ·(have hc:bg vs (.mk 4 v e f body cG) pc=[⟨12,cellOf vs v,0,0⟩]:=by rw[bg];rfl);rw[hc] at hC⊢;rw[fT,if_neg (by decide),if_neg (by decide),if_neg (by decide),if_pos rfl] at hr;cases hr;obtain⟨k1,k2⟩:=iU (eX.refl (C:=C) (inp:=inp) s.left b) hR.st (by rw[hR.next];exact hC.one) hR.cells hR.out hR.wrong;rw[oO]
  cases e2:cx s with
  |error q=>exact⟨fun s' h=>(by cases h),fun c s' h=>by cases h;exact k2 _ _ e2⟩
  |ok s1=>
   obtain⟨g2,q2⟩:=k1 _ e2;(have ho:s1.out=s.out:=by rw[q2]);(have Lu:s1.cells=s.cells:=by rw[q2]);(have hi:s1.inp=s.inp:=by rw[q2]);simp only
   cases e3:s1.inp with
   |nil=>
    refine⟨fun s' h=>(by cases h),fun c s' h=>?_⟩;cases h
    have hle:inp.length≤b.m.rd:=by
     have:=hR.inp;rw[←hi,e3] at this;exact List.drop_eq_nil_iff.1 this.symm
    have ed:aL inp false ⟨12,cellOf vs v,0,0⟩ (bump b)={b with m:={b.m with next:=b.m.next+1,st:=14}}:=if_pos hle;rw[ed] at g2;exact⟨_,g2,by show b.m.cells=s1.cells;rw[Lu];exact hR.cells,by show b.out=s1.out;rw[ho];exact hR.out,hR.wrong,.inr ⟨by decide,rfl⟩⟩
   |cons n r=>
    refine⟨fun s' h=>?_,fun c s' h=>(by cases h)⟩;cases h;obtain⟨d1,d2,d3⟩:=drop_cons (l:=inp) (n:=b.m.rd) (x:=n) (r:=r) (by rw[←hR.inp,←hi,e3]);have ed:aL inp false ⟨12,cellOf vs v,0,0⟩ (bump b)={b with m:={b.m with next:=b.m.next+1,cells:=b.m.cells.set (cellOf vs v).toNat (inp.getD b.m.rd 0),rd:=b.m.rd+1}}:=if_neg (by show ¬inp.length≤b.m.rd;omega);rw[ed] at g2;exact⟨_,g2,by show b.m.next+1=_;rw[hR.next];rfl,hR.stack,by show b.m.outn=s1.out.length;rw[ho];exact hR.outn,hR.st,by show b.m.cells.set _ (inp.getD b.m.rd 0)=s1.cells.set _ n;rw[Lu,hR.cells,d2],by show b.out=s1.out;rw[ho];exact hR.out,hR.wrong,d3⟩
 ·have hC0:=hC;rw[s9] at hC⊢;rw[oR] at hr;obtain⟨B,hB⟩:∃B,B=aH vs body (pc+(aA vs e).length+1):=⟨_,rfl⟩;rw[←hB] at hC⊢;obtain⟨i1,i2⟩:=Ha (inp:=inp) (he rfl).1 hC.left.left hR
  cases e1:tM vs e s with
  |error q=>
   rw[e1] at hr;cases hr;refine⟨fun s' h=>(by cases h),fun c s' h=>?_⟩;cases h;exact i2 _ _ e1
  |ok q=>
   obtain⟨bb,s1⟩:=q;obtain⟨b1,g1,R1⟩:=i1 _ _ e1;rw[e1] at hr
   cases bb with
   |false=>
    cases hr;refine⟨fun s' h=>?_,fun c s' h=>(by cases h)⟩;cases h;refine⟨b1,g1,?_⟩;(have el:pc+(aA vs e++[(⟨13,(pc+(aA vs e).length+1+B.length+1:Nat),0,0⟩:In)]++B++[(⟨14,(pc:Nat),0,0⟩:In)]).length=pc+(aA vs e).length+1+B.length+1:=by simp only[List.length_append,List.length_singleton];omega);rw[el];exact R1
   |true=>
    simp only at hr;rw[if_pos rfl] at R1
    have Za:wS C (pc+(aA vs e).length+1) B:=by
     have:=hC.left.right;rw[List.length_append,List.length_singleton,←Nat.add_assoc] at this;exact this
    cases e2:dI (fT vs g) body s1 with
    |none=>rw[e2] at hr;cases hr
    |some q=>
     obtain⟨l1,l2⟩:=lX body (fun y hy=>ih y (ml.mem y hy)) (pc+(aA vs e).length+1) b1 s1 q e2 (by rw[←hB];exact Za) R1;rw[e2] at hr
     cases q with
     |error q=>
      cases hr;refine⟨fun s' h=>(by cases h),fun c s' h=>?_⟩;obtain⟨b',g2,d⟩:=l2 c s' h;exact⟨b',g1.trans g2,d⟩
     |ok s2=>
      obtain⟨b2,g2,R2⟩:=l1 s2 rfl;rw[←hB] at R2;have g12:=g1.trans g2
      have hj:C[b2.m.next]? =some ⟨14,(pc:Nat),0,0⟩:=by
       rw[R2.next];have:=hC.right.one;simp only[List.length_append,List.length_singleton] at this;rw[←this];congr 1;omega
      obtain⟨k1,k2⟩:=iU g12 R2.st hj R2.cells R2.out R2.wrong;simp only at hr
      cases e3:cx s2 with
      |error q=>
       rw[e3] at hr;cases hr;exact⟨fun s' h=>(by cases h),fun c s' h=>by cases h;exact k2 _ _ e3⟩
      |ok s3=>
       rw[e3] at hr;obtain⟨g3,q3⟩:=k1 _ e3;(have ed:aL inp false ⟨14,(pc:Nat),0,0⟩ (bump b2)=eg b2 pc []:=by show eg b2 pc b2.m.stack=_;rw[R2.stack]);rw[ed] at g3;have R3:ug inp pc s3 (eg b2 pc []):=kZ R2 q3;obtain⟨m1,m2⟩:=ih (.mk 5 v e f body cG) hV0 pc (eg b2 pc []) s3 r hr hC0 R3;rw[s9,←hB] at m1;refine⟨fun s' h=>?_,fun c s' h=>?_⟩
       ·obtain⟨b',g4,R4⟩:=m1 s' h;exact⟨b',g3.trans g4,R4⟩
       ·obtain⟨b',g4,d⟩:=m2 c s' h;exact⟨b',g3.trans g4,d⟩
 ·rw[yr] at hC⊢;rw[rh] at hr;obtain⟨B,hB⟩:∃B,B=aH vs body (pc+(aA vs e).length+1):=⟨_,rfl⟩;rw[←hB] at hC⊢;obtain⟨O,hO⟩:∃O,O=aH vs cG (pc+(aA vs e).length+1+B.length+1):=⟨_,rfl⟩;rw[←hO] at hC⊢;obtain⟨i1,i2⟩:=Ha (inp:=inp) (he rfl).1 hC.left.left.left hR;(have el:pc+(aA vs e++[(⟨13,(pc+(aA vs e).length+1+B.length+1:Nat),0,0⟩:In)]++B++[(⟨14,(pc+(aA vs e).length+1+B.length+1+O.length:Nat),0,0⟩:In)]++O).length=pc+(aA vs e).length+1+B.length+1+O.length:=by simp only[List.length_append,List.length_singleton];omega);rw[el]
  have hCO:wS C (pc+(aA vs e).length+1+B.length+1) O:=by
   have:=hC.right;simp only[List.length_append,List.length_singleton] at this;rw[show pc+(aA vs e).length+1+B.length+1=pc+((aA vs e).length+1+B.length+1) by omega];exact this
  cases e1:tM vs e s with
  |error q=>
   rw[e1] at hr;cases hr;exact⟨fun s' h=>(by cases h),fun c s' h=>by cases h;exact i2 _ _ e1⟩
  |ok q=>
   obtain⟨bb,s1⟩:=q;obtain⟨b1,g1,R1⟩:=i1 _ _ e1;rw[e1] at hr
   cases bb with
   |false=>
    simp only at hr;rw[if_neg (by decide)] at R1;obtain⟨l1,l2⟩:=lX cG (fun y hy=>ih y (jE.mem y hy)) (pc+(aA vs e).length+1+B.length+1) b1 s1 r hr (by rw[←hO];exact hCO) R1;rw[←hO] at l1;refine⟨fun s' h=>?_,fun c s' h=>?_⟩
    ·obtain⟨b',g4,R4⟩:=l1 s' h;exact⟨b',g1.trans g4,R4⟩
    ·obtain⟨b',g4,d⟩:=l2 c s' h;exact⟨b',g1.trans g4,d⟩
   |true=>
    simp only at hr;rw[if_pos rfl] at R1
    have Za:wS C (pc+(aA vs e).length+1) B:=by
     have:=hC.left.left.right;rw[List.length_append,List.length_singleton,←Nat.add_assoc] at this;exact this
    cases e2:dI (fT vs g) body s1 with
    |none=>rw[e2] at hr;cases hr
    |some q=>
     obtain⟨l1,l2⟩:=lX body (fun y hy=>ih y (ml.mem y hy)) (pc+(aA vs e).length+1) b1 s1 q e2 (by rw[←hB];exact Za) R1;rw[e2] at hr
     cases q with
     |error q=>
      cases hr;refine⟨fun s' h=>(by cases h),fun c s' h=>?_⟩;obtain⟨b',g2,d⟩:=l2 c s' h;exact⟨b',g1.trans g2,d⟩
     |ok s2=>
      obtain⟨b2,g2,R2⟩:=l1 s2 rfl;rw[←hB] at R2;have g12:=g1.trans g2
      have hj:C[b2.m.next]? =some ⟨14,(pc+(aA vs e).length+1+B.length+1+O.length:Nat),0,0⟩:=by
       rw[R2.next];have:=hC.left.right.one;simp only[List.length_append,List.length_singleton] at this;rw[←this];congr 1;omega
      obtain⟨k1,k2⟩:=iU g12 R2.st hj R2.cells R2.out R2.wrong;cases hr
      cases e3:cx s2 with
      |error q=>exact⟨fun s' h=>(by cases h),fun c s' h=>by cases h;exact k2 _ _ e3⟩
      |ok s3=>
       obtain⟨g3,q3⟩:=k1 _ e3;refine⟨fun s' h=>?_,fun c s' h=>(by cases h)⟩;cases h;(have ed:aL inp false ⟨14,(pc+(aA vs e).length+1+B.length+1+O.length:Nat),0,0⟩ (bump b2)=eg b2 (pc+(aA vs e).length+1+B.length+1+O.length) []:=by show eg b2 _ b2.m.stack=_;rw[R2.stack];rfl);rw[ed] at g3;exact⟨_,g3,kZ R2 q3⟩
 ·(have hc:bg vs (.mk 7 v e f body cG) pc=[⟨15,0,0,0⟩]:=by rw[bg];rfl);rw[hc] at hC⊢;rw[fT,if_neg (by decide),if_neg (by decide),if_neg (by decide),if_neg (by decide),if_neg (by decide),if_neg (by decide),if_pos rfl] at hr;cases hr;obtain⟨k1,k2⟩:=iU (eX.refl (C:=C) (inp:=inp) s.left b) hR.st (by rw[hR.next];exact hC.one) hR.cells hR.out hR.wrong
  cases e2:cx s with
  |error q=>exact⟨fun s' h=>(by cases h),fun c s' h=>by cases h;exact k2 _ _ e2⟩
  |ok s1=>
   obtain⟨g2,q2⟩:=k1 _ e2;refine⟨fun s' h=>?_,fun c s' h=>(by cases h)⟩;cases h;(have ed:aL inp false ⟨15,0,0,0⟩ (bump b)=eg b (pc+1) []:=by show eg b (b.m.next+1) b.m.stack=_;rw[hR.next,hR.stack]);rw[ed] at g2;exact⟨_,g2,kZ hR q2⟩
end
def tl (n:Nat):Be:=⟨⟨0,[],0,0,0,List.replicate n 0⟩,⟨0,[],0,0,0,List.replicate n 0⟩,[],false⟩
theorem Lv {p:Pr} (hc:bR p=0) {inp:List Int} {fuel:Nat} {c:Int} {s:RS} (h:oS p inp fuel c s):
 ∃b,runM (ak p) inp fuel (tl (sizes p.vars).toNat)=(b,fuel-s.left)∧s.left≤fuel∧b.m.cells=s.cells∧b.out=s.out∧b.wrong=false∧(c=0∧b.m.st=1∨c=13∧b.m.st=0∨((c=11∨c=12)∧b.m.st=c+2)):=by
 obtain⟨g,r,hl,he⟩:=h;have lh:ak p=aH p.vars p.body 0++[⟨16,0,0,0⟩]:=rfl;(have hAt:wS (ak p) 0 (aH p.vars p.body 0++[⟨16,0,0,0⟩]):=fun i x hx=>by rw[Nat.zero_add];exact hx);obtain⟨hV,-⟩:=dr hc;have R0:ug inp 0 (start p inp fuel) (tl (sizes p.vars).toNat):=⟨rfl,rfl,rfl,rfl,rfl,rfl,rfl,rfl⟩;obtain⟨l1,l2⟩:=lX p.body (fun y hy=>RF p.vars p.vars.length g y (hV.mem y hy)) 0 (tl (sizes p.vars).toNat) (start p inp fuel) r hl hAt.left R0
 have OF:∀(k:Nat) (b':Be),(k=0∨b'.m.st≠0)→runM (ak p) inp k b'=(b',0):=fun k b' h=>by
  cases k with
  |zero=>rfl
  |succ k=>
   rcases h with h|h
   ·cases h
   ·rw[runM,if_pos h]
 have fin:∀(c:Int) (s':RS) (b':Be),eX (ak p) inp fuel (tl (sizes p.vars).toNat) s'.left b'→Ee c s' b'→0<c→∃b,runM (ak p) inp fuel (tl (sizes p.vars).toNat)=(b,fuel-s'.left)∧s'.left≤fuel∧b.m.cells=s'.cells∧b.out=s'.out∧b.wrong=false∧(c=0∧b.m.st=1∨c=13∧b.m.st=0∨((c=11∨c=12)∧b.m.st=c+2)):=by
  intro c s' b' hg hd wR;obtain⟨d1,d2,d3,d4⟩:=hd;refine⟨b',?_,hg.1,d1,d2,d3,?_⟩
  ·rw[hg.2,OF s'.left b' (by
    rcases d4 with ⟨-,e,-⟩|⟨e,e2⟩
    ·exact .inl e
    ·exact .inr (by omega))]
   simp
  ·rcases d4 with ⟨e,-,e2⟩|⟨e,e2⟩
   ·exact .inr (.inl ⟨e,e2⟩)
   ·exact .inr (.inr ⟨e,e2⟩)
 cases r with
 |error q=>
  obtain⟨c0,s0⟩:=q;obtain⟨b',g1,d⟩:=l2 c0 s0 rfl;cases he
  exact fin _ _ b' g1 d (by
   obtain⟨-,-,-,d4⟩:=d
   rcases d4 with ⟨e,-,-⟩|⟨e,-⟩<;>omega)
 |ok s1=>
  obtain⟨b1,g1,R1⟩:=l1 s1 rfl;have hx:=hAt.right.one;rw[←R1.next] at hx;obtain⟨k1,k2⟩:=iU g1 R1.st hx R1.cells R1.out R1.wrong
  cases e:cx s1 with
  |error q=>
   obtain⟨c0,s0⟩:=q;obtain⟨b',g2,d⟩:=k2 _ _ e;(have S6:Lm (D7 (.ok s1))=(c0,s0):=by rw[D7,e];rfl);rw[S6] at he;cases he;obtain⟨-,CQ,-⟩:=fm.2 _ _ e;exact fin _ _ b' g2 d (by omega)
  |ok s2=>
   obtain⟨g2,q2⟩:=k1 _ e;(have S6:Lm (D7 (.ok s1))=(0,s2):=by rw[D7,e];rfl);rw[S6] at he;(have xU:s2.cells=s1.cells:=by rw[q2]);(have WR:s2.out=s1.out:=by rw[q2]);cases he;refine⟨aL inp false ⟨16,0,0,0⟩ (bump b1),?_,g2.1,by rw[xU];exact R1.cells,by rw[WR];exact R1.out,R1.wrong,.inl ⟨rfl,rfl⟩⟩;have hg:=g2.2;rw[OF _ _ (.inr (show (aL inp false ⟨16,0,0,0⟩ (bump b1)).m.st≠0 from (by decide:(1:Int)≠0)))] at hg;rw[show (start p inp fuel).left=fuel from rfl] at hg;rw[hg,Nat.zero_add]
def uh (b:Be):Int:=if b.wrong then 15 else if b.m.st=0 then 13 else if 1<b.m.st then IntKind.i64.wrap (b.m.st-2) else 0
theorem aG.OG {P:Program} {ρ:Env} {σ:PH} {Γ:List HP} {fn:Func} {t1:Tmp} {T1:TypeId} {g1 o1:Nat} {v1:Value} (hf:fn.results=#[.cell t1 T1]) (h1:ρ t1=.pointer (some ⟨g1,o1,none⟩)) (l1:∀h,Ho σ Γ h→Ld P h T1 g1 o1 v1):aG P fn ρ σ Γ v1:=aG.cell hf h1 l1
theorem RG (σ:PH) (mb pb:Nat) (pc:Option Addr) (nc cc:Nat) (iv:Value) (inp:List Int) (hi:aV σ iv inp) (rf:inp.length≤1000000):
 ae Tryz.prog 149 #[ptr mb,.slice pc nc cc,iv,ptr pb] σ [] (aE fun v ag ah=>∃g pi ci,v=ptr g∧σ.sub ag∧aV ag (.slice pi inp.length ci) inp∧ah=[au g [ptr mb,.slice pc nc cc,.slice pi inp.length ci,ptr pb,i64 0,.bool false] 179]):=by
 refine zf4 Tryz.func149 ?_;refine aW ?_;refine zw rfl (aC.cE (yy σ iv inp hi rf) rfl) ?_;rintro _ _ _ ⟨_,⟨p,c,rfl,rfl,rfl⟩,rfl⟩;refine az.cl ?_;refine az.qM (R:=bn 2 1 (.slice p inp.length c) _ _) zL dp aU ?_;rintro dQ ⟨⟩ hf bQ;(refine aN ?_;refine cN fun g15=>?_;refine bM ?_);exact b8 rfl rfl ⟨_,p,c,rfl,bQ,mF rfl hf,rfl⟩
section
variable (σ:PH) (g mb sb db pb:Nat) (pc:Option Addr) (cc:Nat) (code:List In) (iv:Value) (left:Int) (aX:Bool) (d:al) (s:cY) (M:Me)
theorem yD (h4:M.ld 4≠0):
 ae Tryz.prog 157 #[ptr g] σ [au g [ptr mb,.slice pc code.length cc,iv,ptr pb,i64 left,.bool aX] 179,eh mb sb db d s M] (aE fun v ag ah=>v=.bool false∧σ=ag∧ah=[au g [ptr mb,.slice pc code.length cc,iv,ptr pb,i64 left,.bool aX] 179,eh mb sb db d s M]):=by
 refine dF Tryz.func157 ?_;refine aO ?_;refine fZ 22 420960510 [] (aw.bP (R:=au g _ _) zL (aw.nil _)) ?_;refine bM ?_;refine aK.fL rfl rfl Gd.free (aC.cE (gv σ mb sb db d s M 4) rfl) ?_;rintro _ _ _ ⟨_,⟨rfl,rfl,rfl⟩,rfl⟩;refine stays (aK.cl ?_);refine b3 ?_;rw[show decide (M.ld 4=0)=false from decide_eq_false h4];refine a8 ?_;(first|refine aK.off rfl rfl (by first|exact Gd.EM rfl rfl rfl|exact Gd.un rfl rfl|(apply Gd.Fp;rfl;rfl;exact(by first|exact(rfl:decide _=true)|exact(rfl:decide _=false)|(refine decide_eq_true ?_;assumption)|(refine decide_eq_false ?_;assumption)|(refine decide_eq_true ?_;omega)|(refine decide_eq_false ?_;omega));rfl)) ?_|refine aK.xg rfl rfl (by first|exact Gd.EM rfl rfl rfl|exact Gd.un rfl rfl|(apply Gd.Fp;rfl;rfl;exact(by first|exact(rfl:decide _=true)|exact(rfl:decide _=false)|(refine decide_eq_true ?_;assumption)|(refine decide_eq_false ?_;assumption)|(refine decide_eq_true ?_;omega)|(refine decide_eq_false ?_;omega));rfl)) ?_|refine aK.O6 rfl rfl (by first|exact Gd.EM rfl rfl rfl|exact Gd.un rfl rfl|(apply Gd.Fp;rfl;rfl;exact(by first|exact(rfl:decide _=true)|exact(rfl:decide _=false)|(refine decide_eq_true ?_;assumption)|(refine decide_eq_false ?_;assumption)|(refine decide_eq_true ?_;omega)|(refine decide_eq_false ?_;omega));rfl)) ?_);refine a8 ?_;exact b8 rfl rfl ⟨rfl,rfl,rfl⟩
theorem Ef (b:Be) (inp:List Int) (x:In) (hc:bO 4 yu σ (.slice pc code.length cc) code) (hS:bD M.C b.m) (hk:lW code inp b x):
 ae Tryz.prog 157 #[ptr g] σ [au g [ptr mb,.slice pc code.length cc,iv,ptr pb,i64 left,.bool aX] 179,eh mb sb db d s M] (aE fun v ag ah=>v=.bool (decide (x.op=15))∧σ=ag∧ah=[au g [ptr mb,.slice pc code.length cc,iv,ptr pb,i64 left,.bool aX] 179,eh mb sb db d s M]):=by
 obtain⟨⟨next,stack,rd,outn,st,cells⟩,kept,out,wrong⟩:=b;obtain⟨iM,hx,-,-,-,-,-,mT,-,-,-⟩:=hk;simp only at iM hx mT hS;subst iM;obtain⟨oT,xa,xb,xn⟩:=x;have aT:=(List.getElem?_eq_some_iff.1 hx).1;obtain⟨gc,qs,row,rfl,pA,rC,bL⟩:=hc.at hx;obtain rfl:row=[i64 oT,i64 xa,i64 xb,i64 xn]:=pA;have mW:cz σ gc (qs+next*4) [i64 oT]:=bL.sub (j:=0) rfl;have rQ:=gv σ mb sb db d s M 4;rw[show M.ld 4=0 from hS.st] at rQ;have Vs:=gv σ mb sb db d s M 0;rw[show M.ld 0=next from hS.nx] at Vs;refine dF Tryz.func157 ?_;refine aO ?_;refine fZ 22 420960510 [] (aw.bP (R:=au g _ _) zL (aw.nil _)) ?_;refine bM ?_;refine aK.fL rfl rfl Gd.free (aC.cE (rQ) rfl) ?_;rintro _ _ _ ⟨_,⟨rfl,rfl,rfl⟩,rfl⟩;refine stays (aK.cl ?_);refine aW ?_;refine aK.fL rfl rfl (by first|exact Gd.free|exact Gd.EM rfl rfl rfl|(apply Gd.Fp;rfl;rfl;exact(by first|exact(rfl:decide _=true)|exact(rfl:decide _=false)|(refine decide_eq_true ?_;assumption)|(refine decide_eq_false ?_;assumption)|(refine decide_eq_true ?_;omega)|(refine decide_eq_false ?_;omega));rfl)) (aC.cE (Vs) rfl) ?_;rintro _ _ _ ⟨_,⟨rfl,rfl,rfl⟩,rfl⟩;refine stays (aK.cl ?_);refine a8 ?_;exact b8 rfl rfl ⟨rfl,rfl,rfl⟩
end
def RH (st:Int):Int:=if st=0 then 13 else if 1<st then IntKind.i64.wrap (st-2) else 0
theorem Hb (σ:PH) (g mb sb db pb:Nat) (cv iv:Value) (left:Int) (aX:Bool) (d:al) (s:cY) (M:Me) (m:Mi) (out:List Int) (wrong:Bool) (n:Nat) (hS:bD M.C m) (hn:n≤m.cells.length) (hl:out.length≤1000000):
 ae Tryz.prog 72 #[ptr g,i64 n] σ [au g [ptr mb,cv,iv,ptr pb,i64 left,.bool aX] 179,eh mb sb db d s M,bY pb out wrong] (aE fun v ag ah=>∃po co pc cc,v=.agg #[i64 (if wrong then 15 else RH m.st),.slice po out.length co,.slice pc n cc]∧aV ag (.slice po out.length co) out∧aV ag (.slice pc n cc) (m.cells.take n)∧σ.sub ag∧ah=[au g [ptr mb,cv,iv,ptr pb,i64 left,.bool aX] 179,eh mb sb db d s M,bY pb out wrong]):=by
 have zn:=hS.lc;have e4:M.ld 4=m.st:=hS.st;have rQ:=gv σ mb sb db d s M 4;rw[e4] at rQ;obtain⟨st,iM⟩:∃st,st=m.st:=⟨_,rfl⟩;rw[←iM] at rQ⊢;refine bS Tryz.func72 ?_;refine aN ?_;refine cR (fun g4=>?_) (ad rfl);refine bC ?_;refine zw rfl (aC.cE (Ls σ pb out wrong hl) rfl) ?_;rintro _ _ _ ⟨_,⟨po,co,rfl,rfl,rfl⟩,rfl⟩;refine az.cl ?_;refine b3 ?_;refine cR (fun g5=>?_) (ad rfl);refine aW ?_;refine zw rfl (aC.cE (rQ) rfl) ?_;rintro _ _ _ ⟨_,⟨rfl,rfl,rfl⟩,rfl⟩;refine az.cl ?_;(first|refine XA.aY (R:=bY pb out wrong) zL (bY.aY) ?_|refine az.aY (R:=bY pb out wrong) zL (bY.aY) ?_|refine DA.aY (R:=bY pb out wrong) zL (bY.aY) ?_);rintro⟨q,cq⟩-;(first|refine XA.cl ?_|refine az.cl ?_|refine DA.cl ?_);refine bq ?_;refine XA.join [(19,28)] (fun _:Unit=>[]) (fun _ ag ah=>σ=ag∧ah=[au g5 [i64 (RH st),.slice po out.length co,.slice none 0 0] 75,au g4 [i64 0,.slice none 0 0,.slice none 0 0] 75,au pb [.slice q out.length cq,i64 (tj wrong)] 168,bn 2 1 (.slice q out.length cq) out.length (ints out),bn 2 1 (.slice po out.length co) out.length (ints out),au g [ptr mb,cv,iv,ptr pb,i64 left,.bool aX] 179,eh mb sb db d s M]) ?_ ?_
 ·refine bC ?_;by_cases h0:st=0
  ·rw[RH,if_pos h0];refine XA.bG rfl (decide_eq_true h0) ?_;refine aO ?_;refine⟨cF,(),_,zM,?_,⟨rfl,rfl⟩⟩
   ·exact zE
  by_cases h1:1<st
  ·rw[RH,if_neg h0,if_pos h1];refine XA.aR rfl (decide_eq_false h0) ?_;refine bt ?_;refine XA.bG rfl (decide_eq_true h1) ?_;refine bC ?_;refine⟨cF,(),_,zM,?_,⟨rfl,rfl⟩⟩
   ·exact zE
  rw[RH,if_neg h0,if_neg h1];refine XA.aR rfl (decide_eq_false h0) ?_;refine bt ?_;refine XA.aR rfl (decide_eq_false h1) ?_;refine bq ?_;refine⟨cF,(),_,zM,?_,⟨rfl,rfl⟩⟩
  ·exact zE
 rintro⟨⟩ δ _ _ ⟨rfl,rfl⟩;dsimp only[eb,List.foldl];refine b3 ?_;refine eP ?_;refine XA.join [(37,44)] (fun _:Unit=>[]) (fun _ ag ah=>σ=ag∧ah=[au g5 [i64 (if wrong then 15 else RH st),.slice po out.length co,.slice none 0 0] 75,au g4 [i64 0,.slice none 0 0,.slice none 0 0] 75,au pb [.slice q out.length cq,i64 (tj wrong)] 168,bn 2 1 (.slice q out.length cq) out.length (ints out),bn 2 1 (.slice po out.length co) out.length (ints out),au g [ptr mb,cv,iv,ptr pb,i64 left,.bool aX] 179,eh mb sb db d s M]) ?_ ?_
 ·skip
  cases wrong with
  |true=>
   refine eP ?_;refine⟨cF,(),_,zM,?_,⟨rfl,rfl⟩⟩
   ·exact zE
  |false=>
   refine bq ?_;refine⟨cF,(),_,zM,?_,⟨rfl,rfl⟩⟩
   ·exact zE
 rintro⟨⟩ N2 _ _ ⟨rfl,rfl⟩;dsimp only[eb,List.foldl];(refine b3 ?_;refine XA.eS (aw.fy (e:=2) (size:=1) (aw.refl _)) ?_;refine bC ?_;refine XA.gen [(0,_),(4,_),(5,_),(45,_),(46,_)] jN fun δ=>?_);dsimp only[List.foldl];refine XA.loop [(7,7),(46,61)] (fun x:Nat×(Option Addr×Nat)=>[(46,i64 x.1)]) (fun x ag ah=>σ=ag∧x.1≤n∧ah=[au g5 [i64 (if wrong then 15 else RH st),.slice po out.length co,.slice x.2.1 x.1 x.2.2] 75,bn 2 1 (.slice x.2.1 x.1 x.2.2) x.1 (ints (m.cells.take x.1)),au g4 [i64 0,.slice none 0 0,.slice none 0 0] 75,au pb [.slice q out.length cq,i64 (tj wrong)] 168,bn 2 1 (.slice q out.length cq) out.length (ints out),bn 2 1 (.slice po out.length co) out.length (ints out),au g [ptr mb,cv,iv,ptr pb,i64 left,.bool aX] 179,eh mb sb db d s M]) (fun x=>n-x.1) (0,(none,0)) (by exact⟨rfl,trivial⟩) (Δ0:=_) ?_ (⟨rfl,Nat.zero_le _,rfl⟩) ?_
 ·exact zE
 rintro⟨k,pc,cc⟩ δ3 _ _ ⟨rfl,hk,rfl⟩;dsimp only[eb,List.foldl];have hk:k≤n:=hk;refine aO ?_;refine XA.bI rfl (fun aT=>?_) (fun aT=>?_)
 ·(have aT:k<n:=by omega);have Ig:M.ld (5+(k:Int))=m.cells.getD k 0:=hS.ce k (by omega);obtain⟨y,hy⟩:∃y,y=m.cells.getD k 0:=⟨_,rfl⟩;(have hxk:m.cells[k]? =some y:=by rw[hy,List.getD_eq_getElem?_getD,List.getElem?_eq_getElem (by omega)];rfl);have AK:=xt hxk;(have hlk:(ints (m.cells.take k)).length=k*1:=by rw[aj,List.length_take];omega);have Vt:=gv σ mb sb db d s M (5+(k:Int));rw[Ig,←hy] at Vt;have gG:dn [i64 y]:=jc rfl;refine aW ?_;refine fZ 13 1233714 [10,12] (aw.bP (R:=au g5 _ _) zL (aw.bP (R:=au g _ _) zL (aw.nil _))) ?_;refine bC ?_;refine aK.fL rfl rfl Gd.free (aC.cE (Vt) rfl) ?_;rintro _ _ _ ⟨_,⟨rfl,rfl,rfl⟩,rfl⟩;refine stays (aK.cl ?_);refine aK.fL rfl rfl Gd.free (aC.qO (ad rfl) rfl (ad rfl)) ?_;rintro _ _ _ ⟨g58,rfl,rfl,rfl⟩;refine stays ?_;refine aK.bj rfl rfl Gd.free (by kernel_rfl) (aC.tS (ad rfl) rfl (ad rfl) rfl rfl rfl) ?_;rintro _ _ _ ⟨p59,c59,rfl,rfl,rfl⟩;refine b3 ?_;refine aK.bj rfl rfl Gd.free (by kernel_rfl) (aC.st (ad rfl) rfl) ?_;rintro _ _ _ ⟨rfl,rfl,rfl⟩;refine bC ?_;refine⟨cF,(k+1,(p59,c59)),_,zM,?_,⟨rfl,aT,rfl⟩,(by simp only;omega)⟩
  ·rw[AK,show ints (m.cells.take k++[y])=ints (m.cells.take k)++[i64 y] by simp[ints]];exact zE
 (obtain rfl:k=n:=by omega);refine bH ?_;refine DA.qM (R:=bn 2 1 (.slice po out.length co) _ _) zL dp aU ?_;rintro dQ ⟨⟩ vD bQ;refine DA.qM (R:=bn 2 1 (.slice pc k cc) _ _) zL dp aU ?_;rintro dq ⟨⟩ zt bT;refine DA.eS (aw.e9 (Θ:=[au pb [.slice q out.length cq,i64 (tj wrong)] 168,bn 2 1 (.slice q out.length cq) out.length (ints out)]) zD (bY.mk rfl rfl rfl) (aw.refl _)) ?_;exact ao.ret (aG.OG rfl rfl (Ld.bN (ad rfl) rfl zL rfl (by first|exact bJ (by first|rfl|assumption|(refine(aj _).trans ?_;assumption)|(simp[*];(first|done|fail)))|assumption|exact aI (by first|rfl|assumption|(refine(aj _).trans ?_;assumption)|(simp[*];(first|done|fail)))|(conv=>lhs;simp only[List.drop_succ_cons,List.drop_zero,List.take_succ_cons,List.take_zero])) (by first|rfl|assumption|(refine(aj _).trans ?_;assumption)|(simp[*];(first|done|fail))))) zE ⟨po,co,pc,cc,rfl,mF rfl (aU () _ _ vD bT),mF (by rw[List.length_take];omega) zt,bQ.trans bT,rfl⟩
def bz (code:List In) (inp:List Int) (keep:Bool) (b:Be):Be:=if b.m.st=0 then b5 code inp keep b else b
def ju (code:List In) (inp:List Int) (M:Me):Me:=if M.ld 4=0 then M.kr code inp else M
theorem Eg (inp:List Int) (x:In) (b:Be) (keep:Bool):(aL inp keep x b).m=(aL inp false x b).m∧(aL inp keep x b).out=(aL inp false x b).out∧(aL inp keep x b).wrong=(aL inp false x b).wrong:=by
 cases keep with
 |false=>exact⟨rfl,rfl,rfl⟩
 |true=>
  by_cases h:x.op=15
  ·obtain⟨op,a1,a2,a3⟩:=x;simp only at h;subst h;exact⟨rfl,rfl,rfl⟩
  ·(have e:aL inp true x b=aL inp false x b:=by simp only[aL,if_neg h]);rw[e];exact⟨rfl,rfl,rfl⟩
theorem Bd (code:List In) (inp:List Int) (b:Be) (keep:Bool):(b5 code inp keep b).m=(b5 code inp false b).m∧(b5 code inp keep b).out=(b5 code inp false b).out∧(b5 code inp keep b).wrong=(b5 code inp false b).wrong:=by
 rw[b5,b5]
 cases code[b.m.next]? with
 |none=>exact⟨rfl,rfl,rfl⟩
 |some x=>exact Eg inp x (bump b) keep
theorem Bf (code:List In) (inp:List Int) (b:Be) (keep:Bool):(bz code inp keep b).m=(bz code inp false b).m∧(bz code inp keep b).out=(bz code inp false b).out∧(bz code inp keep b).wrong=(bz code inp false b).wrong:=by
 rw[bz,bz];split
 ·exact Bd code inp b keep
 ·exact⟨rfl,rfl,rfl⟩
structure fi (p:Pr) (inp:List Int) (M:Me) (b:Be) (k:Nat):Prop where
 ch:bR p=0
 inv:Ba p inp b.out.length b.m
 sh:bD M.C b.m
 inl:inp.length≤1000000
 cl:(ak p).length≤1000000
 ol:b.out.length≤k
theorem fi.st {p:Pr} {inp:List Int} {M:Me} {b:Be} {k:Nat} (h:fi p inp M b k):M.ld 4=b.m.st:=h.sh.st
theorem fi.ok {p:Pr} {inp:List Int} {M:Me} {b:Be} {k:Nat} (h:fi p inp M b k) (hk:k≤1000000) (h0:b.m.st=0):∃x,lW (ak p) inp b x∧b.m.stack.length<59:=by
 obtain⟨x,hx⟩:=h.inv.ok h.ch h0 h.inl (by have:=h.ol;omega) h.cl;obtain⟨h1,h2⟩:=h.inv.at_ h0;have:=GZ h.ch h1;exact⟨x,hx,by omega⟩
theorem fi.next {p:Pr} {inp:List Int} {M:Me} {b:Be} {k:Nat} (h:fi p inp M b k) (hk:k≤1000000) (keep:Bool):fi p inp (ju (ak p) inp M) (bz (ak p) inp keep b) (k+1):=by
 have e:=h.st;by_cases h0:b.m.st=0
 ·obtain⟨x,hx,hs⟩:=h.ok hk h0;obtain⟨q1,q2,q3,-⟩:=h.inv.step (keep:=keep) h.ch hx;rw[ju,if_pos (by omega),bz,if_pos h0];exact⟨h.ch,q1,h.sh.step keep hx hs,h.inl,h.cl,by have:=h.ol;omega⟩
 ·rw[ju,if_neg (by omega),bz,if_neg h0];exact⟨h.ch,h.inv,h.sh,h.inl,h.cl,by have:=h.ol;omega⟩
theorem fi.cells {p:Pr} {inp:List Int} {M:Me} {b:Be} {k:Nat} (h:fi p inp M b k):b.m.cells.length=(sizes p.vars).toNat:=h.inv.cells
section
variable (σ:PH) (g mb sb db pb:Nat) (pc pi:Option Addr) (cc ci:Nat) (inp:List Int) (d:al) (s:cY) (M:Me) (b:Be) (p:Pr) (k:Nat)
theorem Vu (hc:bO 4 yu σ (.slice pc (ak p).length cc) (ak p)) (hi:aV σ (.slice pi inp.length ci) inp) (hg:s.gen<4611686018427387904) (h:fi p inp M b k) (hk:k≤1000000):
 ae Tryz.prog 156 #[ptr g] σ [au g [ptr mb,.slice pc (ak p).length cc,.slice pi inp.length ci,ptr pb,i64 0,.bool false] 179,eh mb sb db d s M,bY pb b.out b.wrong] (aE fun v ag ah=>∃(d':al) (s':cY),v=.bool (decide (b.m.st=0))∧s'.gen≤s.gen+1∧(d'=d∧s'=s∨Good d' s'∧cw d' s'=(ju (ak p) inp M).C∧b.m.st=0∧∃x,(ak p)[b.m.next]? =some x∧x.op=15)∧((∀x,(ak p)[b.m.next]? =some x→x.op≠15)→d'=d∧s'=s)∧((∀x,(ak p)[b.m.next]? =some x→x.op=15)→b.m.st=0→Good d' s'∧cw d' s'=(ju (ak p) inp M).C)∧σ.sub ag∧ah=[au g [ptr mb,.slice pc (ak p).length cc,.slice pi inp.length ci,ptr pb,i64 0,.bool false] 179,eh mb sb db d' s' (ju (ak p) inp M),bY pb (bz (ak p) inp false b).out (bz (ak p) inp false b).wrong]):=by
 have e:=h.st;by_cases h0:b.m.st=0
 ·obtain⟨x,hx,hs⟩:=h.ok hk h0;rw[ju,if_pos (by omega),bz,if_pos h0];by_cases js:x.op=15
  ·have e1:(b5 (ak p) inp false b).out=b.out∧(b5 (ak p) inp false b).wrong=b.wrong:=by
    rw[b5,hx.at_];obtain⟨op,a1,a2,a3⟩:=x;simp only at js;subst js;exact⟨rfl,rfl⟩
   rw[e1.1,e1.2];refine ae.ret (R:=fun v ag ah=>∃b7,(∃(d':al) (s':cY),v=.bool true∧s'.gen=s.gen+1∧cw d' s'=(M.kr (ak p) inp).C∧Good d' s'∧σ.sub ag∧b7=[au g [ptr mb,.slice pc (ak p).length cc,.slice pi inp.length ci,ptr pb,i64 0,.bool false] 179,eh mb sb db d' s' (M.kr (ak p) inp)])∧ah=b7++[bY pb b.out b.wrong]) (((Lt σ g mb sb db pb pc pi cc ci (ak p) inp false d s M b x hc hg h.sh hx js).frame [bY pb b.out b.wrong] (aw.refl _)).mono ?_) ?_
   ·rintro e ag _ ⟨b7,q,rfl⟩
    cases e with
    |returned v=>exact⟨b7,q,rfl⟩
    |panicked c=>exact q.elim
    |outgrown=>exact q.elim
   ·rintro v ag _ ⟨b7,⟨d',s',rfl,q1,q2,q3,q4,rfl⟩,rfl⟩;refine⟨d',s',by rw[decide_eq_true h0],by omega,.inr ⟨q3,q2,h0,x,hx.at_,js⟩,fun q=>absurd js (q x hx.at_),fun _ _=>⟨q3,q2⟩,q4,rfl⟩
  ·refine(RE σ g mb sb db pb pc pi cc ci (ak p) inp 0 false d s M b x hc hi h.inl h.sh hx hs js).ret ?_;rintro v ag _ ⟨rfl,rfl,rfl⟩;exact⟨d,s,by rw[decide_eq_true h0],by omega,.inl ⟨rfl,rfl⟩,fun _=>⟨rfl,rfl⟩,fun q=>absurd (q x hx.at_) js,.refl _,rfl⟩
 ·rw[ju,if_neg (by omega),bz,if_neg h0];refine ae.ret (R:=fun v ag ah=>∃b7,(v=.bool false∧σ=ag∧b7=[au g [ptr mb,.slice pc (ak p).length cc,.slice pi inp.length ci,ptr pb,i64 0,.bool false] 179,eh mb sb db d s M])∧ah=b7++[bY pb b.out b.wrong]) (((Bb σ g mb sb db pb (.slice pc (ak p).length cc) (.slice pi inp.length ci) 0 false d s M (by omega)).frame [bY pb b.out b.wrong] (aw.refl _)).mono ?_) ?_
  ·rintro e ag _ ⟨b7,q,rfl⟩
   cases e with
   |returned v=>exact⟨b7,q,rfl⟩
   |panicked c=>exact q.elim
   |outgrown=>exact q.elim
  ·rintro v ag _ ⟨b7,⟨rfl,rfl,rfl⟩,rfl⟩;exact⟨d,s,by rw[decide_eq_false h0],by omega,.inl ⟨rfl,rfl⟩,fun _=>⟨rfl,rfl⟩,fun _ q=>absurd q h0,.refl _,rfl⟩
end
theorem Lw {p:Pr} (hc:bR p=0) (inp:List Int):Ba p inp 0 (tl (sizes p.vars).toNat).m:=by
 have hl:0<(ak p).length:=by
  have:ak p=aH p.vars p.body 0++[⟨16,0,0,0⟩]:=rfl;rw[this,List.length_append];simp
 exact⟨fun _=>⟨hl,by simp[tl,rV]⟩,by simp[tl],Nat.le_refl _,Nat.zero_le _⟩
theorem ja (a:Int):eL mI a=0:=by
 unfold eL;split
 ·rename_i h;have h8:a.toNat/8<14:=by omega
  have e:mI.getD (a.toNat/8) al.aZ=al.aZ:=by
   rw[mI,List.getD_eq_getElem?_getD,List.getElem?_replicate];split<;>rfl
  rw[e];(have h9:a.toNat%8<8:=by omega);generalize a.toNat%8=k at h9
  match k,h9 with
  |0,_=>rfl
  |1,_=>rfl
  |2,_=>rfl
  |3,_=>rfl
  |4,_=>rfl
  |5,_=>rfl
  |6,_=>rfl
  |7,_=>rfl
 ·rfl
theorem RI {n:Nat} (h:n≤48):bD mI (tl n).m:=
 ⟨AX,ja _,ja _,ja _,ja _,ja _,fun k hk=>by rw[ja];simp[tl,List.getD_eq_getElem?_getD,List.getElem?_replicate];split<;>rfl,fun j hj=>by simp[tl] at hj,by simpa[tl] using h,by simp[tl]⟩
def M0:Me:=⟨mI,rG⟩
theorem OH {p:Pr} (hc:bR p=0) (inp:List Int) (hi:inp.length≤1000000) (hl:(ak p).length≤1000000):fi p inp M0 (tl (sizes p.vars).toNat) 0:=by
 obtain⟨-,-,nU,zn⟩:=dr hc;exact⟨hc,Lw hc inp,RI (by omega),hi,hl,Nat.le_refl _⟩
theorem RJ (σ:PH) (cs:List Value) (p:Pr) (iv:Value) (inp:List Int) (f:Nat) (hp:fY σ cs p) (hi:aV σ iv inp) (hc:bR p=0) (hl:inp.length≤40) (hf:f≤3000):
 ae Tryz.prog 68 #[.agg cs.toArray,iv,i64 f] σ [] (aE fun v ag ah=>∃(c:Int) (s:RS) (po pc:Option Addr) (co cc:Nat),oS p inp f c s∧v=.tuple #[.agg #[i64 c,.slice po s.out.length co,.slice pc s.cells.length cc],i64 ((f:Int)-s.left),i64 0]∧aV ag (.slice po s.out.length co) s.out∧aV ag (.slice pc s.cells.length cc) s.cells∧s.left≤f∧σ.sub ag∧ah=[]):=by
 refine(Oz σ cs p iv inp f hp hi).ret ?_;rintro v ag ah ⟨h1,h2,h3⟩;rw[if_neg (fun h=>h hc),if_neg (by omega)] at h3;obtain⟨c,s,vo,vc,h4,h5,h6,h7,h8⟩:=h3;obtain⟨po,co,rfl,-,-⟩:=h6.shape;obtain⟨pc,cc,rfl,-,-⟩:=h7.shape;rw[Int.toNat_natCast] at h4 h8;exact⟨c,s,po,pc,co,cc,h4,h5,h6,h7,h8,h1,h2⟩
theorem Eh (σ:PH) (cs:List Value) (p:Pr) (iv:Value) (inp:List Int) (f:Int) (hp:fY σ cs p) (hi:aV σ iv inp) (hc:bR p=0) (hr:40<inp.length∨f<0∨3000<f):
 ae Tryz.prog 68 #[.agg cs.toArray,iv,i64 f] σ [] (aE fun v ag ah=>v=.tuple #[.agg #[i64 0,.slice none 0 0,.slice none 0 0],i64 0,i64 1]∧σ.sub ag∧ah=[]):=by
 refine(Oz σ cs p iv inp f hp hi).ret ?_;rintro v ag ah ⟨h1,h2,h3⟩;rw[if_neg (fun h=>h hc),if_pos hr] at h3;exact⟨h3,h1,h2⟩
theorem Hc (σ:PH) (g mb pb:Nat) (pc pi:Option Addr) (nc cc ni ci:Nat) (left:Int) (aX:Bool) (n:Int):
 ae Tryz.prog 158 #[ptr g,i64 n] σ [au g [ptr mb,.slice pc nc cc,.slice pi ni ci,ptr pb,i64 left,.bool aX] 179] (aE fun v ag ah=>v=.tuple #[]∧σ=ag∧ah=[au g [ptr mb,.slice pc nc cc,.slice pi ni ci,ptr pb,i64 n,.bool aX] 179]):=by
 refine bS Tryz.func158 ?_;refine bt ?_;exact fU rfl ⟨rfl,rfl,rfl⟩
def zy (code:List In) (m:Mi):Bool:=decide (m.st=0)&&(match code[m.next]? with|some x=>decide (x.op=15)|none=>false)
theorem RL {code:List In} {m:Mi} (h:m.st≠0):zy code m=false:=by rw[zy,decide_eq_false h];rfl
theorem wj {code:List In} {m:Mi} {x:In} (h:m.st=0) (hx:code[m.next]? =some x):zy code m=decide (x.op=15):=by rw[zy,decide_eq_true h,hx];rfl
theorem yG (σ:PH) (g mb sb db pb:Nat) (pc:Option Addr) (cc:Nat) (iv:Value) (left:Int) (aX:Bool) (d:al) (s:cY) (M:Me) (b:Be) (inp:List Int) (p:Pr) (k:Nat) (hc:bO 4 yu σ (.slice pc (ak p).length cc) (ak p)) (h:fi p inp M b k) (hk:k≤1000000):
 ae Tryz.prog 157 #[ptr g] σ [au g [ptr mb,.slice pc (ak p).length cc,iv,ptr pb,i64 left,.bool aX] 179,eh mb sb db d s M] (aE fun v ag ah=>v=.bool (zy (ak p) b.m)∧σ=ag∧ah=[au g [ptr mb,.slice pc (ak p).length cc,iv,ptr pb,i64 left,.bool aX] 179,eh mb sb db d s M]):=by
 by_cases h0:b.m.st=0
 ·obtain⟨x,hx,-⟩:=h.ok hk h0;rw[wj h0 hx.at_];exact Ef σ g mb sb db pb pc cc (ak p) iv left aX d s M b inp x hc h.sh hx
 ·rw[RL h0];exact yD σ g mb sb db pb pc cc (ak p) iv left aX d s M (by rw[h.st];exact h0)
def gy (M:Me) (left:Int):Nat:=(max (((bA M.C M.dt).length:Int)+5-left) 0).toNat
def ui (mb sb db:Nat) (d:al) (s:cY) (M:Me) (j:Nat):HP:=fun m=>∃x:List Bool×List (List Int),(Good d s∧nA d s x.1 M.dt x.2 M.C)∧Sat [au mb (aS sb x.1 M.dt x.2) 242,br sb db s,a7 db (ef d s (bA M.C M.dt) j)] m
theorem ui.aY {mb sb db:Nat} {d:al} {s:cY} {M:Me} {j:Nat}:∀m,ui mb sb db d s M j m→∃x:List Bool×List (List Int),(Good d s∧nA d s x.1 M.dt x.2 M.C)∧Sat [au mb (aS sb x.1 M.dt x.2) 242,br sb db s,a7 db (ef d s (bA M.C M.dt) j)] m:=fun _ h=>h
theorem ui.mk {mb sb db:Nat} {d:al} {s:cY} {C pg:List (List Int)} {inn dt:List Bool} {j:Nat} (hG:Good d s) (hM:nA d s inn dt pg C):∀m,Sat [au mb (aS sb inn dt pg) 242,br sb db s,a7 db (ef d s (bA C dt) j)] m→ui mb sb db d s ⟨C,dt⟩ j m:=fun _ h=>⟨(inn,pg),⟨hG,hM⟩,h⟩
theorem Hd (σ:PH) (mb sb db:Nat) (d:al) (s:cY) (M:Me):
 ae Tryz.prog 224 #[ptr mb] σ [eh mb sb db d s M] (aE fun v ag ah=>(∃(p:Option Addr) (c:Nat),v=.slice p (bA M.C M.dt).length c)∧σ=ag∧ah=[eh mb sb db d s M]):=by
 refine ae.aY .head eh.aY (enters Tryz.func224 rfl rfl) ?_;rintro⟨inn,pg⟩ ⟨hG,hM⟩;refine ae.yj (R:=fun v ag ah=>∃b7,(∃(p:Option Addr) (c:Nat) (rows:List (List Value)),v=.slice p (bA M.C M.dt).length c∧σ=ag∧b7=[au mb (aS sb inn M.dt pg) 242,bn 292 9 (.slice p (bA M.C M.dt).length c) (bA M.C M.dt).length rows.flatten])∧ah=b7++[br sb db s,a7 db d]) ?_ ?_
 ·refine((CA σ mb sb d s inn M.dt pg M.C hM).frame [br sb db s,a7 db d] (aw.refl _)).mono ?_;rintro e ag _ ⟨b7,h,rfl⟩
  cases e with
  |returned v=>obtain⟨p,c,rows,e1,-,e2,e3⟩:=h;exact⟨b7,⟨p,c,rows,e1,e2,e3⟩,rfl⟩
  |panicked c=>exact h.elim
  |outgrown=>exact h.elim
 ·rintro v ag _ ⟨_,⟨p,c,rows,rfl,rfl,rfl⟩,rfl⟩;exact⟨_,aw.eC (aw.bP .head (aw.bP (.tail (.head)) (aw.bP (.tail .head) (aw.nil _)))) (eh.mk hG hM),⟨p,c,rfl⟩,rfl,rfl⟩
theorem Lx (σ:PH) (mb sb db:Nat) (d:al) (s:cY) (M:Me) (left:Int) (hg:s.gen<4611686018427387904) (hl:0<left) (jy:left<9223372036854775808):
 ae Tryz.prog 225 #[ptr mb,i64 (max (((bA M.C M.dt).length:Int)+5-left) 0)] σ [eh mb sb db d s M] (aE fun v ag ah=>v=.bool false∧σ.sub ag∧ah=[ui mb sb db d s M (gy M left)]):=by
 refine ae.aY .head eh.aY (enters Tryz.func225 rfl rfl) ?_;rintro⟨inn,pg⟩ ⟨hG,hM⟩;have ud:(bA M.C M.dt).length≤14:=gT M.C M.dt 14;refine(Gs σ mb sb db d s inn M.dt pg M.C _ hG hg ⟨by omega,by omega⟩ hM).yj ?_;rintro v ag _ ⟨j,zv,EZ,Oo,rfl,hs,rfl⟩
 have hj:j=gy M left:=by
  unfold gy;rcases Nat.lt_or_ge j ((bA M.C M.dt).length+5) with h|h
  ·have:=EZ h;omega
  ·have:=Oo (by omega) (max (((bA M.C M.dt).length:Int)+5-left) 0).toNat (by omega);omega
 (have E0:j≠(bA M.C M.dt).length+5:=by rw[hj];unfold gy;omega);rw[if_neg E0,if_neg E0,←hj,decide_eq_false E0];exact⟨_,aw.eC (aw.refl _) (ui.mk hG hM),rfl,hs,rfl⟩
section
variable (σ:PH) (g mb sb db pb:Nat) (cv iv:Value) (left:Int) (aX:Bool) (d:al) (s:cY) (M:Me)
theorem Ei (pc pi:Option Addr) (nc cc ni ci:Nat) (hg:s.gen<4611686018427387904) (hl:0<left) (jy:left<9223372036854775808):
 ae Tryz.prog 197 #[ptr g] σ [au g [ptr mb,.slice pc nc cc,.slice pi ni ci,ptr pb,i64 left,.bool aX] 179,eh mb sb db d s M] (aE fun v ag ah=>v=.tuple #[]∧σ.sub ag∧ah=[au g [ptr mb,.slice pc nc cc,.slice pi ni ci,ptr pb,i64 left,.bool true] 179,ui mb sb db d s M (gy M left)]):=by
 have ud:(bA M.C M.dt).length≤14:=gT M.C M.dt 14;have hsy:=Lx σ mb sb db d s M left hg hl jy;have hdi:=Hd σ mb sb db d s M;obtain⟨L,hL⟩:∃L,L=(bA M.C M.dt).length:=⟨_,rfl⟩;rw[←hL] at ud hsy hdi;have nU:IntKind.i64.wrap ((L:Int)+2)=L+2:=X.wrap64_in (by omega) (by omega);(have rE:IntKind.i64.wrap ((L:Int)+2+3)=L+5:=by rw[X.wrap64_in (by omega) (by omega)];omega);have hv3:IntKind.i64.wrap ((L:Int)+5-left)=L+5-left:=X.wrap64_in (by omega) (by omega);refine dF Tryz.func197 ?_;refine cr ?_;refine XA.bG rfl (decide_eq_true hl) ?_;refine XA.draw (by kernel_rfl) _ _ [] [(0,.pu),(1,.pu),(2,.pu),(3,.rd),(8,.pu),(9,.pu),(10,.pu),(11,.rd),(4,.wr),(5,.pu),(6,.pu),(7,.pu),(12,.pu),(13,.pu),(14,.pu)] (by kernel_rfl) (PH.sub.refl _) (aw.bP (R:=au g _ _) zL (aw.nil _)) ?_;refine bC ?_;refine aK.fL rfl rfl Gd.free (aC.cE (hdi) rfl) ?_;rintro _ _ _ ⟨_,⟨⟨p,c,rfl⟩,rfl,rfl⟩,rfl⟩;refine stays (aK.cl ?_);refine bM ?_;refine zu rfl rfl (Rd.max2 rfl rfl) ?_;refine aW ?_;rw[show (if 0>(L:Int)+2+3-left then (0:Int) else (L:Int)+2+3-left)=max ((L:Int)+5-left) 0 from by split<;>omega];refine zw rfl (aC.cE (hsy) rfl) ?_;rintro _ dQ _ ⟨_,⟨rfl,bQ,rfl⟩,rfl⟩;refine az.cl ?_;refine b9 ?_;exact fU rfl ⟨rfl,bQ,rfl⟩
end
section
variable (σ:PH) (g mb sb db pb:Nat) (pc pi:Option Addr) (cc ci:Nat) (code:List In) (inp:List Int) (left:Int) (aX:Bool) (d:al) (s:cY) (M:Me) (b:Be) (x:In)
theorem Ly (hc:bO 4 yu σ (.slice pc code.length cc) code) (hg:s.gen<4611686018427387904) (hl:0<left) (jy:left<9223372036854775808) (hS:bD M.C b.m) (hk:lW code inp b x) (js:x.op=15):
 ae Tryz.prog 156 #[ptr g] σ [au g [ptr mb,.slice pc code.length cc,.slice pi inp.length ci,ptr pb,i64 left,.bool aX] 179,eh mb sb db d s M] (aE fun v ag ah=>v=.bool true∧σ.sub ag∧ah=[au g [ptr mb,.slice pc code.length cc,.slice pi inp.length ci,ptr pb,i64 left,.bool true] 179,ui mb sb db d s (M.put 0 (M.ld 0+1)) (gy (M.put 0 (M.ld 0+1)) left)]):=by
 obtain⟨⟨next,stack,rd,outn,st,cells⟩,kept,out,wrong⟩:=b;obtain⟨iM,hx,-,-,-,-,-,mT,-,-,-⟩:=hk;simp only at iM hx mT hS;subst iM;obtain⟨oT,xa,xb,xn⟩:=x;simp only at js;subst js;have aT:=(List.getElem?_eq_some_iff.1 hx).1;obtain⟨gc,qs,row,rfl,pA,rC,bL⟩:=hc.at hx;obtain rfl:row=[i64 15,i64 xa,i64 xb,i64 xn]:=pA;have e0:M.ld 0=next:=hS.nx;have rQ:=gv σ mb sb db d s M 4;rw[show M.ld 4=0 from hS.st] at rQ;have jt:=tk σ g mb sb db pb (.slice (some ⟨gc,qs,none⟩) code.length cc) (.slice pi inp.length ci) left aX d s M 0 1;rw[e0,X.wrap64_in (by omega) (by omega)] at jt;rw[e0];clear hS e0 hc hx;generalize M.put 0 (((next:Nat):Int)+1)=M1 at jt⊢;refine dF Tryz.func156 ?_;refine bH ?_;refine zw rfl (aC.cE (rQ) rfl) ?_;rintro _ _ _ ⟨_,⟨rfl,rfl,rfl⟩,rfl⟩;refine az.cl ?_;refine bq ?_;refine bM ?_;refine XA.join [(3,3),(11,18)] (fun y:Nat=>[(3,ptr y)]) (fun y ag ah=>σ=ag∧ah=[au y [i64 15,i64 xa,i64 xb,i64 xn] 219,au g [ptr mb,.slice (some ⟨gc,qs,none⟩) code.length cc,.slice pi inp.length ci,ptr pb,i64 left,.bool aX] 179,eh mb sb db d s M1]) ?_ ?_
 ·skip;refine XA.n7 (by kernel_rfl) _ _ [9] 10 #[false,false,false,false,false,false,false,false,false,false] rfl rfl (by kernel_rfl) (PH.sub.refl _) (aw.bP (R:=au g _ _) zL (aw.nil _)) ?_;refine qp 0 #[tT,fF,fF,fF,fF,fF,fF,fF,fF,fF] rfl Rd.mv ?_;refine qp 1 #[tT,tT,fF,fF,fF,fF,fF,fF,fF,fF] rfl (Rd.nilCheck rfl) ?_;refine qp 2 #[tT,tT,tT,fF,fF,fF,fF,fF,fF,fF] rfl (Rd.fA rfl) ?_;refine qr 3 #[tT,tT,tT,tT,fF,fF,fF,fF,fF,fF] rfl (Rd.EN rfl (ad rfl) rfl) ?_;refine qp 4 #[tT,tT,tT,tT,tT,fF,fF,fF,fF,fF] rfl Rd.mv ?_;refine cC.w2 (i:=5) (j:=8) (by kernel_rfl) ?_ ?_
  ·refine qw #[tT,tT,tT,tT,tT,tT,fF,fF,fF,fF] rfl (aC.cE jt rfl) ?_;rintro _ _ _ ⟨_,⟨rfl,rfl,rfl⟩,rfl⟩;refine⟨⟨zX,zE⟩,cC.re zC ?_⟩;refine qp 6 #[tT,tT,tT,tT,tT,tT,tT,fF,fF,fF] rfl (Rd.NW rfl rfl) ?_;refine qr 7 #[tT,tT,tT,tT,tT,tT,tT,tT,fF,fF] rfl (Rd.Ah rfl) ?_;refine qa 8 ?_;refine qw #[tT,tT,tT,tT,tT,tT,tT,tT,tT,fF] rfl (aC.alloc (ad rfl)) ?_;rintro _ _ _ ⟨g3,rfl,rfl,rfl⟩;refine⟨⟨zX,zE⟩,cC.re zC ?_⟩;refine qa 9 ?_;refine iN.bj (aQ:=#[tT,tT,tT,tT,tT,tT,tT,tT,tT,tT]) rfl rfl Gd.free (by kernel_rfl) rfl (by kernel_rfl) (aC.st (ad rfl) rfl) ?_;rintro _ _ _ ⟨rfl,rfl,rfl⟩;refine cC.re zC ?_;refine cC.nil rfl ?_;refine DA.bE ⟨zK,g3,_,zM,?_,rfl,rfl⟩;exact zE
  ·refine qw #[tT,tT,tT,tT,tT,fF,fF,fF,tT,fF] rfl (aC.alloc (ad rfl)) ?_;rintro _ _ _ ⟨g3,rfl,rfl,rfl⟩;refine⟨⟨zX,zE⟩,cC.re zC ?_⟩;refine qa 5 ?_;refine qw #[tT,tT,tT,tT,tT,tT,fF,fF,tT,fF] rfl (aC.cE jt rfl) ?_;rintro _ _ _ ⟨_,⟨rfl,rfl,rfl⟩,rfl⟩;refine⟨⟨zX,zE⟩,cC.re zC ?_⟩;refine qp 6 #[tT,tT,tT,tT,tT,tT,tT,fF,tT,fF] rfl (Rd.NW rfl rfl) ?_;refine qr 7 #[tT,tT,tT,tT,tT,tT,tT,tT,tT,fF] rfl (Rd.Ah rfl) ?_;refine qa 9 ?_;refine iN.bj (aQ:=#[tT,tT,tT,tT,tT,tT,tT,tT,tT,tT]) rfl rfl Gd.free (by kernel_rfl) rfl (by kernel_rfl) (aC.st (ad rfl) rfl) ?_;rintro _ _ _ ⟨rfl,rfl,rfl⟩;refine cC.re zC ?_;refine cC.nil rfl ?_;refine DA.bE ⟨zK,g3,_,zM,?_,rfl,rfl⟩;exact zE
 rintro g3 δ _ _ ⟨rfl,rfl⟩;dsimp only[eb,List.foldl];refine b3 ?_;refine dJ ?_;refine bC ?_;(iterate 3 (refine bt ?_));refine aO ?_;(iterate 4 (refine bt ?_));refine bq ?_;refine zw rfl (aC.cE (Ei σ g mb sb db pb left aX d s M1 _ _ _ _ _ _ hg hl jy) rfl) ?_;rintro _ dQ _ ⟨_,⟨rfl,bQ,rfl⟩,rfl⟩;refine az.cl ?_;refine a8 ?_;exact b8 rfl rfl ⟨rfl,bQ,rfl⟩
end
end Go.Proofs.YtgeoiflbjcehcaaGreatDoor
