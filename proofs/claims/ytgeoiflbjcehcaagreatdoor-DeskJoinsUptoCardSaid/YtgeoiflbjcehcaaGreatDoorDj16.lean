import Derived.Test.YtgeoiflbjcehcaaGreatDoorDj15
set_option maxHeartbeats 4000000
set_option maxRecDepth 2000
set_option linter.unusedVariables false
set_option linter.unusedSimpArgs false
namespace Go.Proofs.YtgeoiflbjcehcaaGreatDoor
open Go X
def jk (f:Nat→List Int) (l:List bu):Nat→Nat→List Int
 |0=>f
 |k+1=>fun p=>if p=(l.getD k ⟨0,[]⟩).n.toNat then (l.getD k ⟨0,[]⟩).w else jk f l k p
theorem K6 {F:List Int} (h:F.Nodup) {i j:Nat} (hi:i<F.length) (hj:j<F.length) (fW:i≠j):F.getD i 0≠F.getD j 0:=by
 have key:∀i j,i<j→j<F.length→F.getD i 0≠F.getD j 0:=fun i j WI hj=>by
  have:=List.pairwise_iff_getElem.1 h i j (by omega) hj WI;simpa[List.getD_eq_getElem?_getD,show i<F.length by omega,hj] using this
 rcases Nat.lt_or_gt_of_ne fW with h1|h1
 ·exact key i j h1 hj
 ·exact(key j i h1 hi).symm
def Cq (H:Int→List Int) (a:Int):List Int:=if a=0 then al.aZ else H a
theorem Cr {H:Int→List Int} {a:Int} (h:a=0):Cq H a=al.aZ:=if_pos h
theorem vR {H:Int→List Int} {a:Int} (h:a≠0):Cq H a=H a:=if_neg h
theorem x6 {l:List Int} {n p:Nat} {a:Int} (hp:p<l.length):(l.set n a).getD p 0=if p=n then a else l.getD p 0:=by
 rw[List.getD_eq_getElem?_getD,List.getElem?_set];by_cases e:n=p
 ·rw[if_pos e,if_pos (by omega),if_pos e.symm];rfl
 ·rw[if_neg e,if_neg (fun h=>e h.symm),List.getD_eq_getElem?_getD]
theorem mB (F:List Int) (n i:Nat):(F.drop n).getD i 0=F.getD (n+i) 0:=by simp[List.getD_eq_getElem?_getD,List.getElem?_drop]
structure pX (s:cY) (l:List bu):Prop where
 len:l.length+2≤(cL s).length
 Q0:∀j,j<(cL s).length→2≤(cL s).getD j 0∧(cL s).getD j 0<34∧(cL s).getD j 0∉s.t++s.pg
 ne:∀i j,i<(cL s).length→j<(cL s).length→i≠j→(cL s).getD i 0≠(cL s).getD j 0
theorem vS {s:cY} {l:List bu} (hs:s.ok) (hl:l.length≤14):pX s l:=by
 refine⟨?_,fun j hj=>?_,fun i j hi hj fW=>K6 (vP _ _) hi hj fW⟩
 ·have:=sO (s.t++s.pg) 32;rw[List.length_append,hs.1,hs.2] at this;show l.length+2≤(cO (s.t++s.pg) 32).length;omega
 ·have hm:(cL s).getD j 0∈cO (s.t++s.pg) 32:=by
   rw[List.getD_eq_getElem?_getD,List.getElem?_eq_getElem hj];exact List.getElem_mem _
  obtain⟨h1,h2,h3⟩:=AN hm;exact⟨h1,by omega,h3⟩
theorem Gl (pg:List Int):∀x∈oH pg,x.w.length=8:=by
 intro x hx;simp only[oH,List.mem_cons,List.not_mem_nil,or_false] at hx;rcases hx with rfl|rfl<;>exact sK _ _ _
section
variable {d:al} {s:cY} {l:List bu}
theorem mC (h:Good d s) (hw:∀x∈l,x.w.length=8) {q:Nat} (hq:q≤2):(dW d s l q).ok:=vQ (vQ h.Cp hw _ (Nat.le_refl _)) (Gl _) q (by simpa[oH] using hq)
theorem uM (d:al) (s:cY) (l:List bu) (q:Nat) (a:Int):(dW d s l q).held a=d.held a:=by rw[dW,oJ,oJ]
theorem sR (h:Good d s) {q:Nat} {a:Int} (ha:0≤a∧a<34) (hn:∀j,j<l.length+q→(cL s).getD j 0≠a):(dW d s l q).waits a=[]:=by
 rw[dW,gS ha q (fun j hj=>by rw[mB];exact hn _ (by omega)),gS ha _ (fun j hj=>hn j (by omega)),iZ h.wait]
theorem pY (f:pX s l) {a:Int} (ha:a=0∨a=1∨a∈s.t∨a∈s.pg) {j:Nat} (hj:j<(cL s).length):(cL s).getD j 0≠a:=by
 obtain⟨h1,h2,h3⟩:=f.Q0 j hj;rintro rfl;rcases ha with h|h|h|h
 ·omega
 ·omega
 ·exact h3 (List.mem_append.2 (.inl h))
 ·exact h3 (List.mem_append.2 (.inr h))
theorem DT (h:Good d s) (f:pX s l) {i:Nat} (hi:i<l.length):(dW d s l 2).waits ((cL s).getD i 0)=[(l.getD i ⟨0,[]⟩).w]:=by
 have hr:=f.Q0 i (by have:=f.len;omega);have hlen:=f.len;rw[dW,gS ⟨by omega,hr.2.1⟩ 2 (fun j hj=>by rw[mB];exact f.ne _ _ (by omega) (by omega) (by omega)),ny ⟨by omega,hr.2.1⟩ rfl _ hi (fun j hj fW=>f.ne _ _ (by omega) (by omega) fW),iZ h.wait];rfl
theorem sS (h:Good d s) (f:pX s l) {i:Nat} (hi:i<2):(dW d s l 2).waits ((cL s).getD (l.length+i) 0)=[tw (cX s l).pg i]:=by
 have hlen:=f.len;have hr:=f.Q0 (l.length+i) (by omega);rw[dW,ny (i:=i) ⟨by omega,hr.2.1⟩ (mB _ _ _) 2 hi (fun j hj fW=>by rw[mB];exact f.ne _ _ (by omega) (by omega) (by omega)),gS ⟨by omega,hr.2.1⟩ _ (fun j hj=>f.ne _ _ (by omega) (by omega) (by omega)),iZ h.wait];rcases (show i=0∨i=1 by omega) with rfl|rfl<;>rfl
theorem lS (h:Good d s) (hw:∀x∈l,x.w.length=8) (f:pX s l) {a:Int} (ha:0≤a∧a<34) (hu:a=0∨a=1∨a∈s.t∨a∈s.pg):((dW d s l 2).settle fun _=>true).held a=d.held a:=by
 rw[ir (mC h hw (Nat.le_refl _)) _ ha (sR h ha (fun j hj=>pY f hu (by have:=f.len;omega))),uM]
theorem sT (h:Good d s) (hw:∀x∈l,x.w.length=8) {a:Int} (ha:0≤a∧a<34) {w:List Int} (hq:(dW d s l 2).waits a=[w]):((dW d s l 2).settle fun _=>true).held a=w:=by
 rw[AS (mC h hw (Nat.le_refl _)) _ (fun _=>rfl) ha,K5 ha,hq];rfl
theorem dX (d:al) (is:Nat→Bool):(d.settle is).wait=[]:=rfl
theorem x7 (h:Good d s) (hw:∀x∈l,x.w.length=8) (hl:l.length≤14) {j:Nat} (hj:j≤l.length+3) (is:Nat→Bool):Good ((ef d s l j).settle is) s∧∀p:Nat,p<14→bB ((ef d s l j).settle is) s p=bB d s p:=by
 have f:=vS (l:=l) h.Ia hl;have hlen:=f.len;by_cases h1:j≤l.length
 ·(have e:ef d s l j=lP d l (cL s) j:=by rw[ef,if_pos h1]);rw[e];have cU:=vQ (F:=cL s) h.Cp hw j h1;refine h.same (dZ cU _) (dX _ _) (fun a hu ha=>?_);rw[ir cU _ ha (by rw[gS ha j (fun i hi=>pY f hu (by omega)),iZ h.wait]),oJ]
 by_cases h2:j≤l.length+2
 ·(have e:ef d s l j=dW d s l (j-l.length):=by rw[ef,if_neg h1,if_pos h2]);rw[e];have cU:=mC h hw (q:=j-l.length) (by omega);refine h.same (dZ cU _) (dX _ _) (fun a hu ha=>?_);rw[ir cU _ ha (sR h ha (fun i hi=>pY f hu (by omega))),uM]
 ·(have e:ef d s l j=(dW d s l 2).settle fun _=>true:=by rw[ef,if_neg h1,if_neg h2,if_pos (by omega)]);rw[e];have cU:=dZ (mC h hw (Nat.le_refl 2)) (fun _=>true);refine h.same (dZ cU _) (dX _ _) (fun a hu ha=>?_);rw[ir cU _ ha (iZ (dX _ _) a),lS h hw f ha hu]
theorem sU {d:al} (hd:d.ok) (hw:d.wait=[]) {r:Int} (hr:0≤r∧r<34) {W:List Int} (hW:W.length=8) (is:Nat→Bool) {a:Int} (ha:0≤a∧a<34):((d.write r W).settle is).held a=if a=r∧is 0=true then W else d.held a:=by
 rw[lR (hd.write hW) is ha,sQ];(have:(d.write r W).wait=[(r.toNat,W)]:=by rw[kf hr];simp[hw]);rw[this];by_cases h0:is 0=true
 ·simp only[List.zipIdx_cons,List.zipIdx_nil,List.filter_cons,h0,if_true,List.filter_nil,List.map_cons,List.map_nil,al.last,List.foldl_cons,List.foldl_nil];by_cases e:a=r
  ·subst e;simp
  ·rw[if_neg (by omega),if_neg (fun h=>e h.1)]
 ·(have h0:is 0=false:=by simpa using h0);simp[al.last,h0]
theorem sV (h:Good d s) (f:pX s l):∀k,k≤l.length→∀p,p<14→(jj s.pg l (cL s) k).getD p 0=0∨(2≤(jj s.pg l (cL s) k).getD p 0∧(jj s.pg l (cL s) k).getD p 0<34)
 |0,_,p,hp=>h.U8 p hp
 |k+1,hk,p,hp=>by
  have hlen:=f.len;have ih:=sV h f k (by omega) p hp;have hr:=f.Q0 k (by omega);rw[jj,List.getD_eq_getElem?_getD,List.getElem?_set];split
  ·split
   ·right;exact⟨hr.1,hr.2.1⟩
   ·left;rfl
  ·rw[←List.getD_eq_getElem?_getD];exact ih
theorem sW (h:Good d s) (hw:∀x∈l,x.w.length=8) (hl:l.length≤14) (hn:∀x∈l,0≤x.n∧x.n<14) {d':al} (W9:d'.ok) (Iv:d'.wait=[])
 (hh:∀a:Int,0≤a∧a<34→d'.held a=if a=(s.gen+1)%2 then gu (s.gen+1) ((cX s l).t.getD 0 0) ((cX s l).t.getD 1 0) else ((dW d s l 2).settle fun _=>true).held a):
 Good d' (cX s l)∧∀p:Nat,p<14→bB d' (cX s l) p=jk (fun p=>bB d s p) l l.length p:=by
 have f:=vS (l:=l) h.Ia hl;have hlen:=f.len;have hg:=h.gen;have tR:(cX s l).pg.length=14:=lQ _ _ h.Ia.2 _;have q0:=f.Q0 l.length (by omega);have q1:=f.Q0 (l.length+1) (by omega)
 have hG:Good d' (cX s l):=by
  refine⟨W9,Iv,⟨rfl,tR⟩,by simp only[cX];omega,fun p hp=>sV h f l.length (Nat.le_refl _) p hp,.inr ⟨by simp only[cX];omega,_,_,rfl,?_,?_,⟨q0.1,q0.2.1,?_⟩,⟨q1.1,q1.2.1,?_⟩⟩⟩
  ·show d'.held ((s.gen+1)%2)=_;rw[hh _ ⟨by omega,by omega⟩,if_pos rfl];rfl
  ·show (d'.held ((s.gen+1+1)%2)).getD 0 0<s.gen+1;(have e:(s.gen+1+1)%2=s.gen%2:=by omega);rw[e,hh _ ⟨by omega,by omega⟩,if_neg (by omega)];rcases (show s.gen%2=0∨s.gen%2=1 by omega) with e2|e2
   ·rw[e2,lS h hw f ⟨by decide,by decide⟩ (.inl rfl)];rcases h.root with ⟨g0,-,-,h0,-⟩|⟨g0,t0,t1,-,hr,-⟩
    ·rw[h0,g0];decide
    ·rw[e2] at hr;rw[hr];simp only[gu,List.getD_cons_zero];omega
   ·rw[e2,lS h hw f ⟨by decide,by decide⟩ (.inr (.inl rfl))];rcases h.root with ⟨g0,-,-,-,h1⟩|⟨g0,t0,t1,-,hr,-⟩
    ·omega
    ·rw[e2] at hr;rw[hr];simp only[gu,List.getD_cons_zero];omega
  ·rw[hh _ ⟨by omega,q0.2.1⟩,if_neg (by omega)];exact sT h hw ⟨by omega,q0.2.1⟩ (sS h f (i:=0) (by decide))
  ·rw[hh _ ⟨by omega,q1.2.1⟩,if_neg (by omega)];exact sT h hw ⟨by omega,q1.2.1⟩ (sS h f (i:=1) (by decide))
 refine⟨hG,fun p hp=>?_⟩;obtain⟨H,hH⟩:∃H:Int→List Int,H=((dW d s l 2).settle fun _=>true).held:=⟨_,rfl⟩
 have key:∀k,k≤l.length→∀p,p<14→Cq H ((jj s.pg l (cL s) k).getD p 0)=jk (fun p=>bB d s p) l k p:=by
  intro k
  induction k with
  |zero=>
   intro _ p hp;show Cq H (s.pg.getD p 0)=bB d s p;rw[h.AU hp];rcases h.U8 p hp with h1|h1
   ·rw[Cr h1,if_pos h1]
   ·rw[vR (by omega),if_neg (by omega),hH];refine lS h hw f ⟨by omega,h1.2⟩ (.inr (.inr (.inr ?_)));have:=h.Ia.2;rw[List.getD_eq_getElem?_getD,List.getElem?_eq_getElem (by omega)];exact List.getElem_mem _
  |succ k ih=>
   intro hk p hp;(have hx:l[k]? =some (l.getD k ⟨0,[]⟩):=by rw[List.getD_eq_getElem?_getD,List.getElem?_eq_getElem (by omega)];rfl);have SB:=hn _ (List.mem_of_getElem? hx);have Cl:=lQ (pg:=s.pg) l (cL s) h.Ia.2 k;have hr:=f.Q0 k (by omega);(have e1:(jj s.pg l (cL s) (k+1)).getD p 0=if p=(l.getD k ⟨0,[]⟩).n.toNat then (cL s).getD k 0 else (jj s.pg l (cL s) k).getD p 0:=by rw[jj];exact x6 (by omega));(have e2:jk (fun p=>bB d s p) l (k+1) p=if p=(l.getD k ⟨0,[]⟩).n.toNat then (l.getD k ⟨0,[]⟩).w else jk (fun p=>bB d s p) l k p:=rfl);rw[e1,e2];by_cases e:p=(l.getD k ⟨0,[]⟩).n.toNat
   ·rw[if_pos e,if_pos e,vR (by omega),hH];exact sT h hw ⟨by omega,hr.2.1⟩ (DT h f (by omega))
   ·rw[if_neg e,if_neg e];exact ih (by omega) p hp
 rw[hG.AU hp,←key l.length (Nat.le_refl _) p hp];have WJ:(cX s l).pg=jj s.pg l (cL s) l.length:=rfl;rw[WJ];rcases sV h f l.length (Nat.le_refl _) p hp with h1|h1
 ·rw[Cr h1,if_pos h1]
 ·rw[vR (by omega),if_neg (by omega),hh _ ⟨by omega,h1.2⟩,if_neg (by omega),hH]
theorem jl (s:cY) (l:List bu):(gu (s.gen+1) ((cX s l).t.getD 0 0) ((cX s l).t.getD 1 0)).length=8:=rfl
theorem x8 (h:Good d s) (hw:∀x∈l,x.w.length=8) (hl:l.length≤14) (hn:∀x∈l,0≤x.n∧x.n<14) (is:Nat→Bool):
 if is 0=true then Good ((ef d s l (l.length+4)).settle is) (cX s l)∧∀p:Nat,p<14→bB ((ef d s l (l.length+4)).settle is) (cX s l) p=jk (fun p=>bB d s p) l l.length p
 else Good ((ef d s l (l.length+4)).settle is) s∧∀p:Nat,p<14→bB ((ef d s l (l.length+4)).settle is) s p=bB d s p:=by
 have f:=vS (l:=l) h.Ia hl;have hg:=h.gen
 have e:ef d s l (l.length+4)=((dW d s l 2).settle fun _=>true).write ((s.gen+1)%2) (gu (s.gen+1) ((cX s l).t.getD 0 0) ((cX s l).t.getD 1 0)):=by
  rw[ef,if_neg (by omega),if_neg (by omega),if_neg (by omega),if_pos rfl]
 rw[e];have cU:=dZ (mC h hw (Nat.le_refl 2)) (fun _=>true);(have gG:=fun a ha=>sU cU (dX _ _) (r:=(s.gen+1)%2) ⟨by omega,by omega⟩ (jl s l) is (a:=a) ha);split
 ·rename_i h0;refine sW h hw hl hn (dZ (cU.write (jl s l)) _) (dX _ _) (fun a ha=>?_);rw[gG a ha];simp only[h0,and_true]
 ·rename_i h0;refine h.same (dZ (cU.write (jl s l)) _) (dX _ _) (fun a hu ha=>?_);rw[gG a ha,if_neg (fun q=>h0 q.2),lS h hw f ha hu]
theorem x9 (h:Good d s) (hw:∀x∈l,x.w.length=8) (hl:l.length≤14) (hn:∀x∈l,0≤x.n∧x.n<14):
 Good (ef d s l (l.length+5)) (cX s l)∧∀p:Nat,p<14→bB (ef d s l (l.length+5)) (cX s l) p=jk (fun p=>bB d s p) l l.length p:=by
 have hg:=h.gen
 have e:ef d s l (l.length+5)=(((dW d s l 2).settle fun _=>true).write ((s.gen+1)%2) (gu (s.gen+1) ((cX s l).t.getD 0 0) ((cX s l).t.getD 1 0))).settle fun _=>true:=by
  rw[ef,if_neg (by omega),if_neg (by omega),if_neg (by omega),if_neg (by omega)]
 rw[e];have cU:=dZ (mC h hw (Nat.le_refl 2)) (fun _=>true);refine sW h hw hl hn (dZ (cU.write (jl s l)) _) (dX _ _) (fun a ha=>?_);rw[sU cU (dX _ _) ⟨by omega,by omega⟩ (jl s l) _ ha];simp
theorem Good.settle (h:Good d s) (is:Nat→Bool):Good (d.settle is) s∧∀p:Nat,p<14→bB (d.settle is) s p=bB d s p:=
 h.same (dZ h.Cp _) rfl (fun a _ ha=>ir h.Cp _ ha (iZ h.wait a))
end
theorem Good.Yw {d:al} {s:cY} (h:Good d s):d.wait.length<900:=by rw[h.wait];decide
theorem Good.Cs {d:al} {s:cY} (h:Good d s):d.wait.length<1000000:=by rw[h.wait];decide
theorem DU {d:al} {s:cY} {l:List bu} (h:Good d s) (hl:l.length≤14) (j:Nat):(ef d s l j).wait.length<1000000:=by
 have h0:d.wait.length=0:=by rw[h.wait];rfl
 have hT:∀q,q≤2→(dW d s l q).wait.length<100:=fun q hq=>by
  have h1:=iq d l (cL s) l.length;have h2:=iq (lP d l (cL s) l.length) (oH (cX s l).pg) ((cL s).drop l.length) q;unfold dW;omega
 unfold ef;split
 ·have:=iq d l (cL s) j;omega
 ·split
  ·have:=hT (j-l.length) (by omega);omega
  ·split
   ·simp[al.settle]
   ·split
    ·have:=nw ((dW d s l 2).settle fun _=>true) ((s.gen+1)%2) (gu (s.gen+1) ((cX s l).t.getD 0 0) ((cX s l).t.getD 1 0));(have h3:((dW d s l 2).settle fun _=>true).wait.length=0:=by simp[al.settle]);omega
    ·simp[al.settle]
def s0:cY:=⟨0,[0,0],dA⟩
structure VS where
 gen:Int
 ya:List (List Int)
 waits:Bool
 next:List (List Int)
def dC (P:List (List Int)):Prop:=P.length=14∧∀w∈P,w.length=8
namespace VS
def ok (v:VS):Prop:=dC v.ya∧dC v.next
def cells (v:VS):List Value:=i64 v.gen::(ints v.ya.flatten++(.bool v.waits::ints v.next.flatten))
end VS
theorem oL {P:List (List Int)} (h:dC P):(ints P.flatten).length=112:=by
 rw[aj,jC h.2,h.1]
theorem Kr {g bw:Value} {A B:List Value} (h:A.length=112) (h':B.length=112):(g::(A++bw::B)).length=226:=by simp only[List.length_cons,List.length_append,h,h']
theorem yb {α:Type} {s:Nat}:∀(rows:List (List α)),(∀r∈rows,r.length=s)→∀(n:Nat),n<rows.length→∀(r:List α),r.length=s→rows.flatten.take (n*s)++(r++rows.flatten.drop (n*s+s))=(rows.set n r).flatten
 |[],_,n,hn,_,_=>by simp at hn
 |x::rows,h,0,_,r,hr=>by
  have hx:=h x (by simp);simp only[Nat.zero_mul,List.take_zero,List.nil_append,Nat.zero_add,List.flatten_cons,List.set_cons_zero];rw[List.drop_left' hx]
 |x::rows,h,n+1,hn,r,hr=>by
  have hx:=h x (by simp);have ih:=yb rows (fun r' h'=>h r' (List.mem_cons_of_mem _ h')) n (by simpa using hn) r hr;simp only[List.flatten_cons,List.set_cons_succ];rw[←ih,show (n+1)*s=x.length+n*s by rw[Nat.succ_mul,hx];omega,List.take_length_add_append,show x.length+n*s+s=x.length+(n*s+s) by omega,List.drop_length_add_append];simp
theorem yc (X w:List Int) (o:Nat):aJ (ints X) o (ints w)=ints (X.take o++(w++X.drop (o+w.length))):=by simp[aJ,List.map_take,List.map_drop]
theorem K7 {P:List (List Int)} (h:dC P) {n:Nat} (hn:n<14) {w:List Int} (hw:w.length=8):aJ (ints P.flatten) (n*8) (ints w)=ints (P.set n w).flatten:=by
 rw[yc,hw,yb P h.2 n (by rw[h.1];exact hn) w hw]
theorem oM {P:List (List Int)} (h:dC P) (n:Nat) {w:List Int} (hw:w.length=8):dC (P.set n w):=by
 refine⟨by rw[List.length_set,h.1],fun x hx=>?_⟩;rcases List.mem_or_eq_of_mem_set hx with h1|h1
 ·exact h.2 x h1
 ·rw[h1];exact hw
def uN (P:List (List Int)) (l:List bu):Nat→List (List Int)
 |0=>P
 |k+1=>(uN P l k).set (l.getD k ⟨0,[]⟩).n.toNat (l.getD k ⟨0,[]⟩).w
theorem yd {P:List (List Int)} {l:List bu} (h:dC P) (hw:∀x∈l,x.w.length=8):∀k,k≤l.length→dC (uN P l k)
 |0,_=>h
 |k+1,hk=>by
  rw[uN];refine oM (yd h hw k (by omega)) _ ?_;rw[List.getD_eq_getElem?_getD,List.getElem?_eq_getElem (by omega)];exact hw _ (List.getElem_mem _)
structure Rel (d:al) (s:cY) (v:VS):Prop where
 adp:Good d s
 ok:v.ok
 gen:v.gen=s.gen
 waits:v.waits=false
 AU:∀p:Nat,p<14→v.ya.getD p al.aZ=bB d s p
theorem K8 {P:List (List Int)} (h:dC P) {n:Nat} (hn:n<14) (g:Value) (r:List Value):((g::(ints P.flatten++r)).drop (1+n*8)).take 8=ints (P.getD n al.aZ):=by
 rw[Nat.add_comm,List.drop_succ_cons];(have hx:P[n]? =some (P.getD n al.aZ):=by rw[List.getD_eq_getElem?_getD,List.getElem?_eq_getElem (by rw[h.1];exact hn)];rfl);have h8:=h.2 _ (List.mem_of_getElem? hx);have tR:=oL h;have h1:=lD (fun w=>ints w) 8 P (fun x hx=>by simp[h.2 x hx]) n _ hx;rw[show (ints (P.getD n al.aZ)).length=8 by rw[aj,h8]] at h1;(have h2:ints P.flatten=P.flatMap (fun w=>ints w):=by simp[ints,List.flatMap,List.map_flatten]);rw[List.drop_append_of_le_length (by omega),List.take_append_of_le_length (by simp only[List.length_drop,tR];omega),h2];exact h1
theorem X.ae.qM {P:Program} {f:FuncId} {vs:Array Value} {σ:PH} {Γ ah:List HP} {R:HP} {α:Sort _} {φ:α→PH→Prop} {RR:Ending→PH→List HP→Prop} (he:Enters P f) (s:b6 Γ R ah) (ho:∀m,R m→∃x,φ x m) (mono:∀x m m',φ x m→m.sub m'→φ x m') (k:∀ag x,φ x ag→σ.sub ag→ae P f vs ag ah RR):ae P f vs σ Γ RR:=
 ⟨he,fun fr h hh=>by obtain⟨ag,x,a,b,c⟩:=eN hh s ho mono;exact(k ag x a b).2 fr h c⟩
theorem qV {f g:Nat→List Int} (h:∀p,p<14→f p=g p) (l:List bu):∀k p,p<14→jk f l k p=jk g l k p
 |0,p,hp=>h p hp
 |k+1,p,hp=>by
  have ih:=qV h l k p hp;show (if _ then _ else _)=(if _ then _ else _);rw[ih]
theorem uO {P:List (List Int)} {l:List bu} (h:dC P) (hw:∀x∈l,x.w.length=8):∀k,k≤l.length→∀p,p<14→(uN P l k).getD p al.aZ=jk (fun p=>P.getD p al.aZ) l k p
 |0,_,p,_=>rfl
 |k+1,hk,p,hp=>by
  have ih:=uO h hw k (by omega) p hp;have hl:=(yd h hw k (by omega)).1;(have e:jk (fun p=>P.getD p al.aZ) l (k+1) p=if p=(l.getD k ⟨0,[]⟩).n.toNat then (l.getD k ⟨0,[]⟩).w else jk (fun p=>P.getD p al.aZ) l k p:=rfl);rw[e,uN,List.getD_eq_getElem?_getD,List.getElem?_set];by_cases q:(l.getD k ⟨0,[]⟩).n.toNat=p
  ·rw[if_pos q,if_pos (by omega),if_pos q.symm];rfl
  ·rw[if_neg q,if_neg (fun z=>q z.symm),←ih,List.getD_eq_getElem?_getD]
section
variable {d:al} {s:cY} {v:VS} {l:List bu}
theorem Rel.ya (h:Rel d s v) (hw:∀x∈l,x.w.length=8) {p:Nat} (hp:p<14):(uN v.ya l l.length).getD p al.aZ=jk (fun p=>bB d s p) l l.length p:=by
 rw[uO h.ok.1 hw l.length (Nat.le_refl _) p hp,qV h.AU l l.length p hp]
end
def AV (W:List Int) (l:List bu):Nat→Int→List Int
 |0,_=>W
 |k+1,p=>if (l.getD k ⟨0,[]⟩).n=p then (l.getD k ⟨0,[]⟩).w else AV W l k p
theorem oN {W:List Int} {l:List bu} {k:Nat} {x:bu} (h:l[k]? =some x) (p:Int):AV W l (k+1) p=if x.n=p then x.w else AV W l k p:=by
 (have e:l.getD k ⟨0,[]⟩=x:=by rw[List.getD_eq_getElem?_getD,h];rfl);rw[AV,e]
theorem K9 {W:List Int} {l:List bu} (hW:W.length=8) (hw:∀x∈l,x.w.length=8) (p:Int):∀k,k≤l.length→(AV W l k p).length=8
 |0,_=>hW
 |k+1,h=>by
  rw[oN (List.getElem?_eq_getElem (by omega:k<l.length)) p];split
  ·exact hw _ (List.getElem_mem _)
  ·exact K9 hW hw p k (by omega)
theorem Ct {f:Nat→List Int} {l:List bu} (hn:∀x∈l,0≤x.n∧x.n<14) (p:Nat):∀k,k≤l.length→AV (f p) l k p=jk f l k p
 |0,_=>rfl
 |k+1,h=>by
  have ih:=Ct (f:=f) hn p k (by omega);have hx:=hn (l.getD k ⟨0,[]⟩) (by rw[List.getD_eq_getElem?_getD,List.getElem?_eq_getElem (by omega:k<l.length)];exact List.getElem_mem _);show (if _ then _ else _)=(if _ then _ else _);rw[ih];by_cases q:(l.getD k ⟨0,[]⟩).n=p
  ·rw[if_pos q,if_pos (by omega)]
  ·rw[if_neg q,if_neg (by omega)]
theorem Cu {W:List Int} {l:List bu} (hn:∀x∈l,0≤x.n∧x.n<14) {p:Int} (hp:¬(0≤p∧p<14)):∀k,k≤l.length→AV W l k p=W
 |0,_=>rfl
 |k+1,h=>by
  have hx:=hn (l.getD k ⟨0,[]⟩) (by rw[List.getD_eq_getElem?_getD,List.getElem?_eq_getElem (by omega:k<l.length)];exact List.getElem_mem _);rw[AV,if_neg (by rintro rfl;exact hp hx),Cu hn hp k (by omega)]
theorem ki {d:al} {s:cY} {p:Int} (hp:¬(0≤p∧p<14)):bB d s p=al.aZ:=by rw[bB,if_neg (fun q=>hp ⟨q.1,q.2.1⟩)]
theorem pZ {d:al} (hd:d.ok) (s:cY) (p:Int):(bB d s p).length=8:=by
 unfold bB;split
 ·exact len8 hd _
 ·rfl
theorem U9 {d d':al} {s s':cY} (h:∀p:Nat,p<14→bB d' s' p=bB d s p) (p:Int):bB d' s' p=bB d s p:=by
 by_cases hp:0≤p∧p<14
 ·obtain⟨n,rfl⟩:=Int.eq_ofNat_of_zero_le hp.1;exact h n (by omega)
 ·rw[ki hp,ki hp]
theorem ye {d d':al} {s s':cY} {l:List bu} (hn:∀x∈l,0≤x.n∧x.n<14) (h:∀p:Nat,p<14→bB d' s' p=jk (fun p=>bB d s p) l l.length p) (p:Int):bB d' s' p=AV (bB d s p) l l.length p:=by
 by_cases hp:0≤p∧p<14
 ·obtain⟨n,rfl⟩:=Int.eq_ofNat_of_zero_le hp.1;rw[h n (by omega)];exact(Ct (f:=fun p=>bB d s p) hn n l.length (Nat.le_refl _)).symm
 ·rw[ki hp,ki hp,Cu hn hp _ (Nat.le_refl _)]
theorem Vb (p:Int):bB al.new s0 p=al.aZ:=by
 by_cases hp:0≤p∧p<14
 ·obtain⟨n,rfl⟩:=Int.eq_ofNat_of_zero_le hp.1;rw[(show Good al.new s0 from Good.new).AU (by omega),if_pos];simp only[s0,dA,List.getD_eq_getElem?_getD,List.getElem?_replicate];split<;>rfl
 ·exact ki hp
theorem Q5 {P:List (List Int)} (h:dC P) {n:Nat} (hn:n<14):((ints P.flatten).drop (n*8)).take 8=ints (P.getD n al.aZ):=by
 have:=K8 h hn (.int .i64 0) [];rw[Nat.add_comm 1,List.drop_succ_cons,List.append_nil] at this;exact this
theorem iw {P:List (List Int)} (h:dC P) {n:Nat} (hn:n<14):(P.getD n al.aZ).length=8:=by
 rw[List.getD_eq_getElem?_getD,List.getElem?_eq_getElem (by rw[h.1];exact hn)];exact h.2 _ (List.getElem_mem _)
def dH (l:List Bool):List Value:=l.map Value.bool
def aS (sb:Nat) (inn dt:List Bool) (pg:List (List Int)):List Value:=ptr sb::(dH inn++(dH dt++ints pg.flatten))
theorem dw (l:List Bool):(dH l).length=l.length:=List.length_map _
theorem sX:∀l:List Bool,dn (dH l)
 |[]=>jc rfl
 |_::l=>dO rfl (sX l)
theorem kT {A X R v:List Value} {o j:Nat} (hA:A.length=o) (h:j+v.length≤X.length):aJ (A++(X++R)) (o+j) v=A++(aJ X j v++R):=by
 subst hA;unfold aJ;rw[List.take_length_add_append,Nat.add_assoc,List.drop_length_add_append,List.take_append_of_le_length (by omega),List.drop_append_of_le_length (by omega)];simp
theorem Cv {A X R:List Value} {o j:Nat} (hA:A.length=o) (h:j<X.length):(A++(X++R))[o+j]? =X[j]? :=by
 subst hA;rw[List.getElem?_append_right (by omega),List.getElem?_append_left (by omega)];congr 1;omega
theorem yf {A X R:List Value} {o j n:Nat} (hA:A.length=o) (h:j+n≤X.length):((A++(X++R)).drop (o+j)).take n=(X.drop j).take n:=by
 subst hA;rw[List.drop_length_add_append,List.drop_append_of_le_length (by omega),List.take_append_of_le_length (by simp;omega)]
section
variable {sb:Nat} {inn dt:List Bool} {pg:List (List Int)}
theorem mc1:aS sb inn dt pg=[ptr sb]++(dH inn++(dH dt++ints pg.flatten)):=rfl
theorem WK:aS sb inn dt pg=(ptr sb::dH inn)++(dH dt++ints pg.flatten):=rfl
theorem Yx:aS sb inn dt pg=(ptr sb::(dH inn++dH dt))++(ints pg.flatten++[]):=by simp[aS]
theorem rR (h:inn.length=14):(ptr sb::dH inn).length=15:=by simp[dH,h]
theorem Cw (h:inn.length=14) (h':dt.length=14):(ptr sb::(dH inn++dH dt)).length=29:=by simp[dH,h,h']
theorem p9 (h:inn.length=14) (h':dt.length=14) (hp:dC pg):(aS sb inn dt pg).length=141:=by
 have:=oL hp;simp only[aS,List.length_cons,List.length_append,dw,h,h',this]
theorem qc {l:List Bool} {k:Nat} (h:k<l.length):(dH l)[k]? =some (.bool (l.getD k false)):=by
 simp[dH,List.getD_eq_getElem?_getD,List.getElem?_eq_getElem h]
theorem uP {l:List Bool} {k:Nat} (h:k<l.length) (x:Bool):aJ (dH l) k [.bool x]=dH (l.set k x):=by
 rw[ji _ _ _ (by rw[dw];exact h)];simp[dH,List.map_set]
theorem Vc (h:inn.length=14) {p:Nat} (hp:p<14):(aS sb inn dt pg)[1+p]? =some (.bool (inn.getD p false)):=by
 rw[mc1,Cv (o:=1) rfl (by rw[dw];omega),qc (by omega)]
theorem aa0 (h:inn.length=14) (h':dt.length=14) {p:Nat} (hp:p<14):(aS sb inn dt pg)[15+p]? =some (.bool (dt.getD p false)):=by
 rw[WK,Cv (rR h) (by rw[dw];omega),qc (by omega)]
theorem Q6 (h:inn.length=14) (h':dt.length=14):((aS sb inn dt pg).drop 15).take 14=dH dt:=by
 have:=yf (A:=ptr sb::dH inn) (X:=dH dt) (R:=ints pg.flatten) (o:=15) (j:=0) (n:=14) (rR h) (by rw[dw];omega);rw[WK];refine this.trans ?_;rw[List.drop_zero,List.take_of_length_le (by rw[dw];omega)]
theorem AW (h:inn.length=14) (h':dt.length=14) (hg:dC pg) {p:Nat} (hp:p<14):((aS sb inn dt pg).drop (29+p*8)).take 8=ints (pg.getD p al.aZ):=by
 rw[Yx,yf (Cw h h') (by rw[oL hg];omega),Q5 hg hp]
theorem Cx (h:inn.length=14) (h':dt.length=14) (hg:dC pg) {p k:Nat} (hp:p<14) (hk:k<8):(aS sb inn dt pg)[29+p*8+k]? =some (i64 ((pg.getD p al.aZ).getD k 0)):=by
 have h1:=AW (sb:=sb) h h' hg hp
 have h2:(((aS sb inn dt pg).drop (29+p*8)).take 8)[k]? =some (i64 ((pg.getD p al.aZ).getD k 0)):=by
  rw[h1,oF (by rw[iw hg hp];exact hk)]
 rw[List.getElem?_take,if_pos hk,List.getElem?_drop] at h2;exact h2
theorem Q7 (h:inn.length=14) {p:Nat} (hp:p<14) (x:Bool):aJ (aS sb inn dt pg) (1+p) [.bool x]=aS sb (inn.set p x) dt pg:=by
 rw[mc1,kT (o:=1) rfl (by rw[dw,List.length_singleton];omega),uP (by omega)];rfl
theorem Q8 (h:inn.length=14) (h':dt.length=14) {p:Nat} (hp:p<14) (x:Bool):aJ (aS sb inn dt pg) (15+p) [.bool x]=aS sb inn (dt.set p x) pg:=by
 rw[WK,kT (rR h) (by rw[dw,List.length_singleton];omega),uP (by omega)];rfl
theorem La {Vd:List Bool} (h:inn.length=14) (h':dt.length=14) (SX:Vd.length=14):aJ (aS sb inn dt pg) 15 (dH Vd)=aS sb inn Vd pg:=by
 have:=kT (A:=ptr sb::dH inn) (X:=dH dt) (R:=ints pg.flatten) (o:=15) (j:=0) (v:=dH Vd) (rR h) (by rw[dw,dw];omega);rw[WK];refine this.trans ?_;rw[eZ (by rw[dw,dw];omega)];rfl
theorem Cy (h:inn.length=14) (h':dt.length=14) (hg:dC pg) {p:Nat} (hp:p<14) {w:List Int} (hw:w.length=8):aJ (aS sb inn dt pg) (29+p*8) (ints w)=aS sb inn dt (pg.set p w):=by
 rw[Yx,kT (Cw h h') (by rw[oL hg,aj,hw];omega),K7 hg hp hw,←Yx]
theorem Lb {w:List Int} {k:Nat} (hk:k<w.length) (x:Int):aJ (ints w) k [i64 x]=ints (w.set k x):=x5 hk x
theorem Gm (h:inn.length=14) (h':dt.length=14) (hg:dC pg) {p k:Nat} (hp:p<14) (hk:k<8) (x:Int):aJ (aS sb inn dt pg) (29+p*8+k) [i64 x]=aS sb inn dt (pg.set p ((pg.getD p al.aZ).set k x)):=by
 have hr:=AW (sb:=sb) h h' hg hp;have hl:=p9 (sb:=sb) h h' hg;have h8:=iw hg hp;rw[←Cy h h' hg hp (w:=(pg.getD p al.aZ).set k x) (by rw[List.length_set,h8]),←Lb (by omega),←hr];generalize aS sb inn dt pg=L at hl;unfold aJ;(have e8:((L.drop (29+p*8)).take 8).length=8:=by simp[hl];omega);(have l1:(((L.drop (29+p*8)).take 8).take k++[i64 x]++((L.drop (29+p*8)).take 8).drop (k+[i64 x].length)).length=8:=by simp[hl];omega);rw[l1,List.length_singleton,List.take_take,Nat.min_eq_left (by omega),List.drop_take,List.drop_drop];rw[show L.take (29+p*8+k)=L.take (29+p*8)++(L.drop (29+p*8)).take k from List.take_add]
 rw[show L.drop (29+p*8+k+1)=(L.drop (29+p*8+(k+1))).take (8-(k+1))++L.drop (29+p*8+8) from by
  have:=List.take_append_drop (8-(k+1)) (L.drop (29+p*8+(k+1)));rw[List.drop_drop,show 29+p*8+(k+1)+(8-(k+1))=29+p*8+8 by omega] at this
  exact this.symm]
 simp
end
structure nA (d:al) (s:cY) (inn dt:List Bool) (pg C:List (List Int)):Prop where
 li:inn.length=14
 ld:dt.length=14
 pp:dC pg
 cc:dC C
 val:∀p,p<14→C.getD p al.aZ=if inn.getD p false=true then pg.getD p al.aZ else bB d s p
 dir:∀p,p<14→dt.getD p false=true→inn.getD p false=true
 r7:∀p,p<14→dt.getD p false=false→C.getD p al.aZ=bB d s p
theorem Yy {n:Nat} (h:n<112):IntKind.i64.wrap ((n:Int).tdiv 8)=((n/8:Nat):Int):=by
 rw[Int.tdiv_eq_ediv_of_nonneg (by omega),X.wrap64_in (by omega) (by omega)];omega
theorem Q9 (n:Nat):(n:Int).tmod 8=((n%8:Nat):Int):=by
 rw[Int.tmod_eq_emod_of_nonneg (by omega)];omega
theorem Rd.Yz {P:Program} {ρ:Env} {S:Heap→Prop} {x y:Operand} {T T' ty:TypeId} {kk:IntKind} {a b c:Int} (hx:ev ρ x=.int kk a) (hy:ev ρ y=.int kk b) (hb:b≠0) (hc:kk.wrap (a.tdiv b)=c):Rd P ρ S (.binOp .quo T x y T') ty (.int kk c):=hc▸Rd.quo hx hy hb
theorem Cz (σ:PH) (b:Nat) (at_:Int) (h:¬(0≤at_∧at_<112)):ae Tryz.prog 161 #[ptr b,i64 at_] σ [] (aE fun v ag ah=>v=.tuple #[i64 0,.bool false]∧σ=ag∧ah=[]):=by
 by_cases h0:at_<0
 ·refine bS Tryz.func161 ?_;refine dE ?_;refine XA.bG rfl zY ?_;refine bC ?_;exact ao.ret (aG.two rfl rfl rfl) (aw.nil _) ⟨rfl,rfl,rfl⟩
 ·refine bS Tryz.func161 ?_;refine dE ?_;refine XA.bG rfl zY ?_;refine bC ?_;exact ao.ret (aG.two rfl rfl rfl) (aw.nil _) ⟨rfl,rfl,rfl⟩
theorem jm {l:List Bool} {n p:Nat} {a:Bool} (hp:p<l.length):(l.set n a).getD p false=if p=n then a else l.getD p false:=by
 rw[List.getD_eq_getElem?_getD,List.getElem?_set];by_cases h:n=p
 ·subst h;rw[if_pos rfl,if_pos hp,if_pos rfl];rfl
 ·rw[if_neg h,if_neg (Ne.symm h),List.getD_eq_getElem?_getD]
theorem jn {l:List (List Int)} {n p:Nat} {a:List Int} (hp:p<l.length):(l.set n a).getD p al.aZ=if p=n then a else l.getD p al.aZ:=by
 rw[List.getD_eq_getElem?_getD,List.getElem?_set];by_cases h:n=p
 ·subst h;rw[if_pos rfl,if_pos hp,if_pos rfl];rfl
 ·rw[if_neg h,if_neg (Ne.symm h),List.getD_eq_getElem?_getD]
theorem nA.read {d:al} {s:cY} {inn dt:List Bool} {pg C:List (List Int)} (h:nA d s inn dt pg C) (hd:d.ok) {p:Nat} (hp:p<14) (hi:inn.getD p false=false):nA d s (inn.set p true) dt (pg.set p (bB d s p)) C:=by
 refine⟨by rw[List.length_set];exact h.li,h.ld,oM h.pp p (pZ hd s p),h.cc,fun q hq=>?_,fun q hq Gn=>?_,h.r7⟩
 ·rw[jm (by rw[h.li];exact hq),jn (by rw[h.pp.1];exact hq),h.val q hq];by_cases e:q=p
  ·subst e;rw[if_pos rfl,if_pos rfl,if_pos rfl,hi];rfl
  ·rw[if_neg e,if_neg e]
 ·rw[jm (by rw[h.li];exact hq)];split
  ·rfl
  ·exact h.dir q hq Gn
theorem Gp (σ:PH) (b sb db:Nat) (d:al) (s:cY) (inn dt:List Bool) (pg C:List (List Int)) (n:Nat) (hn:n<112) (hd:d.ok) (hlen:d.wait.length<1000000) (h:nA d s inn dt pg C):
 ae Tryz.prog 161 #[ptr b,i64 n] σ [au b (aS sb inn dt pg) 242,br sb db s,a7 db d] (aE fun v ag ah=>v=.tuple #[i64 ((n/8:Nat):Int),.bool true]∧σ=ag∧∃nB yg,nA d s nB dt yg C∧nB.getD (n/8) false=true∧ah=[au b (aS sb nB dt yg) 242,br sb db s,a7 db d]):=by
 obtain⟨p,hp⟩:∃p,p=n/8:=⟨_,rfl⟩;(have qd:p<14:=by omega);have hq:=Yy hn;rw[←hp] at hq⊢;have kI:=Vc (sb:=sb) (dt:=dt) (pg:=pg) h.li qd;have gG:dn (ints (bB d s p)):=dP _;have Wl:=p9 (sb:=sb) h.li h.ld h.pp;refine bS Tryz.func161 ?_;refine dE ?_;refine XA.aR rfl zY ?_;refine b9 ?_;refine zO rfl (Rd.Yz (c:=(p:Int)) rfl rfl (by decide) hq) ?_;refine cr ?_
 cases hi:inn.getD p false with
 |true=>
  rw[hi] at kI;refine cg ?_;exact ao.ret (aG.two rfl rfl rfl) zE ⟨rfl,rfl,inn,pg,h,hi,rfl⟩
 |false=>
  rw[hi] at kI;have fR:=Q7 (sb:=sb) (dt:=dt) (pg:=pg) h.li qd true;have hR:=h.read hd qd hi;have SM:=pZ hd s p;obtain⟨W,hW⟩:∃W,W=bB d s p:=⟨_,rfl⟩;have n6:=Cy (sb:=sb) (inn:=inn.set p true) (dt:=dt) (pg:=pg) (by rw[List.length_set];exact h.li) h.ld h.pp qd SM;(have ey:1+p+1≤(aS sb inn dt pg).length:=by omega);have Ra:=p9 (sb:=sb) hR.li h.ld h.pp;(have lH:∀_:Unit,29+p*8+BI.size≤(aS sb (inn.set p true) dt pg).length:=fun _=>by rw[Ra];show 29+p*8+8≤141;omega);rw[←hW] at hR SM n6;refine cg ?_;refine XA.draw (by kernel_rfl) _ _ [7,11] [(0,.pu),(1,.pu),(2,.pu),(3,.pu),(4,.pu),(5,.rd),(6,.pu),(8,.pu),(9,.pu),(7,.wr),(10,.pu),(11,.wr)] (by kernel_rfl) (PH.sub.refl _) (aw.bP (R:=au b _ _) zL (aw.nil _)) ?_;refine a8 ?_;refine aK.bj rfl rfl Gd.free (by kernel_rfl) (aC.cE (KV σ sb db s d p hd hlen) rfl) ?_;rintro _ _ _ ⟨_,⟨rfl,rfl,rfl⟩,rfl⟩;refine aK.cl ?_;rw[←hW];refine b3 ?_;refine aK.bj rfl rfl Gd.free (by kernel_rfl) (aC.st (ad rfl) rfl) ?_;rintro _ _ _ ⟨rfl,rfl,rfl⟩;refine aW ?_;exact ao.ret (aG.two rfl rfl rfl) zE ⟨rfl,rfl,_,_,hR,by rw[jm (by rw[h.li];exact qd),if_pos rfl],rfl⟩
def eL (C:List (List Int)) (a:Int):Int:=if 0≤a∧a<112 then (C.getD (a.toNat/8) al.aZ).getD (a.toNat%8) 0 else 0
def iD (C:List (List Int)) (a w:Int):List (List Int):=if (0≤a∧a<112)∧eL C a≠w then C.set (a.toNat/8) ((C.getD (a.toNat/8) al.aZ).set (a.toNat%8) w) else C
def vT (C:List (List Int)) (dt:List Bool) (a w:Int):List Bool:=if (0≤a∧a<112)∧eL C a≠w then dt.set (a.toNat/8) true else dt
theorem qe (C:List (List Int)) {n:Nat} (h:n<112):eL C n=(C.getD (n/8) al.aZ).getD (n%8) 0:=by
 rw[eL,if_pos (by omega)];rfl
theorem nA.word {d:al} {s:cY} {inn dt:List Bool} {pg C:List (List Int)} (h:nA d s inn dt pg C) {n:Nat} (hn:n<112) (hi:inn.getD (n/8) false=true):eL C n=(pg.getD (n/8) al.aZ).getD (n%8) 0:=by
 rw[qe C hn,h.val _ (by omega),if_pos hi]
theorem nA.put {d:al} {s:cY} {inn dt:List Bool} {pg C:List (List Int)} (h:nA d s inn dt pg C) {p k:Nat} (hp:p<14) (hi:inn.getD p false=true) (w:Int):
 nA d s inn (dt.set p true) (pg.set p ((pg.getD p al.aZ).set k w)) (C.set p ((C.getD p al.aZ).set k w)):=by
 (have e:C.getD p al.aZ=pg.getD p al.aZ:=by rw[h.val p hp,if_pos hi]);refine⟨h.li,by rw[List.length_set];exact h.ld,oM h.pp p (by rw[List.length_set];exact iw h.pp hp),oM h.cc p (by rw[List.length_set];exact iw h.cc hp),fun q hq=>?_,fun q hq Gn=>?_,fun q hq Gn=>?_⟩
 ·rw[jn (by rw[h.cc.1];exact hq),jn (by rw[h.pp.1];exact hq),h.val q hq];by_cases eq:q=p
  ·subst eq;rw[if_pos rfl,if_pos rfl,if_pos hi,e]
  ·rw[if_neg eq,if_neg eq]
 ·rw[jm (by rw[h.ld];exact hq)] at Gn;by_cases eq:q=p
  ·subst eq;exact hi
  ·rw[if_neg eq] at Gn;exact h.dir q hq Gn
 ·rw[jm (by rw[h.ld];exact hq)] at Gn;by_cases eq:q=p
  ·rw[if_pos eq] at Gn;cases Gn
  ·rw[if_neg eq] at Gn;rw[jn (by rw[h.cc.1];exact hq),if_neg eq];exact h.r7 q hq Gn
theorem Rb (σ:PH) (b sb db:Nat) (d:al) (s:cY) (inn dt:List Bool) (pg C:List (List Int)) (a:Int) (hd:d.ok) (hlen:d.wait.length<1000000) (h:nA d s inn dt pg C):
 ae Tryz.prog 117 #[ptr b,i64 a] σ [au b (aS sb inn dt pg) 242,br sb db s,a7 db d] (aE fun v ag ah=>v=i64 (eL C a)∧σ=ag∧∃nB yg,nA d s nB dt yg C∧ah=[au b (aS sb nB dt yg) 242,br sb db s,a7 db d]):=by
 by_cases ha:0≤a∧a<112
 ·obtain⟨n,rfl⟩:=Int.eq_ofNat_of_zero_le ha.1;(have hn:n<112:=by omega);refine bS Tryz.func117 ?_;refine a8 ?_;refine zw rfl (aC.cE (Gp σ b sb db d s inn dt pg C n hn hd hlen h) rfl) ?_;rintro _ _ _ ⟨_,⟨rfl,rfl,nB,yg,h',hi,rfl⟩,rfl⟩;refine az.cl ?_;refine dJ ?_;have hw:=Cx (sb:=sb) h'.li h'.ld h'.pp (p:=n/8) (k:=n%8) (by omega) (by omega);refine bC ?_;refine zO rfl (Rd.Df (c:=((n%8:Nat):Int)) rfl rfl (by decide) (Q9 n)) ?_;refine a8 ?_;exact b8 rfl rfl ⟨congrArg i64 (h'.word hn hi).symm,rfl,_,_,h',rfl⟩
 ·refine bS Tryz.func117 ?_;refine a8 ?_;refine yC (Cz σ b a ha) ?_;refine dJ ?_;refine bC ?_;exact b8 rfl rfl ⟨by rw[eL,if_neg ha],rfl,_,_,h,rfl⟩
theorem Ve (σ:PH) (b sb db:Nat) (d:al) (s:cY) (inn dt:List Bool) (pg C:List (List Int)) (a w:Int) (hd:d.ok) (hlen:d.wait.length<1000000) (h:nA d s inn dt pg C):
 ae Tryz.prog 196 #[ptr b,i64 a,i64 w] σ [au b (aS sb inn dt pg) 242,br sb db s,a7 db d] (aE fun v ag ah=>v=.bool (decide (0≤a∧a<112))∧σ=ag∧∃nB yg,nA d s nB (vT C dt a w) yg (iD C a w)∧ah=[au b (aS sb nB (vT C dt a w) yg) 242,br sb db s,a7 db d]):=by
 by_cases ha:0≤a∧a<112
 ·obtain⟨n,rfl⟩:=Int.eq_ofNat_of_zero_le ha.1;(have hn:n<112:=by omega);rw[decide_eq_true ha];refine ob Tryz.func196 ?_;refine a8 ?_;refine zw rfl (aC.cE (Gp σ b sb db d s inn dt pg C n hn hd hlen h) rfl) ?_;rintro _ _ _ ⟨_,⟨rfl,rfl,nB,yg,h',hi,rfl⟩,rfl⟩;refine az.cl ?_;refine cr ?_;have hw:=Cx (sb:=sb) h'.li h'.ld h'.pp (p:=n/8) (k:=n%8) (by omega) (by omega);have he:=h'.word hn hi;rw[←he] at hw;(first|refine az.wanted rfl rfl ?_|refine az.wq rfl rfl ?_);refine zO rfl (Rd.Df (c:=((n%8:Nat):Int)) rfl rfl (by decide) (Q9 n)) ?_;refine aW ?_;refine XA.bI rfl (fun fW=>?_) (fun fW=>?_)
  ·(have e1:iD C n w=C.set (n/8) ((C.getD (n/8) al.aZ).set (n%8) w):=by rw[iD,if_pos ⟨ha,fW⟩];rfl);(have e2:vT C dt n w=dt.set (n/8) true:=by rw[vT,if_pos ⟨ha,fW⟩];rfl);have hP:=h'.put (p:=n/8) (k:=n%8) (by omega) hi w;have fR:=Gm (sb:=sb) h'.li h'.ld h'.pp (p:=n/8) (k:=n%8) (by omega) (by omega) w;have n6:=Q8 (sb:=sb) (pg:=yg.set (n/8) ((yg.getD (n/8) al.aZ).set (n%8) w)) h'.li h'.ld (p:=n/8) (by omega) true;have Wl:=p9 (sb:=sb) h'.li h'.ld h'.pp;(have ey:29+n/8*8+n%8+1≤(aS sb nB dt yg).length:=by omega);have Ra:=p9 (sb:=sb) h'.li h'.ld hP.pp;(have Vf:15+n/8+Xt.size≤(aS sb nB dt (yg.set (n/8) ((yg.getD (n/8) al.aZ).set (n%8) w))).length:=by rw[Ra];show 15+n/8+1≤141;omega);refine b9 ?_;refine zO rfl (Rd.Df (c:=((n%8:Nat):Int)) rfl rfl (by decide) (Q9 n)) ?_;refine a8 ?_;clear ey;have ey:=Vf;refine cr ?_;exact ao.ret (aG.one rfl rfl) (by rw[e2];exact zE) ⟨rfl,rfl,_,_,by rw[e1,e2];exact hP,rfl⟩
  ·(have e1:iD C n w=C:=by rw[iD,if_neg (fun q=>fW q.2)]);(have e2:vT C dt n w=dt:=by rw[vT,if_neg (fun q=>fW q.2)]);refine a8 ?_;exact ao.ret (aG.one rfl rfl) (by rw[e2];exact zE) ⟨rfl,rfl,_,_,by rw[e1,e2];exact h',rfl⟩
 ·(have e1:iD C a w=C:=by rw[iD,if_neg (fun q=>ha q.1)]);(have e2:vT C dt a w=dt:=by rw[vT,if_neg (fun q=>ha q.1)]);rw[decide_eq_false ha];refine ob Tryz.func196 ?_;refine a8 ?_;refine yC (Cz σ b a ha) ?_;refine cr ?_;(first|refine zH ?_);refine aW ?_;refine aW ?_;exact ao.ret (aG.one rfl rfl) (by rw[e2];exact zE) ⟨rfl,rfl,_,_,by rw[e1,e2];exact h,rfl⟩
def cB (C:List (List Int)) (dt:List Bool):Nat→List bu
 |0=>[]
 |k+1=>if dt.getD k false=true then cB C dt k++[⟨(k:Int),C.getD k al.aZ⟩] else cB C dt k
theorem gT (C:List (List Int)) (dt:List Bool):∀k,(cB C dt k).length≤k
 |0=>Nat.le_refl _
 |k+1=>by
  have:=gT C dt k;rw[cB];split
  ·rw[List.length_append,List.length_singleton];omega
  ·omega
def bA (C:List (List Int)) (dt:List Bool):List bu:=cB C dt 14
theorem CA (σ:PH) (b sb:Nat) (d:al) (s:cY) (inn dt:List Bool) (pg C:List (List Int)) (h:nA d s inn dt pg C):
 ae Tryz.prog 224 #[ptr b] σ [au b (aS sb inn dt pg) 242] (aE fun v ag ah=>∃(p:Option Addr) (c:Nat) (rows:List (List Value)),v=.slice p (bA C dt).length c∧cA 9 lO σ rows (bA C dt)∧σ=ag∧ah=[au b (aS sb inn dt pg) 242,bn 292 9 (.slice p (bA C dt).length c) (bA C dt).length rows.flatten]):=by
 have adq:=Q6 (sb:=sb) (pg:=pg) h.li h.ld;(have hbl:(dH dt).length=14:=by rw[dw];exact h.ld);have gG:dn (dH dt):=sX _;(refine dF Tryz.func224 ?_;refine XH ?_;refine XA.gen [(0,_),(2,_),(3,_),(9,_),(10,_)] jN fun δ=>?_);dsimp only[List.foldl];refine XA.loop [(3,5),(10,26)] (fun q:Nat×(Option Addr×(Nat×Nat))=>[(10,i64 q.1),(3,.slice q.2.1 q.2.2.1 q.2.2.2)]) (fun q ag ah=>σ=ag∧q.1≤14∧q.2.2.1=(cB C dt q.1).length∧∃(rows:List (List Value)),cA 9 lO σ rows (cB C dt q.1)∧ah=[au b (aS sb inn dt pg) 242,bn 292 9 (.slice q.2.1 q.2.2.1 q.2.2.2) q.2.2.1 rows.flatten]) (fun q=>14-q.1) (0,(none,(0,0))) (by exact⟨rfl,rfl,trivial⟩) (Δ0:=_) ?_ (⟨rfl,Nat.zero_le _,rfl,[],cA.nil _ _ _,rfl⟩) ?_
 ·exact zE
 rintro⟨k,p,n,c⟩ δ _ _ ⟨rfl,hk,hn,rows,eK,rfl⟩;dsimp only[eb,List.foldl];have hk:k≤14:=hk;have hn:n=(cB C dt k).length:=hn;have eK:cA 9 lO σ rows (cB C dt k):=eK;have hle:=gT C dt k;rw[←hn] at hle;refine aO ?_;refine XA.bI rfl (fun aT=>?_) (fun aT=>?_)
 ·(have aT:k<14:=by omega);have WL:(dH dt).toArray[((k:Nat):Int).toNat]? =some (.bool (dt.getD k false)):=by rw[Int.toNat_natCast,List.getElem?_toArray];exact qc (by rw[h.ld];exact aT)
  cases Vg:dt.getD k false with
  |true=>
   rw[Vg] at WL;(have e1:cB C dt (k+1)=cB C dt k++[⟨(k:Int),C.getD k al.aZ⟩]:=by rw[cB,if_pos Vg]);have bL:=AW (sb:=sb) h.li h.ld h.pp (p:=k) aT;rw[show pg.getD k al.aZ=C.getD k al.aZ by rw[h.val k aT,if_pos (h.dir k aT Vg)]] at bL;have SM:=iw h.cc aT;obtain⟨W,hW⟩:∃W,W=C.getD k al.aZ:=⟨_,rfl⟩;rw[←hW] at bL SM e1;have aa1:dn (ints W):=dP _;(have vy:(i64 (k:Int)::ints W).length=9:=by simp[SM]);have sD:dn (i64 (k:Int)::ints W):=dO rfl (dP _);have Gq:lO σ (i64 (k:Int)::ints W) ⟨k,W⟩:=⟨rfl,SM⟩;(have fI:cA 9 lO σ (rows++[i64 (k:Int)::ints W]) (cB C dt (k+1)):=by rw[e1];exact eK.snoc vy Gq);(have As:n+1=(cB C dt (k+1)).length:=by rw[e1,List.length_append,List.length_singleton,hn]);refine bt ?_;refine zO rfl (Rd.UA rfl rfl) ?_;refine a8 ?_;refine cg ?_;refine zw rfl (aC.qO (ad rfl) rfl (ad rfl)) ?_;rintro _ _ _ ⟨g24,rfl,rfl,rfl⟩;refine zw rfl (aC.tS (ad rfl) rfl (ad rfl) rfl rfl rfl) ?_;rintro _ _ _ ⟨p25,c25,rfl,rfl,rfl⟩;refine a8 ?_;refine⟨cF,(k+1,(p25,(n+1,c25))),_,zM,?_,⟨rfl,aT,As,_,fI,rfl⟩,(by simp only;omega)⟩
   ·rw[mP];exact zE
  |false=>
   rw[Vg] at WL;(have e1:cB C dt (k+1)=cB C dt k:=by rw[cB,if_neg (by rw[Vg];exact fun q=>by cases q)]);refine bt ?_;refine zO rfl (Rd.UA rfl rfl) ?_;refine a8 ?_;refine a8 ?_;refine⟨cF,(k+1,(p,(n,c))),_,zM,?_,⟨rfl,aT,by rw[e1];exact hn,rows,by rw[e1];exact eK,rfl⟩,(by simp only;omega)⟩
   ·exact zE
 (obtain rfl:k=14:=by omega);subst hn;refine bH ?_;exact b8 rfl rfl ⟨p,c,rows,rfl,eK,rfl,rfl⟩
def rG:List Bool:=List.replicate 14 false
def mI:List (List Int):=List.replicate 14 al.aZ
set_option maxRecDepth 100000 in
theorem Rc (σ:PH) (sb:Nat):ae Tryz.prog 150 #[ptr sb] σ [] (aE fun v ag ah=>∃b,v=ptr b∧σ=ag∧ah=[au b (aS sb rG rG mI) 242]):=by
 (refine dF Tryz.func150 ?_;refine a8 ?_;refine cN fun g5=>?_;refine bM ?_);exact b8 rfl rfl ⟨_,rfl,rfl,rfl⟩
end Go.Proofs.YtgeoiflbjcehcaaGreatDoor
