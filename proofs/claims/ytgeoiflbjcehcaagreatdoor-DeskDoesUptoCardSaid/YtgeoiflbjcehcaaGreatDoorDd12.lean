import Derived.Test.YtgeoiflbjcehcaaGreatDoorDd11
set_option maxHeartbeats 4000000
set_option maxRecDepth 2000
set_option linter.unusedVariables false
set_option linter.unusedSimpArgs false
namespace Go.Proofs.YtgeoiflbjcehcaaGreatDoor
open Go X
def cU (m:Int) (k:Nat):Bool:=decide (m.toNat/2^(k%64)%2=1)
theorem Xt (x:Int) (h0:0≤x) (h1:x<18446744073709551616):IntKind.u64.wrap ((BitVec.ofInt 64 x&&& BitVec.ofInt 64 1).toNat:Int)=x%2:=by
 obtain⟨n,rfl⟩:=Int.eq_ofNat_of_zero_le h0;have hn:n<18446744073709551616:=by omega
 have e:(BitVec.ofInt 64 (n:Int)&&& BitVec.ofInt 64 1).toNat=n%2:=by
  (have:(BitVec.ofInt 64 (1:Int))=1#64:=by decide);rw[this,BitVec.toNat_and];simp[Nat.and_one_is_mod]
 rw[e];show IntKind.u64.wrap _=_;have:=Nat.mod_lt n (show 0<2 by omega);(have hw:∀q:Int,0≤q→q<18446744073709551616→IntKind.u64.wrap q=q:=fun q a b=>by simp[IntKind.wrap,IntKind.bits,IntKind.signed];omega);rw[hw _ ad ad];omega
theorem DC {l:List (List Int)} (hl:∀w∈l,w.length=8) {n:Nat} (hn:n<l.length) {w:List Int} (hw:w.length=8) (sl:Value):aQ (ints l.flatten++[sl]) (n*8) (ints w)=ints (l.set n w).flatten++[sl]:=by
 have key:∀(l:List (List Int)),(∀w∈l,w.length=8)→∀n,n<l.length→(l.flatten).take (n*8)++w++(l.flatten).drop (n*8+8)=(l.set n w).flatten:=by
  intro l
  induction l with
  |nil=>intro _ n hn;simp at hn
  |cons a l ih=>
   intro hl n hn;have ha:a.length=8:=hl a aZ
   cases n with
   |zero=>simp[←ha]
   |succ n=>
    have:=ih (fun x hx=>hl x (by simp[hx])) n (by simpa using hn);simp only[List.flatten_cons,List.set_cons_succ];rw[←this,Nat.succ_mul,Nat.add_comm (n*8) 8,←ha,List.take_length_add_append,Nat.add_assoc,List.drop_length_add_append];simp[Nat.add_comm]
 have hlen:l.flatten.length=l.length*8:=by
  have:=pD (fun w:List Int=>ints w) 8 l (fun x hx=>by simp[hl x hx]);simpa[List.flatMap,←List.map_flatten,ints] using this
 (have hle:n*8+8≤l.flatten.length:=by rw[hlen];omega);unfold aQ;rw[List.take_append_of_le_length (by rw[ints,List.length_map];omega),List.drop_append_of_le_length (by rw[ints,ints,List.length_map,List.length_map];omega),←key l hl n hn];simp[ints,List.map_take,List.map_drop,hw]
def av.part (d:av) (is:Nat→Bool) (n:Nat):List (List Int):=((d.wait.zipIdx).take n).foldl (fun l p=>if is p.2 then l.set p.1.1 p.1.2 else l) d.l
theorem HL {d:av} (hd:d.ok) (is:Nat→Bool) (n:Nat):(d.part is n).length=34∧∀w∈d.part is n,w.length=8:=by
 have gen:∀(ps:List ((Nat×List Int)×Nat)) (l:List (List Int)),(∀p∈ps,p.1.2.length=8)→l.length=34→(∀w∈l,w.length=8)→(ps.foldl (fun l p=>if is p.2 then l.set p.1.1 p.1.2 else l) l).length=34∧∀w∈ps.foldl (fun l p=>if is p.2 then l.set p.1.1 p.1.2 else l) l,w.length=8:=by
  intro ps
  induction ps with
  |nil=>intro l _ h1 h2;exact⟨h1,h2⟩
  |cons p ps ih=>
   intro l hp h1 h2;simp only[List.foldl_cons];refine ih _ (fun q hq=>hp q (by simp[hq])) ?_ ?_
   ·split<;>simp[h1]
   ·intro w hw;split at hw
    ·rcases List.mem_or_eq_of_mem_set hw with hw|rfl
     ·exact h2 w hw
     ·exact hp p aZ
    ·exact h2 w hw
 refine gen _ _ (fun p hp=>?_) hd.1 hd.2.1;have:=List.mem_of_mem_take hp;obtain⟨q,k⟩:=p;have hq:=(List.mem_zipIdx this).2.2;exact(hd.2.2 _ (by rw[hq];exact List.getElem_mem _)).2
theorem Jq (d:av) (is:Nat→Bool) {n:Nat} {p:Nat×List Int} (hp:d.wait[n]? =some p):d.part is (n+1)=if is n then (d.part is n).set p.1 p.2 else d.part is n:=by
 (have:(d.wait.zipIdx)[n]? =some (p,n):=by simp[List.getElem?_zipIdx,hp]);rw[av.part,eV this,List.foldl_append];rfl
theorem LP (σ:PH) (k:Int):ah Tryz.prog 248 #[i64 k] σ [emp] (aA fun v aj al=>v=.bool true∧σ=aj∧al=[emp]):=by
 refine cM Tryz.func248 ?_;refine cp ?_;exact ao.ret (aB.one rfl rfl) (ar.refl _) ⟨rfl,rfl,rfl⟩
theorem LQ (σ:PH) (k:Nat) (m:Int) (g:Nat) (wm:0≤m) (wE:m<18446744073709551616):ah Tryz.prog 160 #[i64 k,ptr g] σ [aw g [.int .u64 m] 80] (aA fun v aj al=>v=.bool (cU m k)∧σ=aj∧al=[aw g [.int .u64 m] 80]):=by
 refine cw Tryz.func160 ?_;refine bt ?_;refine zO rfl (Rd.KN (c:=((k%64:Nat):Int)) rfl rfl au (by rw[Int.tmod_eq_emod_of_nonneg ad];omega)) ?_
 have hsh:(m.fdiv (2^(min (Int.toNat ((k%64:Nat):Int)) IntKind.u64.bits)))=((m.toNat/2^(k%64):Nat):Int):=by
  (have hk:min (Int.toNat ((k%64:Nat):Int)) IntKind.u64.bits=k%64:=by simp[IntKind.bits];omega);rw[hk];obtain⟨n,rfl⟩:=Int.eq_ofNat_of_zero_le wm;rw[Int.fdiv_eq_ediv_of_nonneg _ (by exact Int.le_of_lt (Int.pow_pos au))];simp
 have hand:IntKind.u64.wrap ((BitVec.ofInt 64 ((m.toNat/2^(k%64):Nat):Int)&&& BitVec.ofInt 64 1).toNat:Int)=((m.toNat/2^(k%64)%2:Nat):Int):=by
  have hle:m.toNat/2^(k%64)≤m.toNat:=Nat.div_le_self _ _;have:=Xt ((m.toNat/2^(k%64):Nat):Int) (Int.natCast_nonneg _) ad;rw[this];generalize m.toNat/2^(k%64)=q;omega
 refine zO rfl (Rd.Z2 (c:=((m.toNat/2^(k%64):Nat):Int)) rfl rfl ad hsh) ?_;refine zO rfl (Rd.VT (c:=((m.toNat/2^(k%64)%2:Nat):Int)) rfl rfl hand) ?_;refine dc ?_;refine bC rfl rfl ⟨?_,rfl,rfl⟩;unfold cU;generalize m.toNat/2^(k%64)=q;exact congrArg Value.bool (decide_eq_decide.2 ad)
def abe (f:FuncId) (cap:List Value) (p:Nat→Bool) (C:HP):Prop:=∀(σ:PH) (k:Nat),ah Tryz.prog f (i64 k::cap).toArray σ [C] (aA fun v aj al=>v=.bool (p k)∧σ=aj∧al=[C])
theorem DE (σ:PH) (b:Nat) (d:av) (f:FuncId) (cap:List Value) (p:Nat→Bool) (C:HP) (hlen:d.wait.length<1000000) (hs:abe f cap p C):
 ah Tryz.prog 159 #[ptr b,.func (.func f) (List.toArray []) cap.toArray] σ [bW b d,C] (aA fun v aj al=>v=.tuple #[]∧σ=aj∧al=[bW b (d.settle p),C]):=by
 refine cw Tryz.func159 ?_;refine bY ?_;(first|refine XA.aW (R:=bW b d) zL (bW.aW) ?_|refine az.aW (R:=bW b d) zL (bW.aW) ?_|refine DA.aW (R:=bW b d) zL (bW.aW) ?_);rintro⟨pp,cc⟩ cR;refine gX ?_;have h1:=LO cR (.slice pp d.wait.length cc);have fG:=lJ cR;(refine bJ ?_;refine XA.gen [(0,_),(1,_),(9,_),(10,_),(11,_)] iX fun δ=>?_);dsimp only[List.foldl];refine XA.loop [(4,5),(11,27)] (fun k:Nat=>[(11,i64 k)]) (fun k aj al=>σ=aj∧k≤d.wait.length∧al=[aw b (ints (d.part p k).flatten++[.slice pp d.wait.length cc]) 225,aS 278 9 (.slice pp d.wait.length cc) d.wait.length d.oH,C]) (fun k=>d.wait.length-k) 0 eb (Δ0:=_) ?_ (⟨rfl,cg _,rfl⟩) ?_
 ·exact zE
 rintro k δ _ _ ⟨rfl,hk,rfl⟩;dsimp only[dq,List.foldl];have Fa:=HL cR p k;refine a8 ?_;refine XA.bE rfl (fun aV=>?_) (fun aV=>?_)
 ·(have aV:k<d.wait.length:=by omega);obtain⟨q,hq⟩:∃q,d.wait[k]? =some q:=⟨_,b9 aV⟩;have S8:q.2.length=8:=(cR.2.2 q (fg hq)).2;have hqa:q.1<34:=(cR.2.2 q (fg hq)).1;(have bG:(d.oH.drop (k*9)).take 9=i64 q.1::ints q.2:=by have:=Xr cR hq;simpa[S8] using this);(first|refine XA.aW (R:=aS 278 9 (.slice pp d.wait.length cc) _ _) zL (dG ad) ?_|refine az.aW (R:=aS 278 9 (.slice pp d.wait.length cc) _ _) zL (dG ad) ?_|refine DA.aW (R:=aS 278 9 (.slice pp d.wait.length cc) _ _) zL (dG ad) ?_);rintro g rfl;refine gX ?_;refine bt ?_;refine di (fun g5=>?_) (ae rfl);refine bJ ?_;refine zw rfl (ax.cV (first:=[]) (cap:=cap) rfl (hs σ k) rfl) ?_;rintro _ _ _ ⟨_,⟨rfl,rfl,rfl⟩,rfl⟩;refine az.cl ?_;refine aU ?_;have iP:=DC Fa.2 (n:=q.1) ad S8 (.slice (some ⟨g,0,none⟩) d.wait.length cc)
  have gf:q.1*8+8≤(ints (d.part p k).flatten++[Value.slice (some ⟨g,0,none⟩) d.wait.length cc]).length:=by
   have:=pD (fun w:List Int=>ints w) 8 (d.part p k) (fun x hx=>by simp[Fa.2 x hx]);(have e:((d.part p k).flatMap fun w=>ints w).length=(ints (d.part p k).flatten).length:=by simp[List.flatMap,ints,List.map_flatten]);rw[bq,←e,this,Fa.1];simp;omega
  have uR:=Jq d p hq;refine XA.cond rfl (fun HM=>?_) (fun HM=>?_)
  ·skip;refine et 9 13212 [8] (ar.bB (R:=aw g5 _ _) zL (ar.nil _)) ?_;refine bJ ?_;refine kS rfl (ax.st (ae rfl) rfl) ?_;refine bJ ?_;rw[aq HM] at uR;refine⟨bQ,k+1,_,zM,?_,⟨rfl,aV,rfl⟩,ad⟩
   ·rw[uR];exact zE
  ·refine bJ ?_;rw[ag (by rw[HM];decide)] at uR;refine⟨bQ,k+1,_,zM,?_,⟨rfl,aV,rfl⟩,ad⟩
   ·rw[uR];exact zE
 ·(have sC:k=d.wait.length:=by omega);subst sC
  have zf:(ints (d.part p d.wait.length).flatten).length=272:=by
   have QS:=pD (fun w:List Int=>ints w) 8 (d.part p d.wait.length) (fun x hx=>by simp[Fa.2 x hx]);(have e:((d.part p d.wait.length).flatMap fun w=>ints w).length=(ints (d.part p d.wait.length).flatten).length:=by simp[List.flatMap,ints,List.map_flatten]);rw[←e,QS,Fa.1]
  (have gf:272+1≤(ints (d.part p d.wait.length).flatten++[Value.slice pp d.wait.length cc]).length:=by rw[bq,zf];exact bX _);(have iP:∀v,aQ (ints (d.part p d.wait.length).flatten++[Value.slice pp d.wait.length cc]) 272 [v]=ints (d.part p d.wait.length).flatten++[v]:=fun v=>CY zf);have mW:(d.wait.zipIdx).take d.wait.length=d.wait.zipIdx:=List.take_of_length_le aZ;(have gG:(d.settle p).l=d.part p d.wait.length:=by simp only[av.settle,av.part,mW]);have abf:(d.settle p).ok:=⟨by rw[gG];exact Fa.1,by rw[gG];exact Fa.2,by simp[av.settle]⟩;refine cp ?_;refine ao.normal (aB.none rfl) (ar.eT (Θ:=[_,_]) zD (bW.mk (sl:=.slice none 0 0) (n:=0) (xs:=[]) abf ?_ rfl rfl) zE) ⟨rfl,rfl,rfl⟩;rw[av.cells,gG]
theorem PB (σ:PH) (b:Nat) (d:av) (hlen:d.wait.length<1000000):ah Tryz.prog 245 #[ptr b] σ [bW b d] (aA fun v aj al=>v=.tuple #[]∧σ=aj∧al=[bW b (d.settle fun _=>true)]):=by
 refine cM Tryz.func245 ?_;refine aU ?_;refine yC (DE σ b d 248 [] (fun _=>true) emp hlen (fun σ k=>LP σ k)) ?_;refine bS ?_;exact iN rfl ⟨rfl,rfl,rfl⟩
theorem HN (σ:PH) (b:Nat) (d:av) (m:Int) (hlen:d.wait.length<1000000) (wm:0≤m) (wE:m<18446744073709551616):ah Tryz.prog 115 #[ptr b,.int .u64 m] σ [bW b d] (aA fun v aj al=>v=.tuple #[]∧σ=aj∧al=[bW b (d.settle (cU m))]):=by
 (refine cw Tryz.func115 ?_;refine aU ?_;refine cP fun g3=>?_;refine bY ?_);refine zO rfl (Rd.nw xl) ?_;refine yC (DE σ b d 160 [ptr g3] (cU m) (aw g3 [.int .u64 m] 80) hlen (fun σ k=>LQ σ k m g3 wm wE)) ?_;refine bS ?_;exact iN rfl ⟨rfl,rfl,rfl⟩
structure eZ where
 gen:Int
 t:List Int
 pg:List Int
namespace eZ
def ok (s:eZ):Prop:=s.t.length=2∧s.pg.length=14
def cells (s:eZ):List Value:=i64 s.gen::(ints s.t++ints s.pg)
end eZ
def fz:List Int:=List.replicate 14 0
def nL (d:av) (r:Int):eZ:=⟨(d.read r).getD 0 0,[(d.read r).getD 1 0,(d.read r).getD 2 0],fz⟩
def rY (d:av) (t:List Int) (p:Nat):Int:=if 0<t.getD (p/8) 0 then (d.read (t.getD (p/8) 0)).getD (p%8) 0 else 0
def dM (d:av) (t:List Int) (j:Nat):List Int:=(List.range 14).map fun p=>if p<j then rY d t p else 0
def fB (d:av):eZ:=if (nL d 0).gen<(nL d 1).gen then nL d 1 else nL d 0
def LR (d:av):eZ:={fB d with pg:=dM d (fB d).t 14}
def ck (b db:Nat) (s:eZ):HP:=fun m=>aw b (ptr db::s.cells) 265 m∧s.ok
theorem Xu {R:HP} {m:PH} (h:R m):Sat [R] m:=⟨m,PH.none,h,trivial,PH.ez m,.refl m,PH.gL m⟩
theorem LS {g:Nat} {l:List Value} {T:TypeId} {m:PH} (h:Sat [aw g l T] m):aw g l T m:=by
 obtain⟨m1,m2,a,-,-,b,-⟩:=h;exact b _ _ a
theorem ck.aW {b db:Nat} {s:eZ}:∀m,ck b db s m→∃_:Unit,s.ok∧Sat [aw b (ptr db::s.cells) 265] m:=fun m h=>⟨(),h.2,Xu h.1⟩
theorem ck.mk {b db:Nat} {s:eZ} {cs:List Value} (hs:s.ok) (e:cs=ptr db::s.cells):∀m,Sat [aw b cs 265] m→ck b db s m:=fun m h=>⟨by subst e;exact LS h,hs⟩
theorem kF (d:av) (t:List Int) (j:Nat):(dM d t j).length=14:=by simp[dM]
theorem len8 {d:av} (hd:d.ok) (a:Int):(d.read a).length=8:=by
 unfold av.read;split
 ·rename_i h;refine DB ?_ _ _ (fun p hp=>(hd.2.2 p hp).2);rw[ey,b9 (by rw[hd.1];omega)];exact hd.2.1 _ (List.getElem_mem _)
 ·rfl
theorem Xv {α:Type} {l:List α} (h:l.length=8):∃a b c d e f g i,l=[a,b,c,d,e,f,g,i]:=by
 match l,h with
 |[a,b,c,d,e,f,g,i],_=>exact⟨a,b,c,d,e,f,g,i,rfl⟩
theorem LU (σ:PH) (b db:Nat) (s:eZ) (d:av) (r:Int) (cR:d.ok) (hlen:d.wait.length<1000000):
 ah Tryz.prog 182 #[ptr b,i64 r] σ [aw b (ptr db::s.cells) 265,bW db d] (aA fun v aj al=>v=.agg (nL d r).cells.toArray∧σ=aj∧al=[aw b (ptr db::s.cells) 265,bW db d]):=by
 obtain⟨w0,w1,w2,w3,w4,w5,w6,w7,hw⟩:=Xv (len8 cR r);(have hr:nL d r=⟨w0,[w1,w2],fz⟩:=by rw[nL,hw];rfl);rw[hr];refine cw Tryz.func182 ?_;refine aU ?_;refine di (fun g4=>?_) (ae rfl);refine bt ?_;refine yC (FP σ db d r hlen) ?_;rw[hw];refine di (fun g5=>?_) (ae rfl);refine bJ ?_;refine di (fun g6=>?_) (ae rfl);refine aR ?_;refine XA.ij 3 ?_;refine nr.succ ?_;refine SD ?_;refine nr.succ ?_;refine SD ?_;refine nr.succ ?_;refine iA ?_;exact ao.ret (aB.cell rfl rfl (Ld.bn (ae rfl) rfl zL rfl cK cJ)) zE ⟨rfl,rfl,rfl⟩
theorem me (l:List Value) (o:Nat) (v:Value) (h:o<l.length):aQ l o [v]=l.set o v:=by
 unfold aQ;rw[List.set_eq_take_append_cons_drop,aq h];simp
theorem ints_set (l:List Int) (j:Nat) (x:Int):ints (l.set j x)=(ints l).set j (i64 x):=by simp[ints,List.map_set]
theorem LV {db:Nat} {gen a0 a1:Int} {pg:List Int} (h:pg.length=14) {j:Nat} (hj:j<14) (x:Int):aQ (ptr db::i64 gen::i64 a0::i64 a1::ints pg) (4+j) [i64 x]=ptr db::i64 gen::i64 a0::i64 a1::ints (pg.set j x):=by
 rw[me _ _ _ (by simp[h];omega),Nat.add_comm,ints_set];rfl
theorem BF (d:av) (t:List Int) {j:Nat} (hj:j<14):dM d t (j+1)=(dM d t j).set j (rY d t j):=by
 apply List.ext_getElem (by simp[dM]);intro p h1 h2;simp only[dM,List.length_map,List.length_range] at h1;simp only[dM,List.getElem_map,List.getElem_range,List.getElem_set];by_cases e:j=p
 ·subst e;simp
 ·rw[ag e];by_cases h:p<j
  ·rw[aq ad,aq h]
  ·rw[ag ad,ag h]
theorem lu (d:av) (t:List Int) {j:Nat} (h:14≤j∨rY d t j=0):dM d t (j+1)=dM d t j:=by
 apply List.map_congr_left;intro p hp;(have hp:p<14:=by simpa using hp);by_cases e:p=j
 ·subst e;rcases h with h|h
  ·omega
  ·rw[aq ad,h,ag ad]
 ·by_cases h:p<j
  ·rw[aq ad,aq h]
  ·rw[ag ad,ag h]
theorem Jr (d:av) (t:List Int) {i k:Nat} (hk:k<8):rY d t (i*8+k)=if 0<t.getD i 0 then (d.read (t.getD i 0)).getD k 0 else 0:=by
 rw[rY,show (i*8+k)/8=i by omega,show (i*8+k)%8=k by omega]
theorem BG (d:av) (t:List Int):dM d t 0=fz:=by simp[dM,fz];rfl
theorem tA {l:List Int} {k:Nat} (h:k<l.length):(ints l)[k]? =some (i64 (l.getD k 0)):=by simp[h,ey]
theorem S9 (σ:PH) (db:Nat) (d:av) (cR:d.ok) (hlen:d.wait.length<1000000):
 ah Tryz.prog 151 #[ptr db] σ [bW db d] (aA fun v aj al=>∃b,v=ptr b∧σ=aj∧al=[ck b db (LR d),bW db d]):=by
 (refine cM Tryz.func151 ?_;refine bt ?_;refine cP fun g13=>?_;refine a8 ?_;refine yC (LU σ g13 db ⟨0,[0,0],fz⟩ d 0 cR hlen) ?_;refine bS ?_;refine yC (LU σ g13 db ⟨0,[0,0],fz⟩ d 1 cR hlen) ?_);obtain⟨g0,a0,a1,Dx⟩:∃g a0 a1,nL d 0=⟨g,[a0,a1],fz⟩:=⟨_,_,_,rfl⟩;obtain⟨g1,b0,b1,E5⟩:∃g a0 a1,nL d 1=⟨g,[a0,a1],fz⟩:=⟨_,_,_,rfl⟩;have uF:LR d={fB d with pg:=dM d (fB d).t 14}:=rfl;(have Ta:fB d=if g0<g1 then ⟨g1,[b0,b1],fz⟩ else ⟨g0,[a0,a1],fz⟩:=by rw[fB,Dx,E5]);rw[uF];obtain⟨L,hL⟩:∃L,L=fB d:=⟨_,rfl⟩;rw[←hL] at Ta⊢;rw[Dx,E5];clear uF Dx E5;refine di (fun g4=>?_) (ae rfl);refine di (fun g5=>?_) (ae rfl);refine rM ?_;refine XA.join [(27,30)] (fun _:Unit=>[]) (fun _ aj al=>σ=aj∧al=[aw g13 (ptr db::L.cells) 265,bW db d]) ?_ ?_
 ·refine XA.bE rfl (fun hgt=>?_) (fun hgt=>?_)
  ·rw[aq hgt] at Ta;subst Ta;refine bJ ?_;refine⟨bQ,(),_,zM,?_,⟨rfl,rfl⟩⟩
   ·exact zE
  ·rw[ag hgt] at Ta;subst Ta;refine aU ?_;refine⟨bQ,(),_,zM,?_,⟨rfl,rfl⟩⟩
   ·exact zE
 rintro-δ0 _ _ ⟨rfl,rfl⟩;dsimp only[dq,List.foldl];refine bS ?_
 obtain⟨gl,t0,t1,rfl⟩:∃g t0 t1,L=⟨g,[t0,t1],fz⟩:=by
  rw[Ta];split
  ·exact⟨_,_,_,rfl⟩
  ·exact⟨_,_,_,rfl⟩
 clear Ta hL;refine XA.re (Δ:=[aw g13 (ptr db::i64 gl::i64 t0::i64 t1::ints (dM d [t0,t1] 0)) 265,bW db d]) (by rw[BG];rfl) ?_;(refine bm ?_;refine XA.gen [(0,_),(2,_),(3,_),(35,_),(36,_)] iX fun δ=>?_);dsimp only[List.foldl];refine XA.loop [(6,10),(36,66)] (fun i:Nat=>[(36,i64 i)]) (fun i aj al=>σ=aj∧i≤2∧al=[aw g13 (ptr db::i64 gl::i64 t0::i64 t1::ints (dM d [t0,t1] (i*8))) 265,bW db d]) (fun i=>2-i) 0 eb (Δ0:=_) ?_ (⟨rfl,au,rfl⟩) ?_
 ·exact zE
 rintro i δ _ _ ⟨rfl,hi,rfl⟩;dsimp only[dq,List.foldl];refine a8 ?_;refine XA.bE rfl (fun aV=>?_) (fun aV=>?_)
 ·have aV:i<2:=by omega
  have Om:(List.toArray [i64 t0,i64 t1])[Int.toNat (i:Int)]? =some (i64 (([t0,t1]:List Int).getD i 0)):=by
   rcases (show i=0∨i=1 by omega) with rfl|rfl<;>rfl
  obtain⟨ai,Rt⟩:∃ai,ai=([t0,t1]:List Int).getD i 0:=⟨_,rfl⟩;rw[←Rt] at Om;(have Vt:=fun k (hk:k<8)=>Jr d [t0,t1] (i:=i) hk);rw[←Rt] at Vt;have Vs:=len8 cR ai;refine bg ?_;refine zO rfl (Rd.WU rfl rfl) ?_;refine bJ ?_;refine yC (FP σ db d ai hlen) ?_;obtain⟨w,hw⟩:∃w,w=d.read ai:=⟨_,rfl⟩;rw[←hw] at Vs Vt⊢;clear hw Rt;refine di (fun g8=>?_) (ae rfl);refine bt ?_;refine XA.loop [(9,10),(43,65)] (fun k:Nat=>[(43,i64 k)]) (fun k aj al=>σ=aj∧k≤8∧al=[aw g8 (ints w) 221,aw g13 (ptr db::i64 gl::i64 t0::i64 t1::ints (dM d [t0,t1] (i*8+k))) 265,bW db d]) (fun k=>8-k) 0 eb (Δ0:=_) ?_ (⟨rfl,au,rfl⟩) ?_
  ·exact zE
  rintro k Dc _ _ ⟨rfl,hk,rfl⟩;dsimp only[dq,List.foldl];refine a8 ?_;refine XA.bE rfl (fun rj=>?_) (fun rj=>?_)
  ·(have rj:k<8:=by omega);have HM:=Vt k rj;have hwk:=tA (l:=w) (k:=k) ad;refine dB ?_;refine zO rfl (Rd.VR (c:=((i*8:Nat):Int)) rfl rfl ad ad) ?_;refine bS ?_;refine zO rfl (Rd.Sm (c:=((i*8+k:Nat):Int)) rfl rfl ad ad) ?_;refine dc ?_;by_cases Pq:0<ai
   ·by_cases hp:i*8+k<14
    ·rw[aq Pq] at HM;(have iP:=fun x=>LV (db:=db) (gen:=gl) (a0:=t0) (a1:=t1) (kF d [t0,t1] (i*8+k)) hp x);have aeb:=kF d [t0,t1] (i*8+k);have e1:=BF d [t0,t1] hp;rw[HM] at e1;refine bJ ?_;refine XA.aY rfl zY ?_;refine et 10 39447 [9] (ar.bB (R:=aw g8 _ _) zL (ar.nil _)) ?_;refine bt ?_;refine kS rfl (ax.st (ae rfl) rfl) ?_;refine bJ ?_;refine⟨bQ,k+1,_,zM,?_,⟨rfl,rj,rfl⟩,ad⟩
     ·rw[show i*8+(k+1)=i*8+k+1 from rfl,e1];exact zE
    ·have e1:=lu d [t0,t1] (j:=i*8+k) (.inl ad);refine bJ ?_;refine XA.aI rfl zY ?_;refine bJ ?_;refine⟨bQ,k+1,_,zM,?_,⟨rfl,rj,rfl⟩,ad⟩
     ·rw[show i*8+(k+1)=i*8+k+1 from rfl,e1];exact zE
   ·rw[ag Pq] at HM;have e1:=lu d [t0,t1] (j:=i*8+k) (.inr HM);refine bJ ?_;refine XA.aI rfl zY ?_;refine bJ ?_;refine⟨bQ,k+1,_,zM,?_,⟨rfl,rj,rfl⟩,ad⟩
    ·rw[show i*8+(k+1)=i*8+k+1 from rfl,e1];exact zE
  (have Ov:k=8:=by omega);subst Ov;refine cp ?_;refine⟨bQ,i+1,_,zM,?_,⟨rfl,aV,rfl⟩,ad⟩
  ·rw[show (i+1)*8=i*8+8 by omega];exact zE
 (have vC:i=2:=by omega);subst vC;(have e14:dM d [t0,t1] (2*8)=dM d [t0,t1] 14:=by rw[show 2*8=14+1+1 from rfl,lu _ _ (.inl au),lu _ _ (.inl au)]);rw[e14];refine bm ?_;exact ao.ret (aB.one rfl rfl) (ar.eT (Θ:=[_]) zD (ck.mk (s:=⟨gl,[t0,t1],dM d [t0,t1] 14⟩) ⟨rfl,kF _ _ _⟩ rfl) (ar.refl _)) ⟨g13,rfl,rfl,rfl⟩
theorem FQ (σ:PH) (p:Int):ah Tryz.prog 228 #[i64 p] σ [] (aA fun v aj al=>v=.bool (decide (0≤p∧p<14))∧σ=aj∧al=[]):=by
 by_cases h0:0≤p
 ·refine cM Tryz.func228 ?_;refine dV ?_;exact ao.ret (aB.one rfl rfl) (ar.refl _) ⟨by simp[h0],rfl,rfl⟩
 ·refine cM Tryz.func228 ?_;refine dV ?_;exact ao.ret (aB.one rfl rfl) (ar.refl _) ⟨by simp[h0],rfl,rfl⟩
def cC (d:av) (s:eZ) (p:Int):List Int:=if 0≤p∧p<14∧s.pg.getD p.toNat 0≠0 then d.read (s.pg.getD p.toNat 0) else av.bU
theorem DF {s:eZ} (h:s.ok):∃t0 t1,s.t=[t0,t1]:=by
 obtain⟨h1,-⟩:=h
 match hs:s.t,h1 with
 |[a,b],_=>exact⟨a,b,rfl⟩
theorem Js {db:Nat} {g t0 t1:Int} {pg:List Int} {k:Nat} (h:k<pg.length):(ptr db::i64 g::i64 t0::i64 t1::ints pg)[4+k]? =some (i64 (pg.getD k 0)):=by
 rw[Nat.add_comm];simpa using tA h
theorem PC (σ:PH) (b db:Nat) (s:eZ) (d:av) (p:Int) (hd:d.ok) (hlen:d.wait.length<1000000):
 ah Tryz.prog 200 #[ptr b,i64 p] σ [ck b db s,bW db d] (aA fun v aj al=>v=wv (cC d s p)∧σ=aj∧al=[ck b db s,bW db d]):=by
 by_cases hp:0≤p∧p<14
 ·obtain⟨k,rfl⟩:∃k:Nat,p=k:=Int.eq_ofNat_of_zero_le hp.1;(have hk:k<14:=by omega);refine cw Tryz.func200 ?_;refine aU ?_;refine di (fun g4=>?_) (ae rfl);refine a8 ?_;refine yC (FQ σ k) ?_;rw[aM hp];refine bY ?_;(first|refine XA.aW (R:=ck b db s) zL (ck.aW) ?_|refine az.aW (R:=ck b db s) zL (ck.aW) ?_|refine DA.aW (R:=ck b db s) zL (ck.aW) ?_);rintro⟨⟩ cR;refine gX ?_;obtain⟨t0,t1,ht⟩:=DF cR;obtain⟨g,t,pg⟩:=s;simp only at ht;subst ht;have zf:pg.length=14:=cR.2;have hc:=Js (db:=db) (g:=g) (t0:=t0) (t1:=t1) (pg:=pg) (k:=k) ad;refine az.re (Δ:=[aw b (ptr db::i64 g::i64 t0::i64 t1::ints pg) 265,aw g4 _ _,bW db d]) rfl ?_;refine bt ?_;refine XA.bE rfl (fun hz=>?_) (fun hz=>?_)
  ·have hw:cC d ⟨g,[t0,t1],pg⟩ k=av.bU:=by
    rw[cC,ag];rintro⟨-,-,h⟩;exact h (by simpa using hz)
   rw[hw];refine aU ?_;refine zO rfl (Rd.WV (fun _ _=>ae) rfl rfl rfl) ?_;refine dc ?_;exact ao.ret (aB.cell rfl rfl (Ld.bn (ae rfl) rfl zL rfl cK cJ)) (ar.eT (Θ:=[_]) zD (ck.mk (s:=⟨g,[t0,t1],pg⟩) cR rfl) zE) ⟨rfl,rfl,rfl⟩
  have hw:cC d ⟨g,[t0,t1],pg⟩ k=d.read (pg.getD k 0):=by
   rw[cC,aq ⟨hp.1,hp.2,by simpa using hz⟩];simp
  rw[hw];obtain⟨pa,Vt⟩:∃a,a=pg.getD k 0:=⟨_,rfl⟩;rw[←Vt] at hc hz⊢;clear Vt hw;have h8:=len8 hd pa;refine cx ?_;refine et 13 1476252 [11,12] (ar.bB (R:=aw b _ _) zL (ar.nil _)) ?_;refine cp ?_;refine aP.b7 rfl rfl Gd.free aC (ax.cE (FP σ db d pa hlen) rfl) ?_;rintro _ _ _ ⟨_,⟨rfl,rfl,rfl⟩,rfl⟩;refine aP.cl ?_;refine kS rfl (ax.st (ae rfl) rfl) ?_;refine cx ?_;exact ao.ret (aB.cell rfl rfl (Ld.bn (ae rfl) rfl zL rfl cK cJ)) (ar.eT (Θ:=[_]) zD (ck.mk (s:=⟨g,[t0,t1],pg⟩) cR rfl) zE) ⟨rfl,rfl,rfl⟩
 ·(have hw:cC d s p=av.bU:=by rw[cC,ag (fun h=>hp ⟨h.1,h.2.1⟩)]);rw[hw];refine cw Tryz.func200 ?_;refine aU ?_;refine di (fun g4=>?_) (ae rfl);refine a8 ?_;refine yC (FQ σ p) ?_;rw[aE hp];refine dC ?_;refine zO rfl (Rd.WV (fun _ _=>ae) rfl rfl rfl) ?_;refine dc ?_;exact ao.ret (aB.cell rfl rfl (Ld.bn (ae rfl) rfl zL rfl cK cJ)) zE ⟨rfl,rfl,rfl⟩
abbrev fM (sb:Nat) (left gen t0 t1:Int) (pg:List Int) (fr:Value):List Value:=ptr sb::i64 left::i64 gen::i64 t0::i64 t1::(ints pg++[fr])
theorem tB {sb:Nat} {left gen t0 t1:Int} {pg:List Int} {fr:Value} (h:pg.length=14):(fM sb left gen t0 t1 pg fr)[19]? =some fr:=by
 (have:(ints pg++[fr])[14]? =some fr:=by rw[List.getElem?_append_right (by simp[h])];simp[h]);exact this
theorem qJ {sb:Nat} {left gen t0 t1:Int} {pg:List Int} {fr:Value} (h:pg.length=14):(fM sb left gen t0 t1 pg fr).length=20:=by simp[fM,h]
theorem Ax {sb:Nat} {left gen t0 t1:Int} {pg:List Int} {fr:Value} (h:pg.length=14) (qK:Value):aQ (fM sb left gen t0 t1 pg fr) 19 [qK]=fM sb left gen t0 t1 pg qK:=by
 rw[me _ _ _ (by rw[qJ h];decide)];show ptr sb::i64 left::i64 gen::i64 t0::i64 t1::(ints pg++[fr]).set 14 qK=_;rw[List.set_append_right _ _ (by simp[h])];simp[h]
theorem LW {sb:Nat} {left gen t0 t1:Int} {pg:List Int} {fr:Value} (x:Int):aQ (fM sb left gen t0 t1 pg fr) 1 [i64 x]=fM sb x gen t0 t1 pg fr:=by simp[aQ,fM]
theorem LX {sb:Nat} {left gen t0 t1:Int} {pg:List Int} {fr:Value} {k:Nat} (h:k<pg.length):(fM sb left gen t0 t1 pg fr)[5+k]? =some (i64 (pg.getD k 0)):=by
 rw[Nat.add_comm];show (ints pg++[fr])[k]? =_;rw[List.getElem?_append_left (by simpa using h)];exact tA h
theorem LY {sb:Nat} {left gen t0 t1:Int} {pg:List Int} {fr:Value} (h:pg.length=14) {k:Nat} (hk:k<14) (x:Int):aQ (fM sb left gen t0 t1 pg fr) (5+k) [i64 x]=fM sb left gen t0 t1 (pg.set k x) fr:=by
 rw[me _ _ _ (by rw[qJ h];omega),Nat.add_comm];show ptr sb::i64 left::i64 gen::i64 t0::i64 t1::(ints pg++[fr]).set k (i64 x)=_;rw[List.set_append_left _ _ (by simp[h];omega),←ints_set]
def leftOf (D:Int) (j:Nat):Int:=IntKind.i64.wrap (D-j)
def Kz (D:Int):Prop:=-9223372036854775808≤D∧D≤9223372036854775807
theorem Jt {D:Int} {j:Nat} (hD:Kz D) (hj:j<1000):leftOf D j=0↔D=j:=by
 obtain⟨h1,h2⟩:=hD;simp only[leftOf,IntKind.wrap,IntKind.bits,IntKind.signed];simp;omega
theorem Ju (D:Int) (j:Nat):IntKind.i64.wrap (leftOf D j-1)=leftOf D (j+1):=by
 simp only[leftOf,IntKind.wrap,IntKind.bits,IntKind.signed];simp;omega
theorem FR {D:Int} (hD:Kz D):leftOf D 0=D:=by
 rw[leftOf];simpa using X.wrap64_in hD.1 hD.2
theorem Ru (σ:PH) (c sb:Nat) (D:Int) (j:Nat) (gen t0 t1:Int) (pg:List Int) (fr:Value) (hD:Kz D) (hj:j<1000):
 ah Tryz.prog 244 #[ptr c] σ [aw c (fM sb (leftOf D j) gen t0 t1 pg fr) 301] (aA fun v aj al=>v=.bool (decide (D≠(j:Int)))∧σ=aj∧al=[aw c (fM sb (if D=(j:Int) then leftOf D j else leftOf D (j+1)) gen t0 t1 pg fr) 301]):=by
 have hz:=Jt hD hj;have Tb:=Ju D j;by_cases h0:D=(j:Int)
 ·rw[aq h0];have hl:=hz.2 h0;refine cM Tryz.func244 ?_;refine dh ?_;refine XA.aY rfl (aM hl) ?_;refine bg ?_;exact ao.ret (aB.one rfl rfl) (ar.refl _) ⟨congrArg Value.bool (aE (fun(h:D≠(j:Int))=>h h0)).symm,rfl,rfl⟩
 ·rw[ag h0];(have hl:leftOf D j≠0:=fun h=>h0 (hz.1 h));(have iP:=fun x=>LW (sb:=sb) (left:=leftOf D j) (gen:=gen) (t0:=t0) (t1:=t1) (pg:=pg) (fr:=fr) x);refine cM Tryz.func244 ?_;refine dh ?_;refine XA.aI rfl (aE hl) ?_;refine bJ ?_;refine zO rfl (Rd.aav rfl rfl Tb) ?_;refine cp ?_;exact ao.ret (aB.one rfl rfl) (ar.refl _) ⟨congrArg Value.bool (aM (p:=D≠(j:Int)) h0).symm,rfl,rfl⟩
theorem FT (σ:PH) (c sb:Nat) (j:Nat) (gen t0 t1:Int) (pg:List Int) (fr:Value) (hj:j<1000):
 ah Tryz.prog 244 #[ptr c] σ [aw c (fM sb (leftOf j j) gen t0 t1 pg fr) 301] (aA fun v aj al=>v=.bool false∧σ=aj∧al=[aw c (fM sb (leftOf j j) gen t0 t1 pg fr) 301]):=by
 have h:=Ru σ c sb j j gen t0 t1 pg fr ⟨ad,ad⟩ hj
 rwa [aq rfl,aE (fun h=>h rfl)] at h
theorem BH (σ:PH) (c sb:Nat) (D:Int) (j:Nat) (gen t0 t1:Int) (pg:List Int) (fr:Value) (hD:Kz D) (hj:j<1000) (ix:D≠(j:Int)):
 ah Tryz.prog 244 #[ptr c] σ [aw c (fM sb (leftOf D j) gen t0 t1 pg fr) 301] (aA fun v aj al=>v=.bool true∧σ=aj∧al=[aw c (fM sb (leftOf D (j+1)) gen t0 t1 pg fr) 301]):=by
 have h:=Ru σ c sb D j gen t0 t1 pg fr hD hj
 rwa [ag ix,aM ix] at h
theorem LZ (σ:PH) (c sb:Nat) (j:Nat) (gen t0 t1:Int) (pg:List Int) (fr:Value) (a:Int) (fs:List Int) (w:List Int) (hj:j<1000) (kU:pg.length=14) (hw:w.length=8) (hf:a7 σ fr (a::fs)):
 ah Tryz.prog 243 #[ptr c,wv w] σ [aw c (fM sb (leftOf j j) gen t0 t1 pg fr) 301] (aA fun v aj al=>v=.tuple #[i64 0,.bool false]∧σ=aj∧al=[aw c (fM sb (leftOf j j) gen t0 t1 pg fr) 301]):=by
 obtain⟨p,cc,rfl,tz,DG⟩:=hf.shape;obtain⟨g,o,rfl,hr⟩:=hf.at (k:=0) rfl;rw[Nat.zero_mul] at hr;have HO:=tB (sb:=sb) (left:=leftOf j j) (gen:=gen) (t0:=t0) (t1:=t1) (fr:=.slice (some ⟨g,o,none⟩) (a::fs).length cc) kU;simp only[bF] at HO⊢;(refine cw Tryz.func243 ?_;refine aU ?_;refine cP fun g3=>?_;refine iA ?_;refine yC (FT σ c sb j gen t0 t1 pg _ hj) ?_;refine bm ?_);exact ao.ret (aB.two rfl rfl rfl) zE ⟨rfl,rfl,rfl⟩
theorem HQ (σ:PH) (c sb db:Nat) (D:Int) (j:Nat) (gen t0 t1:Int) (pg:List Int) (fr:Value) (a:Int) (fs:List Int) (w:List Int) (s:eZ) (d:av) (hD:Kz D) (hj:j<1000) (ix:D≠(j:Int)) (kU:pg.length=14) (hw:w.length=8) (hf:a7 σ fr (a::fs)) (hlen:d.wait.length<1000000):
 ah Tryz.prog 243 #[ptr c,wv w] σ [aw c (fM sb (leftOf D j) gen t0 t1 pg fr) 301,aw sb (ptr db::s.cells) 265,bW db d] (aA fun v aj al=>∃qK,a7 σ qK fs∧v=.tuple #[i64 a,.bool true]∧σ=aj∧al=[aw c (fM sb (leftOf D (j+1)) gen t0 t1 pg qK) 301,aw sb (ptr db::s.cells) 265,bW db (d.write a w)]):=by
 obtain⟨p,cc,rfl,tz,DG⟩:=hf.shape;obtain⟨g,o,rfl,hr⟩:=hf.at (k:=0) rfl;rw[Nat.zero_mul] at hr;have n9:=hf.tail;simp only[bF] at n9⊢;have HO:=tB (sb:=sb) (left:=leftOf D j) (gen:=gen) (t0:=t0) (t1:=t1) (fr:=.slice (some ⟨g,o,none⟩) (fs.length+1) cc) kU;have abh:=tB (sb:=sb) (left:=leftOf D (j+1)) (gen:=gen) (t0:=t0) (t1:=t1) (fr:=.slice (some ⟨g,o,none⟩) (fs.length+1) cc) kU;(have iP:=fun qK=>Ax (sb:=sb) (left:=leftOf D (j+1)) (gen:=gen) (t0:=t0) (t1:=t1) (fr:=.slice (some ⟨g,o,none⟩) (fs.length+1) cc) kU qK);have fG:=qJ (sb:=sb) (left:=leftOf D (j+1)) (gen:=gen) (t0:=t0) (t1:=t1) (fr:=.slice (some ⟨g,o,none⟩) (fs.length+1) cc) kU;(have gf:19+Q6.size≤(fM sb (leftOf D (j+1)) gen t0 t1 pg (.slice (some ⟨g,o,none⟩) (fs.length+1) cc)).length:=by rw[fG];decide);(refine cw Tryz.func243 ?_;refine aU ?_;refine cP fun g3=>?_;refine iA ?_;refine yC (BH σ c sb D j gen t0 t1 pg _ hD hj ix) ?_;refine dB ?_);refine zO rfl (Rd.uC (ae rfl) rfl (ae rfl) rfl rfl rfl ad) ?_;refine a8 ?_;refine et 10 46683 [9] (ar.bB (R:=aw c _ _) zL (ar.bB (R:=aw sb _ _) zL (ar.bB (R:=aw g3 _ _) zL (ar.nil _)))) ?_;refine bt ?_;refine aP.b7 rfl rfl Gd.free aC (ax.cE (HK σ db d a w hw hlen) rfl) ?_;rintro _ _ _ ⟨_,⟨rfl,rfl,rfl⟩,rfl⟩;refine aP.cl ?_;refine aR ?_;exact ao.ret (aB.two rfl rfl rfl) zE ⟨_,n9,rfl,rfl,rfl⟩
structure cy where
 n:Int
 w:List Int
def cy.cells (x:cy):List Value:=i64 x.n::ints x.w
def pR:RT cy:=fun _ cs x=>cs=x.cells∧x.w.length=8
def mf (pg:List Int) (l:List cy) (free:List Int):Nat→List Int
 |0=>pg
 |k+1=>(mf pg l free k).set (l.getD k ⟨0,[]⟩).n.toNat (free.getD k 0)
def pS (d:av) (l:List cy) (free:List Int):Nat→av
 |0=>d
 |k+1=>(pS d l free k).write (free.getD k 0) (l.getD k ⟨0,[]⟩).w
theorem pU {pg:List Int} (l:List cy) (free:List Int) (h:pg.length=14):∀k,(mf pg l free k).length=14
 |0=>h
 |k+1=>by rw[mf,List.length_set];exact pU l free h k
theorem rZ (d:av) (a:Int) (w:List Int):(d.write a w).wait.length≤d.wait.length+1:=by
 unfold av.write;split<;>simp
theorem kG (d:av) (l:List cy) (free:List Int):∀k,(pS d l free k).wait.length≤d.wait.length+k
 |0=>bX _
 |k+1=>by have:=rZ (pS d l free k) (free.getD k 0) (l.getD k ⟨0,[]⟩).w;have:=kG d l free k;rw[pS];omega
theorem Ay (σ:PH) (c sb:Nat) (j:Nat) (gen t0 t1:Int) (pg:List Int) (fr:Value) (hj:j<1000):
 ah Tryz.prog 238 #[ptr c] σ [aw c (fM sb (leftOf j j) gen t0 t1 pg fr) 301] (aA fun v aj al=>v=.bool false∧σ=aj∧al=[aw c (fM sb (leftOf j j) gen t0 t1 pg fr) 301]):=by
 refine cM Tryz.func238 ?_;refine bt ?_;refine yC (FT σ c sb j gen t0 t1 pg _ hj) ?_;refine cp ?_;exact bC rfl rfl ⟨rfl,rfl,rfl⟩
theorem xO (σ:PH) (c sb db:Nat) (D:Int) (j:Nat) (gen t0 t1:Int) (pg:List Int) (fr:Value) (s:eZ) (d:av) (hD:Kz D) (hj:j<1000) (ix:D≠(j:Int)) (hlen:d.wait.length<1000000):
 ah Tryz.prog 238 #[ptr c] σ [aw c (fM sb (leftOf D j) gen t0 t1 pg fr) 301,aw sb (ptr db::s.cells) 265,bW db d] (aA fun v aj al=>v=.bool true∧σ=aj∧al=[aw c (fM sb (leftOf D (j+1)) gen t0 t1 pg fr) 301,aw sb (ptr db::s.cells) 265,bW db (d.settle fun _=>true)]):=by
 refine cM Tryz.func238 ?_;refine bt ?_;refine yC (BH σ c sb D j gen t0 t1 pg _ hD hj ix) ?_;refine dh ?_;refine yC (PB σ db d hlen) ?_;refine bJ ?_;exact bC rfl rfl ⟨rfl,rfl,rfl⟩
theorem PD (σ:PH) (c sb db:Nat) (D:Int) (gen t0 t1:Int) (pg:List Int) (fr:Value) (s:eZ) (d:av) (sl:Value) (l:List cy) (free:List Int) (hD:Kz D) (kU:pg.length=14) (hf:a7 σ fr free) (hl:bV 9 pR σ sl l) (hn:∀x∈l,0≤x.n∧x.n<14) (wC:l.length≤free.length) (BA:l.length≤100) (hlen:d.wait.length<1000):
 ah Tryz.prog 236 #[ptr c,sl] σ [aw c (fM sb (leftOf D 0) gen t0 t1 pg fr) 301,aw sb (ptr db::s.cells) 265,bW db d]
  (aA fun v aj al=>∃(k:Nat) (qK:Value),k≤l.length∧v=.bool (decide (k=l.length))∧(k<l.length→D=k)∧(∀i:Nat,i<k→D≠(i:Int))∧a7 σ qK (free.drop k)∧σ=aj∧al=[aw c (fM sb (leftOf D k) gen t0 t1 (mf pg l free k) qK) 301,aw sb (ptr db::s.cells) 265,bW db (pS d l free k)]):=by
 obtain⟨pl,cl,rfl,hle,Hd⟩:=hl.shape;(refine cw Tryz.func236 ?_;refine eA ?_;refine XA.gen [(0,_),(4,_),(9,_),(10,_),(11,_)] iX fun δ=>?_);dsimp only[List.foldl];refine XA.loop [(4,4),(6,8),(11,32)] (fun k:Nat=>[(11,i64 k)]) (fun k aj al=>σ=aj∧k≤l.length∧(∀i:Nat,i<k→D≠(i:Int))∧∃qK,a7 σ qK (free.drop k)∧al=[aw c (fM sb (leftOf D k) gen t0 t1 (mf pg l free k) qK) 301,aw sb (ptr db::s.cells) 265,bW db (pS d l free k)]) (fun k=>l.length-k) 0 eb (Δ0:=_) ?_ (⟨rfl,cg _,fun i h=>absurd h (Nat.not_lt_zero _),fr,hf,rfl⟩) ?_
 ·exact zE
 rintro k δ _ _ ⟨rfl,hk,wY,qK,FU,rfl⟩;dsimp only[dq,List.foldl];refine a8 ?_;refine XA.bE rfl (fun aV=>?_) (fun aV=>?_)
 ·(have aV:k<l.length:=by omega);obtain⟨x,hx⟩:∃x,l[k]? =some x:=⟨_,b9 aV⟩;obtain⟨a,ha⟩:∃a,free[k]? =some a:=⟨_,b9 ad⟩;obtain⟨g,o,row,rfl,⟨rfl,Tc⟩,mZ,bG⟩:=hl.at hx;have Rb:=hn x (fg hx);(have O6:l.getD k ⟨0,[]⟩=x:=by rw[ey,hx];rfl);(have Vu:free.getD k 0=a:=by rw[ey,ha];rfl);have hw:=kG d l free k;have HM:=pU l free kU k;rw[xi ha] at FU;(have e1:mf pg l free (k+1)=(mf pg l free k).set x.n.toNat a:=by rw[mf,O6,Vu]);(have e2:pS d l free (k+1)=(pS d l free k).write a x.w:=by rw[pS,O6,Vu]);obtain⟨xn,xw⟩:=x;simp only at Tc Rb e1 e2;obtain⟨n,rfl⟩:∃n:Nat,xn=n:=Int.eq_ofNat_of_zero_le Rb.1;rw[Int.toNat_natCast] at e1;(have abi:n<14:=by omega);unfold cy.cells at bG mZ;simp only at bG mZ;have jd:dT (i64 (n:Int)::ints xw):=fO rfl (ei _);have DH:((i64 (n:Int)::ints xw).drop 1).take 8=ints xw:=Bg (us:=ints xw) (by simpa using Tc);have BB:(i64 (n:Int)::ints xw)[0]? =some (i64 (n:Int)):=rfl;refine bJ ?_;refine di (fun g6=>?_) (ae rfl);refine bJ ?_;by_cases PE:D=(k:Int)
  ·subst PE;refine yC (LZ σ c sb k gen t0 t1 (mf pg l free k) qK a (free.drop (k+1)) xw ad HM Tc FU) ?_;refine zi ?_;rw[←xi ha] at FU;exact bC rfl rfl ⟨k,qK,hk,congrArg Value.bool (aE ad).symm,fun _=>rfl,wY,FU,rfl,rfl⟩
  ·refine zw rfl (ax.cE (HQ σ c sb db D k gen t0 t1 (mf pg l free k) qK a (free.drop (k+1)) xw s (pS d l free k) hD ad PE HM Tc FU ad) rfl) ?_;rintro _ _ _ ⟨_,⟨PF,Jv,rfl,rfl,rfl⟩,rfl⟩;refine az.cl ?_;(have iP:=fun y=>LY (sb:=sb) (left:=leftOf D (k+1)) (gen:=gen) (t0:=t0) (t1:=t1) (pg:=mf pg l free k) (fr:=PF) HM abi y);(have gf:5+n+OW.size≤(fM sb (leftOf D (k+1)) gen t0 t1 (mf pg l free k) PF).length:=by rw[qJ HM];show 5+n+1≤20;omega);refine dV ?_;refine et 9 13131 [8] (ar.bB (R:=aw g6 _ _) zL (ar.nil _)) ?_;refine bJ ?_;refine kS rfl (ax.st (ae rfl) rfl) ?_;refine bJ ?_
   have eR:∀i:Nat,i<k+1→D≠(i:Int):=fun i hi=>by
    rcases Nat.lt_or_ge i k with h|h
    ·exact wY i h
    ·(have:i=k:=by omega);subst this;exact PE
   refine⟨bQ,k+1,_,zM,?_,⟨rfl,aV,eR,PF,Jv,rfl⟩,ad⟩
   ·rw[e1,e2];exact zE
 (have sC:k=l.length:=by omega);subst sC;refine cp ?_;exact bC rfl rfl ⟨l.length,qK,bX _,congrArg Value.bool (aM rfl).symm,fun h=>absurd h (Nat.lt_irrefl _),wY,FU,rfl,rfl⟩
def rk (pg:List Int) (i k:Nat):List Int:=(List.range 8).map fun q=>if q<k∧i*8+q<14 then pg.getD (i*8+q) 0 else 0
def tw (pg:List Int) (i:Nat):List Int:=rk pg i 8
theorem xP (pg:List Int) (i k:Nat):(rk pg i k).length=8:=by simp[rk]
theorem Jw (pg:List Int) (i:Nat):rk pg i 0=[0,0,0,0,0,0,0,0]:=by simp[rk];rfl
theorem Jx (pg:List Int) (i:Nat) {k:Nat} (hk:k<8) (h:i*8+k<14):rk pg i (k+1)=(rk pg i k).set k (pg.getD (i*8+k) 0):=by
 apply List.ext_getElem (by simp[rk]);intro p h1 h2;simp only[rk,List.getElem_map,List.getElem_range,List.getElem_set];by_cases e:k=p
 ·subst e;rw[aq ⟨ad,h⟩,aq rfl]
 ·rw[ag e];by_cases hp:p<k∧i*8+p<14
  ·rw[aq ⟨ad,hp.2⟩,aq hp]
  ·rw[ag (fun h=>hp ⟨ad,h.2⟩),ag hp]
theorem Jy (pg:List Int) (i:Nat) {k:Nat} (h:¬i*8+k<14):rk pg i (k+1)=rk pg i k:=by
 apply List.map_congr_left;intro p _;by_cases hp:p<k∧i*8+p<14
 ·rw[aq hp,aq ⟨ad,hp.2⟩]
 ·rw[ag hp,ag (fun h2=>hp ⟨ad,h2.2⟩)]
theorem DI {l:List Int} {k:Nat} (hk:k<l.length) (x:Int):aQ (ints l) k [i64 x]=ints (l.set k x):=by
 rw[me _ _ _ (by simpa using hk),ints_set]
def T0 (t0 a0:Int) (i:Nat):Int:=if 0<i then a0 else t0
def T1 (t1 a1:Int) (i:Nat):Int:=if 1<i then a1 else t1
def tC (pg:List Int):List cy:=[⟨0,tw pg 0⟩,⟨0,tw pg 1⟩]
theorem L2 {sb:Nat} {left gen t0 t1 a0 a1:Int} {pg:List Int} {fr:Value} {i:Nat} (hi:i<2):aQ (fM sb left gen (T0 t0 a0 i) (T1 t1 a1 i) pg fr) (3+i) [i64 (([a0,a1]:List Int).getD i 0)]=fM sb left gen (T0 t0 a0 (i+1)) (T1 t1 a1 (i+1)) pg fr:=by
 rcases (show i=0∨i=1 by omega) with rfl|rfl<;>rfl
theorem PG (σ:PH) (c sb db:Nat) (D:Int) (j:Nat) (gen t0 t1:Int) (pg:List Int) (fr:Value) (s:eZ) (d:av) (a0 a1:Int) (free:List Int) (hD:Kz D) (hj:j<900) (kU:pg.length=14) (hf:a7 σ fr (a0::a1::free)) (hlen:d.wait.length<1000):
 ah Tryz.prog 237 #[ptr c] σ [aw c (fM sb (leftOf D j) gen t0 t1 pg fr) 301,aw sb (ptr db::s.cells) 265,bW db d]
  (aA fun v aj al=>∃(k:Nat) (qK:Value),k≤2∧v=.bool (decide (k=2))∧(k<2→D=(j+k:Nat))∧(∀i:Nat,i<k→D≠((j+i:Nat):Int))∧a7 σ qK ((a0::a1::free).drop k)∧σ=aj∧al=[aw c (fM sb (leftOf D (j+k)) gen (T0 t0 a0 k) (T1 t1 a1 k) pg qK) 301,aw sb (ptr db::s.cells) 265,bW db (pS d (tC pg) (a0::a1::free) k)]):=by
 (refine cM Tryz.func237 ?_;refine bm ?_;refine XA.gen [(0,_),(2,_),(9,_)] iX fun δ=>?_);dsimp only[List.foldl];refine XA.loop [(2,46)] (fun i:Nat=>[(9,i64 i)]) (fun i aj al=>σ=aj∧i≤2∧(∀q:Nat,q<i→D≠((j+q:Nat):Int))∧∃qK,a7 σ qK ((a0::a1::free).drop i)∧al=[aw c (fM sb (leftOf D (j+i)) gen (T0 t0 a0 i) (T1 t1 a1 i) pg qK) 301,aw sb (ptr db::s.cells) 265,bW db (pS d (tC pg) (a0::a1::free) i)]) (fun i=>2-i) 0 eb (Δ0:=_) ?_ (⟨rfl,au,fun i h=>absurd h (Nat.not_lt_zero _),fr,hf,rfl⟩) ?_
 ·exact zE
 rintro i δ _ _ ⟨rfl,hi,wY,qK,FU,rfl⟩;dsimp only[dq,List.foldl];refine a8 ?_;refine XA.bE rfl (fun aV=>?_) (fun aV=>?_)
 ·(have aV:i<2:=by omega);obtain⟨a,Rt⟩:∃a,a=([a0,a1]:List Int).getD i 0:=⟨_,rfl⟩;have ha:(a0::a1::free)[i]? =some a:=by subst Rt;rcases (show i=0∨i=1 by omega) with rfl|rfl<;>rfl
  have e2:pS d (tC pg) (a0::a1::free) (i+1)=(pS d (tC pg) (a0::a1::free) i).write a (tw pg i):=by
   subst Rt;rcases (show i=0∨i=1 by omega) with rfl|rfl<;>rfl
  have hw:=kG d (tC pg) (a0::a1::free) i;refine bm ?_;refine di (fun g4=>?_) (ae rfl);refine bt ?_;refine XA.loop [(5,6),(12,30)] (fun k:Nat=>[(12,i64 k)]) (fun k aj al=>σ=aj∧k≤8∧al=[aw g4 (ints (rk pg i k)) 221,aw c (fM sb (leftOf D (j+i)) gen (T0 t0 a0 i) (T1 t1 a1 i) pg qK) 301,aw sb (ptr db::s.cells) 265,bW db (pS d (tC pg) (a0::a1::free) i)]) (fun k=>8-k) 0 eb (Δ0:=_) ?_ (⟨rfl,au,rfl⟩) ?_
  ·rw[Jw];exact zE
  rintro k Dc _ _ ⟨rfl,hk,rfl⟩;dsimp only[dq,List.foldl];refine a8 ?_;refine XA.bE rfl (fun rj=>?_) (fun rj=>?_)
  ·(have rj:k<8:=by omega);have E8:=xP pg i k;refine dB ?_;refine zO rfl (Rd.VR (c:=((i*8:Nat):Int)) rfl rfl ad ad) ?_;refine bS ?_;refine zO rfl (Rd.Sm (c:=((i*8+k:Nat):Int)) rfl rfl ad ad) ?_;refine bt ?_;refine XA.bE rfl (fun hp=>?_) (fun hp=>?_)
   ·(have hp:i*8+k<14:=by omega);have Rh:=LX (sb:=sb) (left:=leftOf D (j+i)) (gen:=gen) (t0:=T0 t0 a0 i) (t1:=T1 t1 a1 i) (fr:=qK) (pg:=pg) (k:=i*8+k) ad;(have iP:=fun x=>DI (l:=rk pg i k) (k:=k) ad x);(have gf:k+Sy.size≤(ints (rk pg i k)).length:=by rw[dz,E8];show k+1≤8;omega);refine iA ?_;refine⟨bQ,k+1,_,zM,?_,⟨rfl,rj,rfl⟩,ad⟩
    ·rw[Jx pg i rj hp];exact zE
   ·(have hp:¬i*8+k<14:=by omega);refine bJ ?_;refine⟨bQ,k+1,_,zM,?_,⟨rfl,rj,rfl⟩,ad⟩
    ·rw[Jy pg i hp];exact zE
  (have Ov:k=8:=by omega);subst Ov;have Vs:(tw pg i).length=8:=xP pg i 8;rw[xi ha] at FU;rw[show rk pg i 8=tw pg i from rfl];refine bt ?_;by_cases PE:D=((j+i:Nat):Int)
  ·subst PE;refine yC (LZ σ c sb (j+i) gen _ _ pg qK a ((a0::a1::free).drop (i+1)) (tw pg i) ad kU Vs FU) ?_;refine zi ?_;rw[←xi ha] at FU;exact bC rfl rfl ⟨i,qK,hi,congrArg Value.bool (aE ad).symm,fun _=>rfl,wY,FU,rfl,rfl⟩
  ·refine zw rfl (ax.cE (HQ σ c sb db D (j+i) gen _ _ pg qK a ((a0::a1::free).drop (i+1)) (tw pg i) s (pS d (tC pg) (a0::a1::free) i) hD ad PE kU Vs FU ad) rfl) ?_;rintro _ _ _ ⟨_,⟨PF,Jv,rfl,rfl,rfl⟩,rfl⟩;refine az.cl ?_;have iP:=L2 (sb:=sb) (left:=leftOf D (j+i+1)) (gen:=gen) (t0:=t0) (t1:=t1) (a0:=a0) (a1:=a1) (pg:=pg) (fr:=PF) aV;rw[←Rt] at iP;(have gf:3+i+OW.size≤(fM sb (leftOf D (j+i+1)) gen (T0 t0 a0 i) (T1 t1 a1 i) pg PF).length:=by rw[qJ kU];show 3+i+1≤20;omega);clear Rt;refine SD ?_
   have eR:∀q:Nat,q<i+1→D≠((j+q:Nat):Int):=fun q hq=>by
    rcases Nat.lt_or_ge q i with h|h
    ·exact wY q h
    ·(have:q=i:=by omega);subst this;exact PE
   refine⟨bQ,i+1,_,zM,?_,⟨rfl,aV,eR,PF,Jv,rfl⟩,ad⟩
   ·rw[e2];exact zE
 (have vC:i=2:=by omega);subst vC;refine cp ?_;exact bC rfl rfl ⟨2,qK,bX _,congrArg Value.bool (aM rfl).symm,fun h=>absurd h (Nat.lt_irrefl _),wY,FU,rfl,rfl⟩
def jL (g t0 t1:Int):List Int:=[g,t0,t1,0,0,0,0,0]
theorem L3 (σ:PH) (c sb:Nat) (j:Nat) (gen t0 t1:Int) (pg:List Int) (fr:Value) (hj:j<1000):
 ah Tryz.prog 239 #[ptr c] σ [aw c (fM sb (leftOf j j) gen t0 t1 pg fr) 301] (aA fun v aj al=>v=.bool false∧σ=aj∧al=[aw c (fM sb (leftOf j j) gen t0 t1 pg fr) 301]):=by
 refine cM Tryz.func239 ?_;refine bt ?_;refine yC (FT σ c sb j gen t0 t1 pg _ hj) ?_;refine cp ?_;exact bC rfl rfl ⟨rfl,rfl,rfl⟩
theorem Jz (σ:PH) (c sb db:Nat) (D:Int) (j:Nat) (gen t0 t1:Int) (pg:List Int) (fr:Value) (s:eZ) (d:av) (hD:Kz D) (hj:j<1000) (ix:D≠(j:Int)) (hg:0≤gen) (hlen:d.wait.length<1000000):
 ah Tryz.prog 239 #[ptr c] σ [aw c (fM sb (leftOf D j) gen t0 t1 pg fr) 301,aw sb (ptr db::s.cells) 265,bW db d] (aA fun v aj al=>v=.bool true∧σ=aj∧al=[aw c (fM sb (leftOf D (j+1)) gen t0 t1 pg fr) 301,aw sb (ptr db::s.cells) 265,bW db (d.write (gen%2) (jL gen t0 t1))]):=by
 refine cM Tryz.func239 ?_;refine bt ?_;refine yC (BH σ c sb D j gen t0 t1 pg _ hD hj ix) ?_;refine dB ?_;refine zO rfl (Rd.WV (fun _ _=>ae) rfl rfl rfl) ?_;refine di (fun g3=>?_) (ae rfl);refine dh ?_;refine XA.ij 3 ?_;refine nr.succ ?_;refine eA ?_;refine zO rfl (Rd.WU rfl rfl) ?_;refine lR ?_;refine nr.succ ?_;refine eA ?_;refine zO rfl (Rd.WU rfl rfl) ?_;refine lR ?_;refine nr.succ ?_;refine dB ?_;refine et 15 11338164 [14] (ar.bB (R:=aw c _ _) zL (ar.bB (R:=aw sb _ _) zL (ar.bB (R:=aw g3 _ _) zL (ar.nil _)))) ?_;refine bm ?_;refine zu rfl rfl (Rd.KN (c:=gen%2) rfl rfl au (by rw[Int.tmod_eq_emod_of_nonneg hg])) ?_;refine bS ?_;refine aP.b7 rfl rfl Gd.free aC (ax.cE (HK σ db d (gen%2) (jL gen t0 t1) rfl hlen) rfl) ?_;rintro _ _ _ ⟨_,⟨rfl,rfl,rfl⟩,rfl⟩;refine aP.cl ?_;refine bJ ?_;exact bC rfl rfl ⟨rfl,rfl,rfl⟩
theorem Td (σ:PH) (sb db:Nat) (g t0 t1:Int) (pg:List Int) (kU:pg.length=14):
 ah Tryz.prog 234 #[.pointer (some ⟨sb,1,none⟩)] σ [aw sb (ptr db::i64 g::i64 t0::i64 t1::ints pg) 265] (aA fun v aj al=>∃p c,v=.slice p 16 c∧σ=aj∧al=[aS 3 1 (.slice p 16 c) 16 (ints (t0::t1::pg)),aw sb (ptr db::i64 g::i64 t0::i64 t1::ints pg) 265]):=by
 have hx:∀Γ al (j:Nat) u,dm Γ (aw sb (ptr db::i64 g::i64 t0::i64 t1::ints pg) 265) al→[i64 t0,i64 t1][j]? =some u→∃g0 o0,some (⟨sb,2,none⟩:Addr)=some ⟨g0,o0,none⟩∧sQ (Ho σ Γ) g0 (o0+j) u:=fun Γ al j u s hu=>by
  refine⟨sb,2,rfl,sQ.aw s ?_⟩
  match j,hu with
  |0,hu=>exact hu
  |1,hu=>exact hu
 (have wo:(ints pg).length=14*1:=by simpa using kU);(have bG:∀Γ al,dm Γ (aw sb (ptr db::i64 g::i64 t0::i64 t1::ints pg) 265) al→At (Ho σ Γ) sb 4 (ints pg):=fun Γ al s=>At.aw s (Bg rfl));refine cM Tryz.func234 ?_;refine a8 ?_;refine et 10 13122 [8] (ar.bB (R:=aw sb _ _) zL (ar.nil _)) ?_;refine cx ?_;refine zu rfl rfl Rc ?_;refine cx ?_;refine zu rfl rfl Rc ?_;refine aP.b7 rfl rfl Gd.free aC (ax.og (ae rfl) rfl (ae rfl) rfl rfl rfl (fun j u hu=>hx _ _ j u zL hu) (fun h=>by cases h) rfl (bG _ _ zL) wo (ei _) au au au) ?_;rintro _ _ _ ⟨p11,c11,rfl,rfl,rfl⟩;refine bY ?_;exact bC rfl rfl ⟨p11,c11,rfl,rfl,rfl⟩
theorem PI (σ:PH) (v:Value) (xs:List Int) (x:Int) (hv:a7 σ v xs):ah Tryz.prog 242 #[v,i64 x] σ [] (aA fun r aj al=>∃k:Int,r=i64 k∧(0≤k↔x∈xs)∧σ=aj∧al=[]):=by
 obtain⟨p,c,rfl,hle,Hd⟩:=hv.shape;(have hlen:xs.length≤maxLen:=by omega);simp only[maxLen] at hlen;(refine cw Tryz.func242 ?_;refine eA ?_;refine XA.gen [(0,_),(1,_),(4,_),(7,_),(8,_)] iX fun δ=>?_);dsimp only[List.foldl];refine XA.loop [(4,5),(8,18)] (fun k:Nat=>[(8,i64 k)]) (fun k aj al=>σ=aj∧k≤xs.length∧x∉xs.take k∧al=[]) (fun k=>xs.length-k) 0 eb (Δ0:=_) ?_ (⟨rfl,cg _,aZ,rfl⟩) ?_
 ·exact zE
 rintro k δ _ _ ⟨rfl,hk,bu,rfl⟩;dsimp only[dq,List.foldl];refine a8 ?_;refine XA.bE rfl (fun aV=>?_) (fun aV=>?_)
 ·(have aV:k<xs.length:=by omega);obtain⟨y,hy⟩:∃y,xs[k]? =some y:=⟨_,b9 aV⟩;obtain⟨g,o,rfl,hr⟩:=hv.at hy;rw[Nat.mul_one] at hr;refine mI ?_;refine XA.bE rfl (fun he=>?_) (fun he=>?_)
  ·refine bm ?_;exact bC rfl rfl ⟨(k:Int),rfl,⟨fun _=>he▸fg hy,fun _=>by omega⟩,rfl,rfl⟩
  (have eR:x∉xs.take (k+1):=by rw[Ac hy];simp only[List.mem_append,List.mem_singleton,not_or];exact⟨bu,he⟩);refine bJ ?_;refine⟨bQ,k+1,_,zM,?_,⟨rfl,aV,eR,rfl⟩,ad⟩
  ·exact zE
 (have sC:k=xs.length:=by omega);subst sC;rw[List.take_length] at bu;refine cp ?_;exact bC rfl rfl ⟨-1,rfl,⟨fun h=>absurd h au,fun h=>absurd h bu⟩,rfl,rfl⟩
theorem FV (σ:PH) (v:Value) (xs:List Int) (x:Int) (hv:a7 σ v xs):ah Tryz.prog 235 #[v,i64 x] σ [] (aA fun r aj al=>r=.bool (decide (x∈xs))∧σ=aj∧al=[]):=by
 refine cw Tryz.func235 ?_;refine bt ?_;refine zw rfl (ax.cE (PI σ v xs x hv) rfl) ?_;rintro _ _ _ ⟨_,⟨k,rfl,hk,rfl,rfl⟩,rfl⟩;refine az.cl ?_;refine dc ?_;exact bC rfl rfl ⟨congrArg Value.bool (decide_eq_decide.2 hk),rfl,rfl⟩
def lx (seen:List cy):List cy→Int
 |[]=>0
 |p::l=>if ¬(0≤p.n∧p.n<14) then 1 else if ∃q∈seen,q.n=p.n then 9 else lx (seen++[p]) l
def uS (l:List cy):Int:=lx [] l
theorem X.bV.Xw {α:Type} {s n c k:Nat} {R:RT α} {σ:PH} {p:Option Addr} {xs:List α} (h:bV s R σ (.slice p n c) xs) (hk:k≤n):bV s R σ (.slice p k c) (xs.take k):=by
 obtain⟨p',c',rows,h1,h2,h3,h4,h5,h6,h7⟩:=h;simp only[Value.slice.injEq] at h1;obtain⟨rfl,rfl,rfl⟩:=h1;(have hl:(xs.take k).length=k:=by rw[List.length_take];exact Nat.min_eq_left hk);refine⟨p,c,rows.take k,by rw[hl],ad,h3,by rw[hl,List.length_take];omega,fun r hr=>h5 r (List.mem_of_mem_take hr),fun i row x a b=>?_,fun hp=>?_⟩
 ·rw[List.getElem?_take] at a b;split at a
  ·rename_i hi;rw[aq hi] at b;exact h6 i row x a b
  ·cases a
 ·obtain⟨g,o,e,hr⟩:=h7 ad;refine⟨g,o,e,?_⟩
  have:=hr.sub (j:=0) (us:=(rows.take k).flatten) (by
   (have e:rows.flatten=(rows.take k).flatten++(rows.drop k).flatten:=by rw[←List.flatten_append,List.take_append_drop]);rw[List.drop_zero,e]
   exact List.take_left)
  simpa using this
theorem Te (σ:PH) (g:Nat) (x y:cy) (hy:y.w.length=8):ah Tryz.prog 241 #[.agg y.cells.toArray,ptr g] σ [aw g x.cells 292] (aA fun r aj al=>r=.bool (decide (y.n=x.n))∧σ=aj∧al=[aw g x.cells 292]):=by
 obtain⟨xn,xw⟩:=x;obtain⟨yn,yw⟩:=y;unfold cy.cells;(refine cw Tryz.func241 ?_;refine aU ?_;refine cP fun g2=>?_;refine eA ?_);exact bC rfl rfl ⟨rfl,rfl,rfl⟩
theorem JA (σ:PH) (g:Nat) (v:cy) (sl:Value) (l:List cy) (hl:bV 9 pR σ sl l):ah Tryz.prog 247 #[sl,.func (.func 241) #[] #[ptr g]] σ [aw g v.cells 292] (aA fun r aj al=>∃k:Int,r=i64 k∧(0≤k↔∃w∈l,w.n=v.n)∧σ=aj∧al=[aw g v.cells 292]):=by
 obtain⟨pl,cl,rfl,hle,Hd⟩:=hl.shape;(have hlen:l.length≤maxLen:=by omega);simp only[maxLen] at hlen;(refine cw Tryz.func247 ?_;refine eA ?_;refine XA.gen [(0,_),(1,_),(4,_),(7,_),(8,_)] iX fun δ=>?_);dsimp only[List.foldl];refine XA.loop [(4,5),(8,18)] (fun k:Nat=>[(8,i64 k)]) (fun k aj al=>σ=aj∧k≤l.length∧(∀(j:Nat) w,j<k→l[j]? =some w→w.n≠v.n)∧al=[aw g v.cells 292]) (fun k=>l.length-k) 0 eb (Δ0:=_) ?_ (⟨rfl,cg _,fun j w h=>absurd h (Nat.not_lt_zero _),rfl⟩) ?_
 ·exact zE
 rintro k δ _ _ ⟨rfl,hk,bu,rfl⟩;dsimp only[dq,List.foldl];refine a8 ?_;refine XA.bE rfl (fun aV=>?_) (fun aV=>?_)
 ·(have aV:k<l.length:=by omega);obtain⟨x',lF⟩:∃x',l[k]? =some x':=⟨_,b9 aV⟩;obtain⟨gg,o,row,rfl,⟨rfl,Tc⟩,mZ,bG⟩:=hl.at lF;refine dV ?_;refine zw rfl (ax.cV (first:=[]) (cap:=[ptr g]) rfl (Te σ g v x' Tc) rfl) ?_;rintro _ _ _ ⟨_,⟨rfl,rfl,rfl⟩,rfl⟩;refine az.cl ?_;refine aU ?_;refine XA.bE rfl (fun hc=>?_) (fun hc=>?_)
  ·refine bm ?_;exact bC rfl rfl ⟨(k:Int),rfl,⟨fun _=>⟨x',fg lF,hc⟩,fun _=>by omega⟩,rfl,rfl⟩
  ·have eR:∀(j:Nat) w,j<k+1→l[j]? =some w→w.n≠v.n:=fun j w hj hw=>by
    rcases Nat.lt_or_ge j k with h|h
    ·exact bu j w h hw
    ·(have:j=k:=by omega);subst this;rw[lF] at hw;simp only[Option.some.injEq] at hw;subst hw;exact hc
   refine bJ ?_;refine⟨bQ,k+1,_,zM,?_,⟨rfl,aV,eR,rfl⟩,ad⟩
   ·exact zE
 (have sC:k=l.length:=by omega);subst sC;refine cp ?_;refine bC rfl rfl ⟨-1,rfl,⟨fun h=>absurd h au,fun⟨w,hw,e⟩=>?_⟩,rfl,rfl⟩;obtain⟨j,hj,e2⟩:=List.mem_iff_getElem.1 hw;exact absurd e (bu j w hj (by rw[b9 hj,e2]))
theorem BI (σ:PH) (g:Nat) (v:cy) (sl:Value) (l:List cy) (hl:bV 9 pR σ sl l):ah Tryz.prog 240 #[sl,.func (.func 241) #[] #[ptr g]] σ [aw g v.cells 292] (aA fun r aj al=>r=.bool (decide (∃w∈l,w.n=v.n))∧σ=aj∧al=[aw g v.cells 292]):=by
 refine cw Tryz.func240 ?_;refine bt ?_;refine zw rfl (ax.cE (JA σ g v sl l hl) rfl) ?_;rintro _ _ _ ⟨_,⟨k,rfl,hk,rfl,rfl⟩,rfl⟩;refine az.cl ?_;refine dc ?_;exact bC rfl rfl ⟨congrArg Value.bool (decide_eq_decide.2 hk),rfl,rfl⟩
theorem cy.dT {x:cy}:X.dT x.cells:=fO rfl (ei _)
theorem L4 (σ:PH) (sl:Value) (l:List cy) (hl:bV 9 pR σ sl l):ah Tryz.prog 233 #[sl] σ [] (aA fun v aj al=>v=i64 (uS l)∧σ=aj∧al=[]):=by
 obtain⟨pl,cl,rfl,hle,Hd⟩:=hl.shape;(have hlen:l.length≤maxLen:=by omega);simp only[maxLen] at hlen;(refine cM Tryz.func233 ?_;refine eA ?_;refine XA.gen [(0,_),(2,_),(5,_),(6,_),(7,_)] iX fun δ=>?_);dsimp only[List.foldl];refine XA.loop [(2,4),(7,21)] (fun k:Nat=>[(7,i64 k)]) (fun k aj al=>σ=aj∧k≤l.length∧lx (l.take k) (l.drop k)=uS l∧al=[]) (fun k=>l.length-k) 0 eb (Δ0:=_) ?_ (⟨rfl,cg _,rfl,rfl⟩) ?_
 ·exact zE
 rintro k δ _ _ ⟨rfl,hk,jC,rfl⟩;dsimp only[dq,List.foldl];refine a8 ?_;refine XA.bE rfl (fun aV=>?_) (fun aV=>?_)
 ·(have aV:k<l.length:=by omega);obtain⟨x,hx⟩:∃x,l[k]? =some x:=⟨_,b9 aV⟩;obtain⟨gg,o,row,rfl,⟨rfl,Tc⟩,mZ,bG⟩:=hl.at hx;have SL:=hl.Xw (k:=k) hk;have jd:dT x.cells:=cy.dT;rw[xi hx,lx] at jC;have BB:x.cells[0]? =some (i64 x.n):=rfl;refine bt ?_;refine di (fun g4=>?_) (ae rfl);refine bt ?_;refine yC (FQ σ x.n) ?_;by_cases j3:0≤x.n∧x.n<14
  ·rw[ag (fun h=>h j3)] at jC;rw[aM j3];refine aR ?_;refine zO rfl (Rd.sS (ae rfl) rfl (ae rfl) rfl rfl ad) ?_;refine zO rfl (Rd.nw xl) ?_;refine yC (BI σ g4 x _ _ SL) ?_;refine aU ?_;refine XA.bE rfl (fun Oo=>?_) (fun Oo=>?_)
   ·rw[aq Oo] at jC;refine cp ?_;exact bC rfl rfl ⟨by rw[←jC],rfl,rfl⟩
   rw[ag Oo] at jC;refine bJ ?_;refine⟨bQ,k+1,_,zM,?_,⟨rfl,aV,by rw[Ac hx];exact jC,rfl⟩,ad⟩
   ·exact zE
  ·rw[aq j3] at jC;rw[aE j3];refine dC ?_;exact bC rfl rfl ⟨by rw[←jC],rfl,rfl⟩
 (have sC:k=l.length:=by omega);subst sC;rw[List.drop_length,lx] at jC;refine cp ?_;exact bC rfl rfl ⟨by rw[←jC],rfl,rfl⟩
def eJ (u:List Int) (k:Nat):List Int:=((List.range k).map fun i=>((i+2:Nat):Int)).filter fun a=>decide (a∉u)
def eE (s:eZ):List Int:=eJ (s.t++s.pg) 32
theorem vD (u:List Int) (k:Nat):eJ u (k+1)=eJ u k++(if ((k+2:Nat):Int)∈u then [] else [((k+2:Nat):Int)]):=by
 unfold eJ;rw[List.range_succ,List.map_append,List.filter_append];congr 1;by_cases h:((k+2:Nat):Int)∈u
 ·simp only[List.map_cons,List.map_nil,List.filter_cons];rw[ag (by simpa using h),aq h];rfl
 ·simp only[List.map_cons,List.map_nil,List.filter_cons];rw[aq (by simpa using h),ag h];rfl
theorem xQ {α:Type} [DecidableEq α]:∀{l m:List α},l.Nodup→(∀x∈l,x∈m)→l.length≤m.length
 |[],_,_,_=>cg _
 |a::l,m,hn,h=>by
  obtain⟨h1,h2⟩:=List.nodup_cons.1 hn;have ha:=h a aZ;have:=xQ (l:=l) (m:=m.erase a) h2 (fun x hx=>(List.mem_erase_of_ne (fun e=>h1 (by subst e;exact hx))).2 (h x (by simp[hx])));rw[List.length_erase_of_mem ha] at this;have:0<m.length:=List.length_pos_of_mem ha;simp only[bF];omega
theorem xR {α:Type} (p:α→Bool):∀l:List α,(l.filter p).length+(l.filter fun a=>!p a).length=l.length
 |[]=>rfl
 |a::l=>by
  have:=xR p l;by_cases h:p a=true
  ·simp[List.filter_cons,h];omega
  ·(have h:p a=false:=by simpa using h);simp[List.filter_cons,h];omega
theorem xS (k:Nat):((List.range k).map fun i=>((i+2:Nat):Int)).Nodup:=by
 refine List.Pairwise.map _ (fun a b h=>?_) List.nodup_range;omega
theorem BJ (u:List Int) (k:Nat):(eJ u k).Nodup:=(xS k).filter _
theorem FW {u:List Int} {k:Nat} {a:Int} (h:a∈eJ u k):2≤a∧a<k+2∧a∉u:=by
 simp only[eJ,List.mem_filter,List.mem_map,List.mem_range,decide_eq_true_eq] at h;obtain⟨⟨i,h1,rfl⟩,h2⟩:=h;exact⟨ad,ad,h2⟩
theorem xT (u:List Int) (k:Nat):k≤(eJ u k).length+u.length:=by
 have h1:=xR (fun a=>decide (a∉u)) ((List.range k).map fun i=>((i+2:Nat):Int))
 have h2:(((List.range k).map fun i=>((i+2:Nat):Int)).filter fun a=>!decide (a∉u)).length≤u.length:=by
  refine xQ ((xS k).filter _) (fun x hx=>?_);simp only[List.mem_filter] at hx;simpa using hx.2
 simp only[List.length_map,List.length_range] at h1;show k≤(List.filter _ _).length+u.length;omega
theorem JB (u:List Int) (k:Nat):(eJ u k).length≤k:=by
 unfold eJ;exact Nat.le_trans (List.length_filter_le _ _) aZ
theorem tD:∀(l seen:List cy),lx seen l=0→(∀x∈l,0≤x.n∧x.n<14)∧(l.map (·.n)).Nodup∧∀x∈l,∀y∈seen,y.n≠x.n
 |[],_,_=>⟨aZ,aZ,aZ⟩
 |p::l,seen,h=>by
  rw[lx] at h;split at h
  ·cases h
  ·rename_i h1;split at h
   ·cases h
   ·rename_i h2;obtain⟨h3,h4,h5⟩:=tD l _ h;have h1:=Decidable.not_not.1 h1;refine⟨fun x hx=>?_,?_,fun x hx y hy e=>?_⟩
    ·simp only[List.mem_cons] at hx;rcases hx with rfl|hx
     ·exact h1
     ·exact h3 x hx
    ·rw[List.map_cons,List.nodup_cons];refine⟨fun hm=>?_,h4⟩;obtain⟨x,hx,e⟩:=List.mem_map.1 hm;exact h5 x hx p aZ e.symm
    ·simp only[List.mem_cons] at hx;rcases hx with rfl|hx
     ·exact h2 ⟨y,hy,e⟩
     ·exact h5 x hx y (by simp[hy]) e
theorem xU {l:List cy} (h:uS l=0):(∀x∈l,0≤x.n∧x.n<14)∧(l.map (·.n)).Nodup∧l.length≤14:=by
 obtain⟨h1,h2,-⟩:=tD l [] h;refine⟨h1,h2,?_⟩
 have:=xQ (m:=(List.range 14).map fun i=>((i:Nat):Int)) h2 (fun x hx=>by
  obtain⟨y,hy,rfl⟩:=List.mem_map.1 hx;have:=h1 y hy
  exact List.mem_map.2 ⟨y.n.toNat,List.mem_range.2 ad,ad⟩)
 simpa using this
def eW (s:eZ) (l:List cy):eZ:=⟨s.gen+1,[(eE s).getD l.length 0,(eE s).getD (l.length+1) 0],mf s.pg l (eE s) l.length⟩
def fV (d:av) (s:eZ) (l:List cy) (k:Nat):av:=pS (pS d l (eE s) l.length) (tC (eW s l).pg) ((eE s).drop l.length) k
def gH (d:av) (s:eZ) (l:List cy) (j:Nat):av:=
 if j≤l.length then pS d l (eE s) j
 else if j≤l.length+2 then fV d s l (j-l.length)
 else if j=l.length+3 then (fV d s l 2).settle fun _=>true
 else if j=l.length+4 then ((fV d s l 2).settle fun _=>true).write ((s.gen+1)%2) (jL (s.gen+1) ((eW s l).t.getD 0 0) ((eW s l).t.getD 1 0))
 else (((fV d s l 2).settle fun _=>true).write ((s.gen+1)%2) (jL (s.gen+1) ((eW s l).t.getD 0 0) ((eW s l).t.getD 1 0))).settle fun _=>true
end Go.Proofs.YtgeoiflbjcehcaaGreatDoor
