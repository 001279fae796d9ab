import Derived.Test.YtgeoiflbjcehcaaGreatDoorDj7
set_option maxHeartbeats 4000000
set_option maxRecDepth 2000
set_option linter.unusedVariables false
set_option linter.unusedSimpArgs false
namespace Go.Proofs.YtgeoiflbjcehcaaGreatDoor
open Go X
structure al where
 l:List (List Int)
 wait:List (Nat×List Int)
namespace al
def ok (d:al):Prop:=d.l.length=34∧(∀w∈d.l,w.length=8)∧∀p∈d.wait,p.1<34∧p.2.length=8
def cells (d:al):List Value:=ints d.l.flatten
def kS (d:al):List Value:=d.wait.flatMap fun p=>i64 p.1::ints p.2
def last (w:List Int) (at_:Nat) (ps:List (Nat×List Int)):List Int:=ps.foldl (fun w p=>if p.1=at_ then p.2 else w) w
def aZ:List Int:=List.replicate 8 0
def read (d:al) (at_:Int):List Int:=if 0≤at_∧at_<34 then last (d.l.getD at_.toNat aZ) at_.toNat d.wait else aZ
def write (d:al) (at_:Int) (w:List Int):al:=if 0≤at_∧at_<34 then {d with wait:=d.wait++[(at_.toNat,w)]} else d
def settle (d:al) (is:Nat→Bool):al:={l:=(d.wait.zipIdx.foldl (fun l p=>if is p.2 then l.set p.1.1 p.1.2 else l) d.l),wait:=[]}
def new:al:={l:=List.replicate 34 aZ,wait:=[]}
theorem F0:new.ok:=⟨by simp[new],by simp[new,aZ],by simp[new]⟩
end al
def a7 (b:Nat) (d:al):HP:=fun m=>∃sl,Sat [au b (d.cells++[sl]) 225,bn 278 9 sl d.wait.length d.kS] m∧d.ok
theorem a7.mk {b:Nat} {d:al} {sl:Value} {cs xs:List Value} {n:Nat} (hd:d.ok) (e1:cs=d.cells) (e2:n=d.wait.length) (e3:xs=d.kS):∀m,Sat [au b (cs++[sl]) 225,bn 278 9 sl n xs] m→a7 b d m:=fun _ h=>⟨sl,by subst e1;subst e2;subst e3;exact h,hd⟩
theorem Ci (σ:PH) (a:Int):ae Tryz.prog 215 #[.int .i64 a] σ [] (aE fun v ag ah=>v=.bool (decide (0≤a∧a<34))∧σ=ag∧ah=[]):=by
 by_cases h0:0≤a
 ·refine dF Tryz.func215 ?_;refine dE ?_;exact ao.ret (aG.one rfl rfl) (aw.refl _) ⟨by simp[h0],rfl,rfl⟩
 ·refine dF Tryz.func215 ?_;refine dE ?_;exact ao.ret (aG.one rfl rfl) (aw.refl _) ⟨by simp[h0],rfl,rfl⟩
theorem a7.aY {b:Nat} {d:al}:∀m,a7 b d m→∃x:Option Addr×Nat,d.ok∧Sat [au b (d.cells++[.slice x.1 d.wait.length x.2]) 225,bn 278 9 (.slice x.1 d.wait.length x.2) d.wait.length d.kS] m:=by
 rintro m ⟨sl,h,ok⟩;obtain⟨m1,m2,a,⟨m3,m4,b,c⟩,e⟩:=h;obtain⟨x,⟨rfl,-⟩,-⟩:=Dl _ b;exact⟨x,ok,m1,m2,a,⟨m3,m4,b,c⟩,e⟩
theorem iY {d:al} (hd:d.ok):d.cells.length=272:=by
 have:∀(l:List (List Int)),(∀w∈l,w.length=8)→l.flatten.length=l.length*8:=by
  intro l
  induction l with
  |nil=>intro _;rfl
  |cons a l ih=>intro hl;simp[ih (fun w hw=>hl w (by simp[hw])),hl a (by simp)];omega
 rw[al.cells,ints,List.length_map,this d.l hd.2.1,hd.1]
theorem kf {d:al} {a:Int} {w:List Int} (hc:0≤a∧a<34):d.write a w={d with wait:=d.wait++[(a.toNat,w)]}:=by rw[al.write,if_pos hc]
theorem uI {d:al} {a:Int} {w:List Int} (hc:¬(0≤a∧a<34)):d.write a w=d:=by rw[al.write,if_neg hc]
theorem al.ok.write {d:al} (hd:d.ok) {a:Int} {w:List Int} (hw:w.length=8):(d.write a w).ok:=by
 by_cases hc:0≤a∧a<34
 ·rw[kf hc];refine⟨hd.1,hd.2.1,fun p hp=>?_⟩;simp only[List.mem_append,List.mem_singleton] at hp;rcases hp with hp|rfl
  ·exact hd.2.2 p hp
  ·exact⟨by simp only;omega,hw⟩
 ·rw[uI hc];exact hd
theorem F1 {d:al} (hd:d.ok) (sl:Value):(d.cells++[sl])[272]? =some sl:=by rw[List.getElem?_append_right (by rw[iY hd];exact Nat.le_refl _)];simp[iY hd]
theorem Yc {d:al} (hd:d.ok) (sl sl':Value):aJ (d.cells++[sl]) 272 [sl']=d.cells++[sl']:=by simp[aJ,iY hd]
theorem Cj (σ:PH) (b:Nat) (d:al) (a:Int) (w:List Int) (hw:w.length=8) (hlen:d.wait.length<1000000):
 ae Tryz.prog 246 #[ptr b,i64 a,wv w] σ [a7 b d] (aE fun v ag ah=>v=.bool (decide (0≤a∧a<34))∧σ=ag∧ah=[a7 b (d.write a w)]):=by
 (refine ob Tryz.func246 ?_;refine aN ?_;refine cN fun g5=>?_;refine bt ?_;refine yC (Ci σ a) ?_;refine aN ?_);(first|refine XA.aY (R:=a7 b d) zL (a7.aY) ?_|refine az.aY (R:=a7 b d) zL (a7.aY) ?_|refine DA.aY (R:=a7 b d) zL (a7.aY) ?_);rintro⟨pp,cc⟩ cU;(first|refine XA.cl ?_|refine az.cl ?_|refine DA.cl ?_);have h1:=F1 cU (.slice pp d.wait.length cc);have fR:=Yc cU (.slice pp d.wait.length cc);have hl:=iY cU;refine XA.bI rfl (fun hc=>?_) (fun hc=>?_)
 ·skip;refine fZ 13 1116180 [9,12] (aw.bP (R:=au b _ _) zL (aw.bP (R:=au g5 _ _) zL (aw.nil _))) ?_;refine bC ?_;refine aK.fL rfl rfl Gd.free (aC.qO (ad rfl) rfl (ad rfl)) ?_;rintro _ _ _ ⟨g17,rfl,rfl,rfl⟩;refine stays ?_;refine aK.bj rfl rfl Gd.free (by kernel_rfl) (aC.tS (ad rfl) rfl (ad rfl) rfl rfl rfl) ?_;rintro _ _ _ ⟨p18,c18,rfl,rfl,rfl⟩;refine aN ?_;refine aK.bj rfl rfl Gd.free (by kernel_rfl) (aC.st (ad rfl) rfl) ?_;rintro _ _ _ ⟨rfl,rfl,rfl⟩;refine b9 ?_;refine yC (Ci σ a) ?_;refine bM ?_;refine ao.ret (aG.one rfl rfl) (aw.eC zE (a7.mk (cU.write hw) ?_ ?_ ?_)) ⟨rfl,rfl,rfl⟩
  ·rw[kf hc];rfl
  ·rw[kf hc];simp
  ·rw[kf hc];simp only[al.kS,List.flatMap_append,List.flatMap_cons,List.flatMap_nil,List.append_nil,Int.toNat_of_nonneg hc.1]
 ·refine b9 ?_;refine yC (Ci σ a) ?_;refine bM ?_;exact ao.ret (aG.one rfl rfl) (aw.eC zE (a7.mk cU rfl rfl rfl)) ⟨rfl,rfl,by rw[uI hc]⟩
theorem fN {α:Type} {l:List α} {k:Nat} {x:α} (hk:l[k]? =some x):l.take (k+1)=l.take k++[x]:=by
 rw[List.take_add_one,hk];rfl
theorem uJ (w:List Int) (n:Nat) (ps:List (Nat×List Int)) (p:Nat×List Int):al.last w n (ps++[p])=if p.1=n then p.2 else al.last w n ps:=by simp[al.last]
theorem UZ {d:al} (hd:d.ok) {k:Nat} {p:Nat×List Int} (hk:d.wait[k]? =some p):(d.kS.drop (k*9)).take (i64 p.1::ints p.2).length=i64 p.1::ints p.2:=
 lD (fun p:Nat×List Int=>i64 p.1::ints p.2) 9 d.wait (fun x hx=>by simp[(hd.2.2 x hx).2]) k p hk
theorem Yd {d:al} (hd:d.ok) {k:Nat} {w:List Int} (hk:d.l[k]? =some w) (sl:Value):((d.cells++[sl]).drop (k*8)).take 8=ints w:=by
 have h1:=lD (fun w=>ints w) 8 d.l (fun x hx=>by simp[hd.2.1 x hx]) k w hk;(have aT:k<34:=by rw[←hd.1];exact(List.getElem?_eq_some_iff.1 hk).1);(have h2:d.cells=d.l.flatMap (fun w=>ints w):=by simp[al.cells,ints,List.flatMap,List.map_flatten]);have dY:=iY hd;have hw:w.length=8:=hd.2.1 w (List.mem_of_getElem? hk);rw[show (ints w).length=8 from by simp[hw]] at h1;rw[List.drop_append_of_le_length (by omega),List.take_append_of_le_length (by simp;omega),h2];exact h1
theorem xW {w:List Int} (hw:w.length=8) (n:Nat):∀(ps:List (Nat×List Int)),(∀p∈ps,p.2.length=8)→(al.last w n ps).length=8:=by
 intro ps
 induction ps generalizing w with
 |nil=>intro _;exact hw
 |cons p ps ih=>
  intro hp;simp only[al.last,List.foldl_cons];refine ih ?_ (fun q hq=>hp q (by simp[hq]));split
  ·exact hp p (by simp)
  ·exact hw
theorem AA (σ:PH) (b:Nat) (d:al) (a:Int) (hlen:d.wait.length<1000000):
 ae Tryz.prog 183 #[ptr b,i64 a] σ [a7 b d] (aE fun v ag ah=>v=wv (d.read a)∧σ=ag∧ah=[a7 b d]):=by
 refine bS Tryz.func183 ?_;refine aN ?_;refine cR (fun g4=>?_) (ad rfl);refine aO ?_;refine yC (Ci σ a) ?_;refine bq ?_;refine XA.bI rfl (fun hc=>?_) (fun hc=>?_)
 ·refine aN ?_;refine zO rfl (Rd.UB (fun _ _=>ad) rfl rfl rfl) ?_;refine b9 ?_;refine ao.ret (aG.cell rfl rfl (Ld.bN (ad rfl) rfl zL rfl (by first|exact bJ (by first|rfl|assumption|(refine(aj _).trans ?_;assumption)|(simp[*];(first|done|fail)))|assumption|exact aI (by first|rfl|assumption|(refine(aj _).trans ?_;assumption)|(simp[*];(first|done|fail)))|(conv=>lhs;simp only[List.drop_succ_cons,List.drop_zero,List.take_succ_cons,List.take_zero])) (by first|rfl|assumption|(refine(aj _).trans ?_;assumption)|(simp[*];(first|done|fail))))) zE ⟨?_,rfl,rfl⟩;rw[al.read,if_neg hc];rfl
 ·have hc:0≤a∧a<34:=Decidable.not_not.1 hc;(first|refine XA.aY (R:=a7 b d) zL (a7.aY) ?_|refine az.aY (R:=a7 b d) zL (a7.aY) ?_|refine DA.aY (R:=a7 b d) zL (a7.aY) ?_);rintro⟨pp,cc⟩ cU;(first|refine XA.cl ?_|refine az.cl ?_|refine DA.cl ?_);obtain⟨w0,zo⟩:∃w0,d.l[a.toNat]? =some w0:=⟨_,List.getElem?_eq_getElem (by rw[cU.1];omega)⟩;have SK:w0.length=8:=cU.2.1 w0 (List.mem_of_getElem? zo);have xT:=Yd cU zo (.slice pp d.wait.length cc);have hcw:=F1 cU (.slice pp d.wait.length cc);(have pI:d.read a=al.last w0 a.toNat d.wait:=by rw[al.read,if_pos hc,List.getD_eq_getElem?_getD,zo];rfl);refine aW ?_;refine cR (fun g5=>?_) (ad rfl);(refine cr ?_;refine XA.gen [(1,_),(4,_),(5,_),(21,_),(22,_),(23,_)] jN fun δ=>?_);dsimp only[List.foldl];refine XA.loop [(7,7),(23,33)] (fun k:Nat=>[(23,i64 k)]) (fun k ag ah=>σ=ag∧k≤d.wait.length∧ah=[au g5 (ints (al.last w0 a.toNat (d.wait.take k))) 221,au g4 BI.zero 221,au b (d.cells++[.slice pp d.wait.length cc]) 225,bn 278 9 (.slice pp d.wait.length cc) d.wait.length d.kS]) (fun k=>d.wait.length-k) 0 (by exact⟨rfl,trivial⟩) (Δ0:=_) ?_ (⟨rfl,Nat.zero_le _,rfl⟩) ?_
  ·exact zE
  rintro k δ _ _ ⟨rfl,hk,rfl⟩;dsimp only[eb,List.foldl];have zm:(al.last w0 a.toNat (d.wait.take k)).length=8:=xW SK _ _ (fun p hp=>(cU.2.2 p (List.mem_of_mem_take hp)).2);refine aO ?_;refine XA.bI rfl (fun aT=>?_) (fun aT=>?_)
  ·(have aT:k<d.wait.length:=by omega);obtain⟨p,hp⟩:∃p,d.wait[k]? =some p:=⟨_,List.getElem?_eq_getElem aT⟩;have hp8:p.2.length=8:=(cU.2.2 p (List.mem_of_getElem? hp)).2;(have bL:(d.kS.drop (k*9)).take 9=i64 p.1::ints p.2:=by have:=UZ cU hp;simpa[hp8] using this);have zp:=fN hp;(first|refine XA.aY (R:=bn 278 9 (.slice pp d.wait.length cc) _ _) zL (ep (by omega)) ?_|refine az.aY (R:=bn 278 9 (.slice pp d.wait.length cc) _ _) zL (ep (by omega)) ?_|refine DA.aY (R:=bn 278 9 (.slice pp d.wait.length cc) _ _) zL (ep (by omega)) ?_);rintro g rfl;(first|refine XA.cl ?_|refine az.cl ?_|refine DA.cl ?_);refine bC ?_;refine cR (fun g7=>?_) (ad rfl);refine cg ?_;refine XA.bI rfl (fun heq=>?_) (fun heq=>?_)
   ·refine bH ?_;(have e:al.last w0 a.toNat (d.wait.take (k+1))=p.2:=by rw[zp,uJ,if_pos (by omega)]);refine⟨cF,k+1,_,zM,?_,⟨rfl,aT,rfl⟩,(by omega)⟩
    ·rw[e];exact zE
   ·refine bC ?_;(have e:al.last w0 a.toNat (d.wait.take (k+1))=al.last w0 a.toNat (d.wait.take k):=by rw[zp,uJ,if_neg (by omega)]);refine⟨cF,k+1,_,zM,?_,⟨rfl,aT,rfl⟩,(by omega)⟩
    ·rw[e];exact zE
  ·(have tJ:k=d.wait.length:=by omega);subst tJ;rw[List.take_length] at*;refine bH ?_;exact ao.ret (aG.cell rfl rfl (Ld.bN (ad rfl) rfl zL rfl (by first|exact bJ (by first|rfl|assumption|(refine(aj _).trans ?_;assumption)|(simp[*];(first|done|fail)))|assumption|exact aI (by first|rfl|assumption|(refine(aj _).trans ?_;assumption)|(simp[*];(first|done|fail)))|(conv=>lhs;simp only[List.drop_succ_cons,List.drop_zero,List.take_succ_cons,List.take_zero])) (by first|rfl|assumption|(refine(aj _).trans ?_;assumption)|(simp[*];(first|done|fail))))) (aw.eC zE (a7.mk (sl:=.slice pp d.wait.length cc) cU rfl rfl rfl)) ⟨by rw[pI];rfl,rfl,rfl⟩
theorem U0 (σ:PH):ae Tryz.prog 105 #[] σ [] (aE fun v ag ah=>∃b,v=ptr b∧σ=ag∧ah=[a7 b al.new]):=by
 (refine XJ Tryz.func105 ?_;refine bC ?_;refine cN fun g2=>?_;refine bM ?_);(have hw:BJ.zero=al.new.cells++[.slice none 0 0]:=by simp only[al.cells,al.new,al.aZ,ints,List.flatten_replicate_replicate,List.map_replicate];rfl);rw[show (Value.int IntKind.i64 0::(List.replicate 271 (Value.int IntKind.i64 0)).append (List.replicate 1 (Value.slice none 0 0)))=BJ.zero from rfl,hw];exact ao.ret (aG.one rfl rfl) (aw.eC zE (a7.mk (sl:=.slice none 0 0) (n:=0) (xs:=[]) al.F0 rfl rfl rfl)) ⟨_,rfl,rfl,rfl⟩
def dk (m:Int) (k:Nat):Bool:=decide (m.toNat/2^(k%64)%2=1)
theorem Ye (x:Int) (h0:0≤x) (h1:x<18446744073709551616):IntKind.u64.wrap ((BitVec.ofInt 64 x&&& BitVec.ofInt 64 1).toNat:Int)=x%2:=by
 obtain⟨n,rfl⟩:=Int.eq_ofNat_of_zero_le h0;have hn:n<18446744073709551616:=by omega
 have e:(BitVec.ofInt 64 (n:Int)&&& BitVec.ofInt 64 1).toNat=n%2:=by
  (have:(BitVec.ofInt 64 (1:Int))=1#64:=by decide);rw[this,BitVec.toNat_and];simp[Nat.and_one_is_mod]
 rw[e];show IntKind.u64.wrap _=_;have:=Nat.mod_lt n (show 0<2 by omega);(have hw:∀q:Int,0≤q→q<18446744073709551616→IntKind.u64.wrap q=q:=fun q a b=>by simp[IntKind.wrap,IntKind.bits,IntKind.signed];omega);rw[hw _ (by omega) (by omega)];omega
theorem xX {l:List (List Int)} (hl:∀w∈l,w.length=8) {n:Nat} (hn:n<l.length) {w:List Int} (hw:w.length=8) (sl:Value):aJ (ints l.flatten++[sl]) (n*8) (ints w)=ints (l.set n w).flatten++[sl]:=by
 have key:∀(l:List (List Int)),(∀w∈l,w.length=8)→∀n,n<l.length→(l.flatten).take (n*8)++w++(l.flatten).drop (n*8+8)=(l.set n w).flatten:=by
  intro l
  induction l with
  |nil=>intro _ n hn;simp at hn
  |cons a l ih=>
   intro hl n hn;have ha:a.length=8:=hl a (by simp)
   cases n with
   |zero=>simp[←ha]
   |succ n=>
    have:=ih (fun x hx=>hl x (by simp[hx])) n (by simpa using hn);simp only[List.flatten_cons,List.set_cons_succ];rw[←this,Nat.succ_mul,Nat.add_comm (n*8) 8,←ha,List.take_length_add_append,Nat.add_assoc,List.drop_length_add_append];simp[Nat.add_comm]
 have hlen:l.flatten.length=l.length*8:=by
  have:=lE (fun w:List Int=>ints w) 8 l (fun x hx=>by simp[hl x hx]);simpa[List.flatMap,←List.map_flatten,ints] using this
 (have hle:n*8+8≤l.flatten.length:=by rw[hlen];omega);unfold aJ;rw[List.take_append_of_le_length (by rw[ints,List.length_map];omega),List.drop_append_of_le_length (by rw[ints,ints,List.length_map,List.length_map];omega),←key l hl n hn];simp[ints,List.map_take,List.map_drop,hw]
def al.part (d:al) (is:Nat→Bool) (n:Nat):List (List Int):=((d.wait.zipIdx).take n).foldl (fun l p=>if is p.2 then l.set p.1.1 p.1.2 else l) d.l
theorem Ck {d:al} (hd:d.ok) (is:Nat→Bool) (n:Nat):(d.part is n).length=34∧∀w∈d.part is n,w.length=8:=by
 have gen:∀(ps:List ((Nat×List Int)×Nat)) (l:List (List Int)),(∀p∈ps,p.1.2.length=8)→l.length=34→(∀w∈l,w.length=8)→(ps.foldl (fun l p=>if is p.2 then l.set p.1.1 p.1.2 else l) l).length=34∧∀w∈ps.foldl (fun l p=>if is p.2 then l.set p.1.1 p.1.2 else l) l,w.length=8:=by
  intro ps
  induction ps with
  |nil=>intro l _ h1 h2;exact⟨h1,h2⟩
  |cons p ps ih=>
   intro l hp h1 h2;simp only[List.foldl_cons];refine ih _ (fun q hq=>hp q (by simp[hq])) ?_ ?_
   ·split<;>simp[h1]
   ·intro w hw;split at hw
    ·rcases List.mem_or_eq_of_mem_set hw with hw|rfl
     ·exact h2 w hw
     ·exact hp p (by simp)
    ·exact h2 w hw
 refine gen _ _ (fun p hp=>?_) hd.1 hd.2.1;have:=List.mem_of_mem_take hp;obtain⟨q,k⟩:=p;have hq:=(List.mem_zipIdx this).2.2;exact(hd.2.2 _ (by rw[hq];exact List.getElem_mem _)).2
theorem DH (d:al) (is:Nat→Bool) {n:Nat} {p:Nat×List Int} (hp:d.wait[n]? =some p):d.part is (n+1)=if is n then (d.part is n).set p.1 p.2 else d.part is n:=by
 (have:(d.wait.zipIdx)[n]? =some (p,n):=by simp[List.getElem?_zipIdx,hp]);rw[al.part,fN this,List.foldl_append];rfl
theorem F2 (σ:PH) (k:Int):ae Tryz.prog 248 #[i64 k] σ [emp] (aE fun v ag ah=>v=.bool true∧σ=ag∧ah=[emp]):=by
 refine dF Tryz.func248 ?_;refine cg ?_;exact ao.ret (aG.one rfl rfl) (aw.refl _) ⟨rfl,rfl,rfl⟩
theorem F3 (σ:PH) (k:Nat) (m:Int) (g:Nat) (zq:0≤m) (AB:m<18446744073709551616):ae Tryz.prog 160 #[i64 k,ptr g] σ [au g [.int .u64 m] 80] (aE fun v ag ah=>v=.bool (dk m k)∧σ=ag∧ah=[au g [.int .u64 m] 80]):=by
 refine bS Tryz.func160 ?_;refine a8 ?_;refine zO rfl (Rd.Df (c:=((k%64:Nat):Int)) rfl rfl (by decide) (by rw[Int.tmod_eq_emod_of_nonneg (by omega)];omega)) ?_
 have Yf:(m.fdiv (2^(min (Int.toNat ((k%64:Nat):Int)) IntKind.u64.bits)))=((m.toNat/2^(k%64):Nat):Int):=by
  (have hk:min (Int.toNat ((k%64:Nat):Int)) IntKind.u64.bits=k%64:=by simp[IntKind.bits];omega);rw[hk];obtain⟨n,rfl⟩:=Int.eq_ofNat_of_zero_le zq;rw[Int.fdiv_eq_ediv_of_nonneg _ (by exact Int.le_of_lt (Int.pow_pos (by decide)))];simp
 have hand:IntKind.u64.wrap ((BitVec.ofInt 64 ((m.toNat/2^(k%64):Nat):Int)&&& BitVec.ofInt 64 1).toNat:Int)=((m.toNat/2^(k%64)%2:Nat):Int):=by
  have hle:m.toNat/2^(k%64)≤m.toNat:=Nat.div_le_self _ _;have:=Ye ((m.toNat/2^(k%64):Nat):Int) (Int.natCast_nonneg _) (by omega);rw[this];generalize m.toNat/2^(k%64)=q;omega
 refine zO rfl (Rd.Xd (c:=((m.toNat/2^(k%64):Nat):Int)) rfl rfl (by omega) Yf) ?_;refine zO rfl (Rd.Xe (c:=((m.toNat/2^(k%64)%2:Nat):Int)) rfl rfl hand) ?_;refine b9 ?_;refine b8 rfl rfl ⟨?_,rfl,rfl⟩;unfold dk;generalize m.toNat/2^(k%64)=q;exact congrArg Value.bool (decide_eq_decide.2 (by omega))
def Yg (f:FuncId) (cap:List Value) (p:Nat→Bool) (C:HP):Prop:=∀(σ:PH) (k:Nat),ae Tryz.prog f (i64 k::cap).toArray σ [C] (aE fun v ag ah=>v=.bool (p k)∧σ=ag∧ah=[C])
theorem xY (σ:PH) (b:Nat) (d:al) (f:FuncId) (cap:List Value) (p:Nat→Bool) (C:HP) (hlen:d.wait.length<1000000) (hs:Yg f cap p C):
 ae Tryz.prog 159 #[ptr b,.func (.func f) (List.toArray []) cap.toArray] σ [a7 b d,C] (aE fun v ag ah=>v=.tuple #[]∧σ=ag∧ah=[a7 b (d.settle p),C]):=by
 refine bS Tryz.func159 ?_;refine bM ?_;(first|refine XA.aY (R:=a7 b d) zL (a7.aY) ?_|refine az.aY (R:=a7 b d) zL (a7.aY) ?_|refine DA.aY (R:=a7 b d) zL (a7.aY) ?_);rintro⟨pp,cc⟩ cU;(first|refine XA.cl ?_|refine az.cl ?_|refine DA.cl ?_);have h1:=F1 cU (.slice pp d.wait.length cc);have dY:=iY cU;(refine bC ?_;refine XA.gen [(0,_),(1,_),(9,_),(10,_),(11,_)] jN fun δ=>?_);dsimp only[List.foldl];refine XA.loop [(4,5),(11,27)] (fun k:Nat=>[(11,i64 k)]) (fun k ag ah=>σ=ag∧k≤d.wait.length∧ah=[au b (ints (d.part p k).flatten++[.slice pp d.wait.length cc]) 225,bn 278 9 (.slice pp d.wait.length cc) d.wait.length d.kS,C]) (fun k=>d.wait.length-k) 0 (by exact⟨rfl,trivial⟩) (Δ0:=_) ?_ (⟨rfl,Nat.zero_le _,rfl⟩) ?_
 ·exact zE
 rintro k δ _ _ ⟨rfl,hk,rfl⟩;dsimp only[eb,List.foldl];have zr:=Ck cU p k;refine aO ?_;refine XA.bI rfl (fun aT=>?_) (fun aT=>?_)
 ·(have aT:k<d.wait.length:=by omega);obtain⟨q,hq⟩:∃q,d.wait[k]? =some q:=⟨_,List.getElem?_eq_getElem aT⟩;have hq8:q.2.length=8:=(cU.2.2 q (List.mem_of_getElem? hq)).2;have hqa:q.1<34:=(cU.2.2 q (List.mem_of_getElem? hq)).1;(have bL:(d.kS.drop (k*9)).take 9=i64 q.1::ints q.2:=by have:=UZ cU hq;simpa[hq8] using this);(first|refine XA.aY (R:=bn 278 9 (.slice pp d.wait.length cc) _ _) zL (ep (by omega)) ?_|refine az.aY (R:=bn 278 9 (.slice pp d.wait.length cc) _ _) zL (ep (by omega)) ?_|refine DA.aY (R:=bn 278 9 (.slice pp d.wait.length cc) _ _) zL (ep (by omega)) ?_);rintro g rfl;(first|refine XA.cl ?_|refine az.cl ?_|refine DA.cl ?_);refine a8 ?_;refine cR (fun g5=>?_) (ad rfl);refine bC ?_;refine zw rfl (aC.cV (first:=[]) (cap:=cap) rfl (hs σ k) rfl) ?_;rintro _ _ _ ⟨_,⟨rfl,rfl,rfl⟩,rfl⟩;refine az.cl ?_;refine aN ?_;have fR:=xX zr.2 (n:=q.1) (by omega) hq8 (.slice (some ⟨g,0,none⟩) d.wait.length cc)
  have ey:q.1*8+8≤(ints (d.part p k).flatten++[Value.slice (some ⟨g,0,none⟩) d.wait.length cc]).length:=by
   have:=lE (fun w:List Int=>ints w) 8 (d.part p k) (fun x hx=>by simp[zr.2 x hx]);(have e:((d.part p k).flatMap fun w=>ints w).length=(ints (d.part p k).flatten).length:=by simp[List.flatMap,ints,List.map_flatten]);rw[List.length_append,←e,this,zr.1];simp;omega
  have AE:=DH d p hq;refine XA.cond rfl (fun Cl=>?_) (fun Cl=>?_)
  ·skip;refine fZ 9 13212 [8] (aw.bP (R:=au g5 _ _) zL (aw.nil _)) ?_;refine bC ?_;refine aK.bj rfl rfl Gd.free (by kernel_rfl) (aC.st (ad rfl) rfl) ?_;rintro _ _ _ ⟨rfl,rfl,rfl⟩;refine bC ?_;rw[if_pos Cl] at AE;refine⟨cF,k+1,_,zM,?_,⟨rfl,aT,rfl⟩,(by omega)⟩
   ·rw[AE];exact zE
  ·refine bC ?_;rw[if_neg (by rw[Cl];decide)] at AE;refine⟨cF,k+1,_,zM,?_,⟨rfl,aT,rfl⟩,(by omega)⟩
   ·rw[AE];exact zE
 ·(have tJ:k=d.wait.length:=by omega);subst tJ
  have tR:(ints (d.part p d.wait.length).flatten).length=272:=by
   have L6:=lE (fun w:List Int=>ints w) 8 (d.part p d.wait.length) (fun x hx=>by simp[zr.2 x hx]);(have e:((d.part p d.wait.length).flatMap fun w=>ints w).length=(ints (d.part p d.wait.length).flatten).length:=by simp[List.flatMap,ints,List.map_flatten]);rw[←e,L6,zr.1]
  (have ey:272+1≤(ints (d.part p d.wait.length).flatten++[Value.slice pp d.wait.length cc]).length:=by rw[List.length_append,tR];exact Nat.le_refl _);(have fR:∀v,aJ (ints (d.part p d.wait.length).flatten++[Value.slice pp d.wait.length cc]) 272 [v]=ints (d.part p d.wait.length).flatten++[v]:=fun v=>xm tR);have jL:(d.wait.zipIdx).take d.wait.length=d.wait.zipIdx:=List.take_of_length_le (by simp);(have fS:(d.settle p).l=d.part p d.wait.length:=by simp only[al.settle,al.part,jL]);have Yh:(d.settle p).ok:=⟨by rw[fS];exact zr.1,by rw[fS];exact zr.2,by simp[al.settle]⟩;refine cg ?_;refine ao.normal (aG.none rfl) (aw.e9 (Θ:=[_,_]) zD (a7.mk (sl:=.slice none 0 0) (n:=0) (xs:=[]) Yh ?_ rfl rfl) zE) ⟨rfl,rfl,rfl⟩;rw[al.cells,fS]
theorem KU (σ:PH) (b:Nat) (d:al) (hlen:d.wait.length<1000000):ae Tryz.prog 245 #[ptr b] σ [a7 b d] (aE fun v ag ah=>v=.tuple #[]∧σ=ag∧ah=[a7 b (d.settle fun _=>true)]):=by
 refine dF Tryz.func245 ?_;refine aN ?_;refine yC (xY σ b d 248 [] (fun _=>true) emp hlen (fun σ k=>F2 σ k)) ?_;refine b3 ?_;exact fU rfl ⟨rfl,rfl,rfl⟩
theorem Cm (σ:PH) (b:Nat) (d:al) (m:Int) (hlen:d.wait.length<1000000) (zq:0≤m) (AB:m<18446744073709551616):ae Tryz.prog 115 #[ptr b,.int .u64 m] σ [a7 b d] (aE fun v ag ah=>v=.tuple #[]∧σ=ag∧ah=[a7 b (d.settle (dk m))]):=by
 (refine bS Tryz.func115 ?_;refine aN ?_;refine cN fun g3=>?_;refine bM ?_);refine zO rfl (Rd.jZ (by with_reducible (conv=>lhs;whnf))) ?_;refine yC (xY σ b d 160 [ptr g3] (dk m) (au g3 [.int .u64 m] 80) hlen (fun σ k=>F3 σ k m g3 zq AB)) ?_;refine b3 ?_;exact fU rfl ⟨rfl,rfl,rfl⟩
structure cY where
 gen:Int
 t:List Int
 pg:List Int
namespace cY
def ok (s:cY):Prop:=s.t.length=2∧s.pg.length=14
def cells (s:cY):List Value:=i64 s.gen::(ints s.t++ints s.pg)
end cY
def dA:List Int:=List.replicate 14 0
def kg (d:al) (r:Int):cY:=⟨(d.read r).getD 0 0,[(d.read r).getD 1 0,(d.read r).getD 2 0],dA⟩
def nu (d:al) (t:List Int) (p:Nat):Int:=if 0<t.getD (p/8) 0 then (d.read (t.getD (p/8) 0)).getD (p%8) 0 else 0
def ck (d:al) (t:List Int) (j:Nat):List Int:=(List.range 14).map fun p=>if p<j then nu d t p else 0
def dB (d:al):cY:=if (kg d 0).gen<(kg d 1).gen then kg d 1 else kg d 0
def F4 (d:al):cY:={dB d with pg:=ck d (dB d).t 14}
def br (b db:Nat) (s:cY):HP:=fun m=>au b (ptr db::s.cells) 265 m∧s.ok
theorem U1 {R:HP} {m:PH} (h:R m):Sat [R] m:=⟨m,PH.none,h,trivial,PH.cK m,.refl m,PH.ej m⟩
theorem F5 {g:Nat} {l:List Value} {T:TypeId} {m:PH} (h:Sat [au g l T] m):au g l T m:=by
 obtain⟨m1,m2,a,-,-,b,-⟩:=h;exact b _ _ a
theorem br.aY {b db:Nat} {s:cY}:∀m,br b db s m→∃_:Unit,s.ok∧Sat [au b (ptr db::s.cells) 265] m:=fun m h=>⟨(),h.2,U1 h.1⟩
theorem br.mk {b db:Nat} {s:cY} {cs:List Value} (hs:s.ok) (e:cs=ptr db::s.cells):∀m,Sat [au b cs 265] m→br b db s m:=fun m h=>⟨by subst e;exact F5 h,hs⟩
theorem im (d:al) (t:List Int) (j:Nat):(ck d t j).length=14:=by simp[ck]
theorem len8 {d:al} (hd:d.ok) (a:Int):(d.read a).length=8:=by
 unfold al.read;split
 ·rename_i h;refine xW ?_ _ _ (fun p hp=>(hd.2.2 p hp).2);rw[List.getD_eq_getElem?_getD,List.getElem?_eq_getElem (by rw[hd.1];omega)];exact hd.2.1 _ (List.getElem_mem _)
 ·rfl
theorem U2 {α:Type} {l:List α} (h:l.length=8):∃a b c d e f g i,l=[a,b,c,d,e,f,g,i]:=by
 match l,h with
 |[a,b,c,d,e,f,g,i],_=>exact⟨a,b,c,d,e,f,g,i,rfl⟩
theorem F6 (σ:PH) (b db:Nat) (s:cY) (d:al) (r:Int) (cU:d.ok) (hlen:d.wait.length<1000000):
 ae Tryz.prog 182 #[ptr b,i64 r] σ [au b (ptr db::s.cells) 265,a7 db d] (aE fun v ag ah=>v=.agg (kg d r).cells.toArray∧σ=ag∧ah=[au b (ptr db::s.cells) 265,a7 db d]):=by
 obtain⟨w0,w1,w2,w3,w4,w5,w6,w7,hw⟩:=U2 (len8 cU r);(have hr:kg d r=⟨w0,[w1,w2],dA⟩:=by rw[kg,hw];rfl);rw[hr];refine bS Tryz.func182 ?_;refine aN ?_;refine cR (fun g4=>?_) (ad rfl);refine a8 ?_;refine yC (AA σ db d r hlen) ?_;rw[hw];refine cR (fun g5=>?_) (ad rfl);refine bC ?_;refine cR (fun g6=>?_) (ad rfl);refine aW ?_;refine XA.eO 3 ?_;refine jX.succ ?_;refine aO ?_;refine nh ?_;refine jX.succ ?_;refine aO ?_;refine nh ?_;refine jX.succ ?_;refine aO ?_;refine eP ?_;exact ao.ret (aG.cell rfl rfl (Ld.bN (ad rfl) rfl zL rfl (by first|exact bJ (by first|rfl|assumption|(refine(aj _).trans ?_;assumption)|(simp[*];(first|done|fail)))|assumption|exact aI (by first|rfl|assumption|(refine(aj _).trans ?_;assumption)|(simp[*];(first|done|fail)))|(conv=>lhs;simp only[List.drop_succ_cons,List.drop_zero,List.take_succ_cons,List.take_zero])) (by first|rfl|assumption|(refine(aj _).trans ?_;assumption)|(simp[*];(first|done|fail))))) zE ⟨rfl,rfl,rfl⟩
theorem ji (l:List Value) (o:Nat) (v:Value) (h:o<l.length):aJ l o [v]=l.set o v:=by
 unfold aJ;rw[List.set_eq_take_append_cons_drop,if_pos h];simp
theorem ints_set (l:List Int) (j:Nat) (x:Int):ints (l.set j x)=(ints l).set j (i64 x):=by simp[ints,List.map_set]
theorem F7 {db:Nat} {gen a0 a1:Int} {pg:List Int} (h:pg.length=14) {j:Nat} (hj:j<14) (x:Int):aJ (ptr db::i64 gen::i64 a0::i64 a1::ints pg) (4+j) [i64 x]=ptr db::i64 gen::i64 a0::i64 a1::ints (pg.set j x):=by
 rw[ji _ _ _ (by simp[h];omega),Nat.add_comm,ints_set];rfl
theorem vL (d:al) (t:List Int) {j:Nat} (hj:j<14):ck d t (j+1)=(ck d t j).set j (nu d t j):=by
 apply List.ext_getElem (by simp[ck]);intro p h1 h2;simp only[ck,List.length_map,List.length_range] at h1;simp only[ck,List.getElem_map,List.getElem_range,List.getElem_set];by_cases e:j=p
 ·subst e;simp
 ·rw[if_neg e];by_cases h:p<j
  ·rw[if_pos (by omega),if_pos h]
  ·rw[if_neg (by omega),if_neg h]
theorem iQ (d:al) (t:List Int) {j:Nat} (h:14≤j∨nu d t j=0):ck d t (j+1)=ck d t j:=by
 apply List.map_congr_left;intro p hp;(have hp:p<14:=by simpa using hp);by_cases e:p=j
 ·subst e;rcases h with h|h
  ·omega
  ·rw[if_pos (by omega),h,if_neg (by omega)]
 ·by_cases h:p<j
  ·rw[if_pos (by omega),if_pos h]
  ·rw[if_neg (by omega),if_neg h]
theorem DI (d:al) (t:List Int) {i k:Nat} (hk:k<8):nu d t (i*8+k)=if 0<t.getD i 0 then (d.read (t.getD i 0)).getD k 0 else 0:=by
 rw[nu,show (i*8+k)/8=i by omega,show (i*8+k)%8=k by omega]
theorem vM (d:al) (t:List Int):ck d t 0=dA:=by simp[ck,dA];rfl
theorem oF {l:List Int} {k:Nat} (h:k<l.length):(ints l)[k]? =some (i64 (l.getD k 0)):=by simp[h,List.getD_eq_getElem?_getD]
theorem QS (σ:PH) (db:Nat) (d:al) (cU:d.ok) (hlen:d.wait.length<1000000):
 ae Tryz.prog 151 #[ptr db] σ [a7 db d] (aE fun v ag ah=>∃b,v=ptr b∧σ=ag∧ah=[br b db (F4 d),a7 db d]):=by
 (refine dF Tryz.func151 ?_;refine a8 ?_;refine cN fun g13=>?_;refine aO ?_;refine yC (F6 σ g13 db ⟨0,[0,0],dA⟩ d 0 cU hlen) ?_;refine b3 ?_;refine yC (F6 σ g13 db ⟨0,[0,0],dA⟩ d 1 cU hlen) ?_);obtain⟨g0,a0,a1,xT⟩:∃g a0 a1,kg d 0=⟨g,[a0,a1],dA⟩:=⟨_,_,_,rfl⟩;obtain⟨g1,b0,b1,zi⟩:∃g a0 a1,kg d 1=⟨g,[a0,a1],dA⟩:=⟨_,_,_,rfl⟩;have tY:F4 d={dB d with pg:=ck d (dB d).t 14}:=rfl;(have QU:dB d=if g0<g1 then ⟨g1,[b0,b1],dA⟩ else ⟨g0,[a0,a1],dA⟩:=by rw[dB,xT,zi]);rw[tY];obtain⟨L,hL⟩:∃L,L=dB d:=⟨_,rfl⟩;rw[←hL] at QU⊢;rw[xT,zi];clear tY xT zi;refine cR (fun g4=>?_) (ad rfl);refine cR (fun g5=>?_) (ad rfl);refine XI ?_;refine XA.join [(27,30)] (fun _:Unit=>[]) (fun _ ag ah=>σ=ag∧ah=[au g13 (ptr db::L.cells) 265,a7 db d]) ?_ ?_
 ·refine XA.bI rfl (fun Yi=>?_) (fun Yi=>?_)
  ·rw[if_pos Yi] at QU;subst QU;refine bC ?_;refine⟨cF,(),_,zM,?_,⟨rfl,rfl⟩⟩
   ·exact zE
  ·rw[if_neg Yi] at QU;subst QU;refine aN ?_;refine⟨cF,(),_,zM,?_,⟨rfl,rfl⟩⟩
   ·exact zE
 rintro-δ0 _ _ ⟨rfl,rfl⟩;dsimp only[eb,List.foldl];refine b3 ?_
 obtain⟨gl,t0,t1,rfl⟩:∃g t0 t1,L=⟨g,[t0,t1],dA⟩:=by
  rw[QU];split
  ·exact⟨_,_,_,rfl⟩
  ·exact⟨_,_,_,rfl⟩
 clear QU hL;refine XA.re (Δ:=[au g13 (ptr db::i64 gl::i64 t0::i64 t1::ints (ck d [t0,t1] 0)) 265,a7 db d]) (by rw[vM];rfl) ?_;(refine bH ?_;refine XA.gen [(0,_),(2,_),(3,_),(35,_),(36,_)] jN fun δ=>?_);dsimp only[List.foldl];refine XA.loop [(6,10),(36,66)] (fun i:Nat=>[(36,i64 i)]) (fun i ag ah=>σ=ag∧i≤2∧ah=[au g13 (ptr db::i64 gl::i64 t0::i64 t1::ints (ck d [t0,t1] (i*8))) 265,a7 db d]) (fun i=>2-i) 0 (by exact⟨rfl,trivial⟩) (Δ0:=_) ?_ (⟨rfl,by decide,rfl⟩) ?_
 ·exact zE
 rintro i δ _ _ ⟨rfl,hi,rfl⟩;dsimp only[eb,List.foldl];refine aO ?_;refine XA.bI rfl (fun aT=>?_) (fun aT=>?_)
 ·have aT:i<2:=by omega
  have H3:(List.toArray [i64 t0,i64 t1])[Int.toNat (i:Int)]? =some (i64 (([t0,t1]:List Int).getD i 0)):=by
   rcases (show i=0∨i=1 by omega) with rfl|rfl<;>rfl
  obtain⟨ai,Oj⟩:∃ai,ai=([t0,t1]:List Int).getD i 0:=⟨_,rfl⟩;rw[←Oj] at H3;(have SL:=fun k (hk:k<8)=>DI d [t0,t1] (i:=i) hk);rw[←Oj] at SL;have SK:=len8 cU ai;refine bt ?_;refine zO rfl (Rd.UA rfl rfl) ?_;refine bC ?_;refine yC (AA σ db d ai hlen) ?_;obtain⟨w,hw⟩:∃w,w=d.read ai:=⟨_,rfl⟩;rw[←hw] at SK SL⊢;clear hw Oj;refine cR (fun g8=>?_) (ad rfl);refine a8 ?_;refine XA.loop [(9,10),(43,65)] (fun k:Nat=>[(43,i64 k)]) (fun k ag ah=>σ=ag∧k≤8∧ah=[au g8 (ints w) 221,au g13 (ptr db::i64 gl::i64 t0::i64 t1::ints (ck d [t0,t1] (i*8+k))) 265,a7 db d]) (fun k=>8-k) 0 (by exact⟨rfl,trivial⟩) (Δ0:=_) ?_ (⟨rfl,by decide,rfl⟩) ?_
  ·exact zE
  rintro k N2 _ _ ⟨rfl,hk,rfl⟩;dsimp only[eb,List.foldl];refine aO ?_;refine XA.bI rfl (fun rF=>?_) (fun rF=>?_)
  ·(have rF:k<8:=by omega);have Cl:=SL k rF;have hwk:=oF (l:=w) (k:=k) (by omega);refine eP ?_;refine zO rfl (Rd.S0 (c:=((i*8:Nat):Int)) rfl rfl (by omega) (by omega)) ?_;refine b3 ?_;refine zO rfl (Rd.OZ (c:=((i*8+k:Nat):Int)) rfl rfl (by omega) (by omega)) ?_;refine b9 ?_;by_cases KO:0<ai
   ·by_cases hp:i*8+k<14
    ·rw[if_pos KO] at Cl;(have fR:=fun x=>F7 (db:=db) (gen:=gl) (a0:=t0) (a1:=t1) (im d [t0,t1] (i*8+k)) hp x);have aaS:=im d [t0,t1] (i*8+k);have e1:=vL d [t0,t1] hp;rw[Cl] at e1;refine bC ?_;refine XA.bG rfl zY ?_;refine fZ 10 39447 [9] (aw.bP (R:=au g8 _ _) zL (aw.nil _)) ?_;refine a8 ?_;refine aK.bj rfl rfl Gd.free (by kernel_rfl) (aC.st (ad rfl) rfl) ?_;rintro _ _ _ ⟨rfl,rfl,rfl⟩;refine bC ?_;refine⟨cF,k+1,_,zM,?_,⟨rfl,rF,rfl⟩,(by omega)⟩
     ·rw[show i*8+(k+1)=i*8+k+1 from rfl,e1];exact zE
    ·have e1:=iQ d [t0,t1] (j:=i*8+k) (.inl (by omega));refine bC ?_;refine XA.aR rfl zY ?_;refine bC ?_;refine⟨cF,k+1,_,zM,?_,⟨rfl,rF,rfl⟩,(by omega)⟩
     ·rw[show i*8+(k+1)=i*8+k+1 from rfl,e1];exact zE
   ·rw[if_neg KO] at Cl;have e1:=iQ d [t0,t1] (j:=i*8+k) (.inr Cl);refine bC ?_;refine XA.aR rfl zY ?_;refine bC ?_;refine⟨cF,k+1,_,zM,?_,⟨rfl,rF,rfl⟩,(by omega)⟩
    ·rw[show i*8+(k+1)=i*8+k+1 from rfl,e1];exact zE
  (have Yj:k=8:=by omega);subst Yj;refine cg ?_;refine⟨cF,i+1,_,zM,?_,⟨rfl,aT,rfl⟩,(by omega)⟩
  ·rw[show (i+1)*8=i*8+8 by omega];exact zE
 (have EW:i=2:=by omega);subst EW;(have e14:ck d [t0,t1] (2*8)=ck d [t0,t1] 14:=by rw[show 2*8=14+1+1 from rfl,iQ _ _ (.inl (by decide)),iQ _ _ (.inl (by decide))]);rw[e14];refine bH ?_;exact ao.ret (aG.one rfl rfl) (aw.e9 (Θ:=[_]) zD (br.mk (s:=⟨gl,[t0,t1],ck d [t0,t1] 14⟩) ⟨rfl,im _ _ _⟩ rfl) (aw.refl _)) ⟨g13,rfl,rfl,rfl⟩
theorem AF (σ:PH) (p:Int):ae Tryz.prog 228 #[i64 p] σ [] (aE fun v ag ah=>v=.bool (decide (0≤p∧p<14))∧σ=ag∧ah=[]):=by
 by_cases h0:0≤p
 ·refine dF Tryz.func228 ?_;refine dE ?_;exact ao.ret (aG.one rfl rfl) (aw.refl _) ⟨by simp[h0],rfl,rfl⟩
 ·refine dF Tryz.func228 ?_;refine dE ?_;exact ao.ret (aG.one rfl rfl) (aw.refl _) ⟨by simp[h0],rfl,rfl⟩
def bB (d:al) (s:cY) (p:Int):List Int:=if 0≤p∧p<14∧s.pg.getD p.toNat 0≠0 then d.read (s.pg.getD p.toNat 0) else al.aZ
theorem xZ {s:cY} (h:s.ok):∃t0 t1,s.t=[t0,t1]:=by
 obtain⟨h1,-⟩:=h
 match hs:s.t,h1 with
 |[a,b],_=>exact⟨a,b,rfl⟩
theorem DJ {db:Nat} {g t0 t1:Int} {pg:List Int} {k:Nat} (h:k<pg.length):(ptr db::i64 g::i64 t0::i64 t1::ints pg)[4+k]? =some (i64 (pg.getD k 0)):=by
 rw[Nat.add_comm];simpa using oF h
theorem KV (σ:PH) (b db:Nat) (s:cY) (d:al) (p:Int) (hd:d.ok) (hlen:d.wait.length<1000000):
 ae Tryz.prog 200 #[ptr b,i64 p] σ [br b db s,a7 db d] (aE fun v ag ah=>v=wv (bB d s p)∧σ=ag∧ah=[br b db s,a7 db d]):=by
 by_cases hp:0≤p∧p<14
 ·obtain⟨k,rfl⟩:∃k:Nat,p=k:=Int.eq_ofNat_of_zero_le hp.1;(have hk:k<14:=by omega);refine bS Tryz.func200 ?_;refine aN ?_;refine cR (fun g4=>?_) (ad rfl);refine aO ?_;refine yC (AF σ k) ?_;rw[decide_eq_true hp];refine bM ?_;(first|refine XA.aY (R:=br b db s) zL (br.aY) ?_|refine az.aY (R:=br b db s) zL (br.aY) ?_|refine DA.aY (R:=br b db s) zL (br.aY) ?_);rintro⟨⟩ cU;(first|refine XA.cl ?_|refine az.cl ?_|refine DA.cl ?_);obtain⟨t0,t1,ht⟩:=xZ cU;obtain⟨g,t,pg⟩:=s;simp only at ht;subst ht;have tR:pg.length=14:=cU.2;have hc:=DJ (db:=db) (g:=g) (t0:=t0) (t1:=t1) (pg:=pg) (k:=k) (by omega);refine az.re (Δ:=[au b (ptr db::i64 g::i64 t0::i64 t1::ints pg) 265,au g4 _ _,a7 db d]) rfl ?_;refine a8 ?_;refine XA.bI rfl (fun hz=>?_) (fun hz=>?_)
  ·have hw:bB d ⟨g,[t0,t1],pg⟩ k=al.aZ:=by
    rw[bB,if_neg];rintro⟨-,-,h⟩;exact h (by simpa using hz)
   rw[hw];refine aN ?_;refine zO rfl (Rd.UB (fun _ _=>ad) rfl rfl rfl) ?_;refine b9 ?_;exact ao.ret (aG.cell rfl rfl (Ld.bN (ad rfl) rfl zL rfl (by first|exact bJ (by first|rfl|assumption|(refine(aj _).trans ?_;assumption)|(simp[*];(first|done|fail)))|assumption|exact aI (by first|rfl|assumption|(refine(aj _).trans ?_;assumption)|(simp[*];(first|done|fail)))|(conv=>lhs;simp only[List.drop_succ_cons,List.drop_zero,List.take_succ_cons,List.take_zero])) (by first|rfl|assumption|(refine(aj _).trans ?_;assumption)|(simp[*];(first|done|fail))))) (aw.e9 (Θ:=[_]) zD (br.mk (s:=⟨g,[t0,t1],pg⟩) cU rfl) zE) ⟨rfl,rfl,rfl⟩
  have hw:bB d ⟨g,[t0,t1],pg⟩ k=d.read (pg.getD k 0):=by
   rw[bB,if_pos ⟨hp.1,hp.2,by simpa using hz⟩];simp
  rw[hw];obtain⟨pa,SL⟩:∃a,a=pg.getD k 0:=⟨_,rfl⟩;rw[←SL] at hc hz⊢;clear SL hw;have h8:=len8 hd pa;refine bq ?_;refine fZ 13 1476252 [11,12] (aw.bP (R:=au b _ _) zL (aw.nil _)) ?_;refine cg ?_;refine aK.bj rfl rfl Gd.free (by kernel_rfl) (aC.cE (AA σ db d pa hlen) rfl) ?_;rintro _ _ _ ⟨_,⟨rfl,rfl,rfl⟩,rfl⟩;refine aK.cl ?_;refine aK.bj rfl rfl Gd.free (by kernel_rfl) (aC.st (ad rfl) rfl) ?_;rintro _ _ _ ⟨rfl,rfl,rfl⟩;refine bq ?_;exact ao.ret (aG.cell rfl rfl (Ld.bN (ad rfl) rfl zL rfl (by first|exact bJ (by first|rfl|assumption|(refine(aj _).trans ?_;assumption)|(simp[*];(first|done|fail)))|assumption|exact aI (by first|rfl|assumption|(refine(aj _).trans ?_;assumption)|(simp[*];(first|done|fail)))|(conv=>lhs;simp only[List.drop_succ_cons,List.drop_zero,List.take_succ_cons,List.take_zero])) (by first|rfl|assumption|(refine(aj _).trans ?_;assumption)|(simp[*];(first|done|fail))))) (aw.e9 (Θ:=[_]) zD (br.mk (s:=⟨g,[t0,t1],pg⟩) cU rfl) zE) ⟨rfl,rfl,rfl⟩
 ·(have hw:bB d s p=al.aZ:=by rw[bB,if_neg (fun h=>hp ⟨h.1,h.2.1⟩)]);rw[hw];refine bS Tryz.func200 ?_;refine aN ?_;refine cR (fun g4=>?_) (ad rfl);refine aO ?_;refine yC (AF σ p) ?_;rw[decide_eq_false hp];refine eP ?_;refine bq ?_;refine zO rfl (Rd.UB (fun _ _=>ad) rfl rfl rfl) ?_;refine b9 ?_;exact ao.ret (aG.cell rfl rfl (Ld.bN (ad rfl) rfl zL rfl (by first|exact bJ (by first|rfl|assumption|(refine(aj _).trans ?_;assumption)|(simp[*];(first|done|fail)))|assumption|exact aI (by first|rfl|assumption|(refine(aj _).trans ?_;assumption)|(simp[*];(first|done|fail)))|(conv=>lhs;simp only[List.drop_succ_cons,List.drop_zero,List.take_succ_cons,List.take_zero])) (by first|rfl|assumption|(refine(aj _).trans ?_;assumption)|(simp[*];(first|done|fail))))) zE ⟨rfl,rfl,rfl⟩
abbrev dM (sb:Nat) (left gen t0 t1:Int) (pg:List Int) (fr:Value):List Value:=ptr sb::i64 left::i64 gen::i64 t0::i64 t1::(ints pg++[fr])
theorem oG {sb:Nat} {left gen t0 t1:Int} {pg:List Int} {fr:Value} (h:pg.length=14):(dM sb left gen t0 t1 pg fr)[19]? =some fr:=by
 (have:(ints pg++[fr])[14]? =some fr:=by rw[List.getElem?_append_right (by simp[h])];simp[h]);exact this
theorem mz {sb:Nat} {left gen t0 t1:Int} {pg:List Int} {fr:Value} (h:pg.length=14):(dM sb left gen t0 t1 pg fr).length=20:=by simp[dM,h]
theorem uK {sb:Nat} {left gen t0 t1:Int} {pg:List Int} {fr:Value} (h:pg.length=14) (mA:Value):aJ (dM sb left gen t0 t1 pg fr) 19 [mA]=dM sb left gen t0 t1 pg mA:=by
 rw[ji _ _ _ (by rw[mz h];decide)];show ptr sb::i64 left::i64 gen::i64 t0::i64 t1::(ints pg++[fr]).set 14 mA=_;rw[List.set_append_right _ _ (by simp[h])];simp[h]
theorem F8 {sb:Nat} {left gen t0 t1:Int} {pg:List Int} {fr:Value} (x:Int):aJ (dM sb left gen t0 t1 pg fr) 1 [i64 x]=dM sb x gen t0 t1 pg fr:=by simp[aJ,dM]
theorem F9 {sb:Nat} {left gen t0 t1:Int} {pg:List Int} {fr:Value} {k:Nat} (h:k<pg.length):(dM sb left gen t0 t1 pg fr)[5+k]? =some (i64 (pg.getD k 0)):=by
 rw[Nat.add_comm];show (ints pg++[fr])[k]? =_;rw[List.getElem?_append_left (by simpa using h)];exact oF h
theorem Ga {sb:Nat} {left gen t0 t1:Int} {pg:List Int} {fr:Value} (h:pg.length=14) {k:Nat} (hk:k<14) (x:Int):aJ (dM sb left gen t0 t1 pg fr) (5+k) [i64 x]=dM sb left gen t0 t1 (pg.set k x) fr:=by
 rw[ji _ _ _ (by rw[mz h];omega),Nat.add_comm];show ptr sb::i64 left::i64 gen::i64 t0::i64 t1::(ints pg++[fr]).set k (i64 x)=_;rw[List.set_append_left _ _ (by simp[h];omega),←ints_set]
def leftOf (D:Int) (j:Nat):Int:=IntKind.i64.wrap (D-j)
def EX (D:Int):Prop:=-9223372036854775808≤D∧D≤9223372036854775807
theorem DK {D:Int} {j:Nat} (hD:EX D) (hj:j<1000):leftOf D j=0↔D=j:=by
 obtain⟨h1,h2⟩:=hD;simp only[leftOf,IntKind.wrap,IntKind.bits,IntKind.signed];simp;omega
theorem DL (D:Int) (j:Nat):IntKind.i64.wrap (leftOf D j-1)=leftOf D (j+1):=by
 simp only[leftOf,IntKind.wrap,IntKind.bits,IntKind.signed];simp;omega
theorem AG {D:Int} (hD:EX D):leftOf D 0=D:=by
 rw[leftOf];simpa using X.wrap64_in hD.1 hD.2
theorem Ok (σ:PH) (c sb:Nat) (D:Int) (j:Nat) (gen t0 t1:Int) (pg:List Int) (fr:Value) (hD:EX D) (hj:j<1000):
 ae Tryz.prog 244 #[ptr c] σ [au c (dM sb (leftOf D j) gen t0 t1 pg fr) 301] (aE fun v ag ah=>v=.bool (decide (D≠(j:Int)))∧σ=ag∧ah=[au c (dM sb (if D=(j:Int) then leftOf D j else leftOf D (j+1)) gen t0 t1 pg fr) 301]):=by
 have hz:=DK hD hj;have hsu:=DL D j;by_cases h0:D=(j:Int)
 ·rw[if_pos h0];have hl:=hz.2 h0;refine dF Tryz.func244 ?_;refine cr ?_;refine XA.bG rfl (decide_eq_true hl) ?_;refine bt ?_;exact ao.ret (aG.one rfl rfl) (aw.refl _) ⟨congrArg Value.bool (decide_eq_false (fun(h:D≠(j:Int))=>h h0)).symm,rfl,rfl⟩
 ·rw[if_neg h0];(have hl:leftOf D j≠0:=fun h=>h0 (hz.1 h));(have fR:=fun x=>F8 (sb:=sb) (left:=leftOf D j) (gen:=gen) (t0:=t0) (t1:=t1) (pg:=pg) (fr:=fr) x);refine dF Tryz.func244 ?_;refine cr ?_;refine XA.aR rfl (decide_eq_false hl) ?_;refine bC ?_;refine zO rfl (Rd.XB rfl rfl hsu) ?_;refine cg ?_;exact ao.ret (aG.one rfl rfl) (aw.refl _) ⟨congrArg Value.bool (decide_eq_true (p:=D≠(j:Int)) h0).symm,rfl,rfl⟩
theorem AH (σ:PH) (c sb:Nat) (j:Nat) (gen t0 t1:Int) (pg:List Int) (fr:Value) (hj:j<1000):
 ae Tryz.prog 244 #[ptr c] σ [au c (dM sb (leftOf j j) gen t0 t1 pg fr) 301] (aE fun v ag ah=>v=.bool false∧σ=ag∧ah=[au c (dM sb (leftOf j j) gen t0 t1 pg fr) 301]):=by
 have h:=Ok σ c sb j j gen t0 t1 pg fr ⟨by omega,by omega⟩ hj
 rwa [if_pos rfl,decide_eq_false (fun h=>h rfl)] at h
theorem vN (σ:PH) (c sb:Nat) (D:Int) (j:Nat) (gen t0 t1:Int) (pg:List Int) (fr:Value) (hD:EX D) (hj:j<1000) (fW:D≠(j:Int)):
 ae Tryz.prog 244 #[ptr c] σ [au c (dM sb (leftOf D j) gen t0 t1 pg fr) 301] (aE fun v ag ah=>v=.bool true∧σ=ag∧ah=[au c (dM sb (leftOf D (j+1)) gen t0 t1 pg fr) 301]):=by
 have h:=Ok σ c sb D j gen t0 t1 pg fr hD hj
 rwa [if_neg fW,decide_eq_true fW] at h
theorem Gb (σ:PH) (c sb:Nat) (j:Nat) (gen t0 t1:Int) (pg:List Int) (fr:Value) (a:Int) (fs:List Int) (w:List Int) (hj:j<1000) (kh:pg.length=14) (hw:w.length=8) (hf:aV σ fr (a::fs)):
 ae Tryz.prog 243 #[ptr c,wv w] σ [au c (dM sb (leftOf j j) gen t0 t1 pg fr) 301] (aE fun v ag ah=>v=.tuple #[i64 0,.bool false]∧σ=ag∧ah=[au c (dM sb (leftOf j j) gen t0 t1 pg fr) 301]):=by
 obtain⟨p,cc,rfl,xU,AI⟩:=hf.shape;obtain⟨g,o,rfl,hr⟩:=hf.at (k:=0) rfl;rw[Nat.zero_mul] at hr;have Cn:=oG (sb:=sb) (left:=leftOf j j) (gen:=gen) (t0:=t0) (t1:=t1) (fr:=.slice (some ⟨g,o,none⟩) (a::fs).length cc) kh;simp only[List.length_cons] at Cn⊢;(refine bS Tryz.func243 ?_;refine aN ?_;refine cN fun g3=>?_;refine jM ?_;refine yC (AH σ c sb j gen t0 t1 pg _ hj) ?_;refine bq ?_;refine a8 ?_);exact ao.ret (aG.two rfl rfl rfl) zE ⟨rfl,rfl,rfl⟩
theorem Co (σ:PH) (c sb db:Nat) (D:Int) (j:Nat) (gen t0 t1:Int) (pg:List Int) (fr:Value) (a:Int) (fs:List Int) (w:List Int) (s:cY) (d:al) (hD:EX D) (hj:j<1000) (fW:D≠(j:Int)) (kh:pg.length=14) (hw:w.length=8) (hf:aV σ fr (a::fs)) (hlen:d.wait.length<1000000):
 ae Tryz.prog 243 #[ptr c,wv w] σ [au c (dM sb (leftOf D j) gen t0 t1 pg fr) 301,au sb (ptr db::s.cells) 265,a7 db d] (aE fun v ag ah=>∃mA,aV σ mA fs∧v=.tuple #[i64 a,.bool true]∧σ=ag∧ah=[au c (dM sb (leftOf D (j+1)) gen t0 t1 pg mA) 301,au sb (ptr db::s.cells) 265,a7 db (d.write a w)]):=by
 obtain⟨p,cc,rfl,xU,AI⟩:=hf.shape;obtain⟨g,o,rfl,hr⟩:=hf.at (k:=0) rfl;rw[Nat.zero_mul] at hr;have zt:=hf.tail;simp only[List.length_cons] at zt⊢;have Cn:=oG (sb:=sb) (left:=leftOf D j) (gen:=gen) (t0:=t0) (t1:=t1) (fr:=.slice (some ⟨g,o,none⟩) (fs.length+1) cc) kh;have Yk:=oG (sb:=sb) (left:=leftOf D (j+1)) (gen:=gen) (t0:=t0) (t1:=t1) (fr:=.slice (some ⟨g,o,none⟩) (fs.length+1) cc) kh;(have fR:=fun mA=>uK (sb:=sb) (left:=leftOf D (j+1)) (gen:=gen) (t0:=t0) (t1:=t1) (fr:=.slice (some ⟨g,o,none⟩) (fs.length+1) cc) kh mA);have dY:=mz (sb:=sb) (left:=leftOf D (j+1)) (gen:=gen) (t0:=t0) (t1:=t1) (fr:=.slice (some ⟨g,o,none⟩) (fs.length+1) cc) kh;(have ey:19+BL.size≤(dM sb (leftOf D (j+1)) gen t0 t1 pg (.slice (some ⟨g,o,none⟩) (fs.length+1) cc)).length:=by rw[dY];decide);(refine bS Tryz.func243 ?_;refine aN ?_;refine cN fun g3=>?_;refine jM ?_;refine yC (vN σ c sb D j gen t0 t1 pg _ hD hj fW) ?_;refine bq ?_;refine aW ?_);refine zO rfl (Rd.pM (ad rfl) rfl (ad rfl) rfl rfl rfl (by omega)) ?_;refine aO ?_;refine fZ 10 46683 [9] (aw.bP (R:=au c _ _) zL (aw.bP (R:=au sb _ _) zL (aw.bP (R:=au g3 _ _) zL (aw.nil _)))) ?_;refine a8 ?_;refine aK.bj rfl rfl Gd.free (by kernel_rfl) (aC.cE (Cj σ db d a w hw hlen) rfl) ?_;rintro _ _ _ ⟨_,⟨rfl,rfl,rfl⟩,rfl⟩;refine aK.cl ?_;refine aW ?_;exact ao.ret (aG.two rfl rfl rfl) zE ⟨_,zt,rfl,rfl,rfl⟩
structure bu where
 n:Int
 w:List Int
def bu.cells (x:bu):List Value:=i64 x.n::ints x.w
def lO:RT bu:=fun _ cs x=>cs=x.cells∧x.w.length=8
def jj (pg:List Int) (l:List bu) (free:List Int):Nat→List Int
 |0=>pg
 |k+1=>(jj pg l free k).set (l.getD k ⟨0,[]⟩).n.toNat (free.getD k 0)
def lP (d:al) (l:List bu) (free:List Int):Nat→al
 |0=>d
 |k+1=>(lP d l free k).write (free.getD k 0) (l.getD k ⟨0,[]⟩).w
theorem lQ {pg:List Int} (l:List bu) (free:List Int) (h:pg.length=14):∀k,(jj pg l free k).length=14
 |0=>h
 |k+1=>by rw[jj,List.length_set];exact lQ l free h k
theorem nw (d:al) (a:Int) (w:List Int):(d.write a w).wait.length≤d.wait.length+1:=by
 unfold al.write;split<;>simp
theorem iq (d:al) (l:List bu) (free:List Int):∀k,(lP d l free k).wait.length≤d.wait.length+k
 |0=>Nat.le_refl _
 |k+1=>by have:=nw (lP d l free k) (free.getD k 0) (l.getD k ⟨0,[]⟩).w;have:=iq d l free k;rw[lP];omega
theorem uL (σ:PH) (c sb:Nat) (j:Nat) (gen t0 t1:Int) (pg:List Int) (fr:Value) (hj:j<1000):
 ae Tryz.prog 238 #[ptr c] σ [au c (dM sb (leftOf j j) gen t0 t1 pg fr) 301] (aE fun v ag ah=>v=.bool false∧σ=ag∧ah=[au c (dM sb (leftOf j j) gen t0 t1 pg fr) 301]):=by
 refine dF Tryz.func238 ?_;refine a8 ?_;refine yC (AH σ c sb j gen t0 t1 pg _ hj) ?_;refine bq ?_;refine bC ?_;exact b8 rfl rfl ⟨rfl,rfl,rfl⟩
theorem sJ (σ:PH) (c sb db:Nat) (D:Int) (j:Nat) (gen t0 t1:Int) (pg:List Int) (fr:Value) (s:cY) (d:al) (hD:EX D) (hj:j<1000) (fW:D≠(j:Int)) (hlen:d.wait.length<1000000):
 ae Tryz.prog 238 #[ptr c] σ [au c (dM sb (leftOf D j) gen t0 t1 pg fr) 301,au sb (ptr db::s.cells) 265,a7 db d] (aE fun v ag ah=>v=.bool true∧σ=ag∧ah=[au c (dM sb (leftOf D (j+1)) gen t0 t1 pg fr) 301,au sb (ptr db::s.cells) 265,a7 db (d.settle fun _=>true)]):=by
 refine dF Tryz.func238 ?_;refine a8 ?_;refine yC (vN σ c sb D j gen t0 t1 pg _ hD hj fW) ?_;refine bq ?_;refine bH ?_;refine yC (KU σ db d hlen) ?_;refine bC ?_;exact b8 rfl rfl ⟨rfl,rfl,rfl⟩
theorem KW (σ:PH) (c sb db:Nat) (D:Int) (gen t0 t1:Int) (pg:List Int) (fr:Value) (s:cY) (d:al) (sl:Value) (l:List bu) (free:List Int) (hD:EX D) (kh:pg.length=14) (hf:aV σ fr free) (hl:bO 9 lO σ sl l) (hn:∀x∈l,0≤x.n∧x.n<14) (DE:l.length≤free.length) (zl:l.length≤100) (hlen:d.wait.length<1000):
 ae Tryz.prog 236 #[ptr c,sl] σ [au c (dM sb (leftOf D 0) gen t0 t1 pg fr) 301,au sb (ptr db::s.cells) 265,a7 db d]
  (aE fun v ag ah=>∃(k:Nat) (mA:Value),k≤l.length∧v=.bool (decide (k=l.length))∧(k<l.length→D=k)∧(∀i:Nat,i<k→D≠(i:Int))∧aV σ mA (free.drop k)∧σ=ag∧ah=[au c (dM sb (leftOf D k) gen t0 t1 (jj pg l free k) mA) 301,au sb (ptr db::s.cells) 265,a7 db (lP d l free k)]):=by
 obtain⟨pl,cl,rfl,hle,EO⟩:=hl.shape;(refine bS Tryz.func236 ?_;refine dJ ?_;refine XA.gen [(0,_),(4,_),(9,_),(10,_),(11,_)] jN fun δ=>?_);dsimp only[List.foldl];refine XA.loop [(4,4),(6,8),(11,32)] (fun k:Nat=>[(11,i64 k)]) (fun k ag ah=>σ=ag∧k≤l.length∧(∀i:Nat,i<k→D≠(i:Int))∧∃mA,aV σ mA (free.drop k)∧ah=[au c (dM sb (leftOf D k) gen t0 t1 (jj pg l free k) mA) 301,au sb (ptr db::s.cells) 265,a7 db (lP d l free k)]) (fun k=>l.length-k) 0 (by exact⟨rfl,trivial⟩) (Δ0:=_) ?_ (⟨rfl,Nat.zero_le _,fun i h=>absurd h (Nat.not_lt_zero _),fr,hf,rfl⟩) ?_
 ·exact zE
 rintro k δ _ _ ⟨rfl,hk,r6,mA,AJ,rfl⟩;dsimp only[eb,List.foldl];refine aO ?_;refine XA.bI rfl (fun aT=>?_) (fun aT=>?_)
 ·(have aT:k<l.length:=by omega);obtain⟨x,hx⟩:∃x,l[k]? =some x:=⟨_,List.getElem?_eq_getElem aT⟩;obtain⟨a,ha⟩:∃a,free[k]? =some a:=⟨_,List.getElem?_eq_getElem (by omega)⟩;obtain⟨g,o,row,rfl,⟨rfl,QV⟩,rC,bL⟩:=hl.at hx;have SB:=hn x (List.mem_of_getElem? hx);(have Ks:l.getD k ⟨0,[]⟩=x:=by rw[List.getD_eq_getElem?_getD,hx];rfl);(have hfa:free.getD k 0=a:=by rw[List.getD_eq_getElem?_getD,ha];rfl);have hw:=iq d l free k;have Cl:=lQ l free kh k;rw[sg ha] at AJ;(have e1:jj pg l free (k+1)=(jj pg l free k).set x.n.toNat a:=by rw[jj,Ks,hfa]);(have e2:lP d l free (k+1)=(lP d l free k).write a x.w:=by rw[lP,Ks,hfa]);obtain⟨xn,xw⟩:=x;simp only at QV SB e1 e2;obtain⟨n,rfl⟩:∃n:Nat,xn=n:=Int.eq_ofNat_of_zero_le SB.1;rw[Int.toNat_natCast] at e1;(have Yl:n<14:=by omega);unfold bu.cells at bL rC;simp only at bL rC;have gG:dn (i64 (n:Int)::ints xw):=dO rfl (dP _);have AK:((i64 (n:Int)::ints xw).drop 1).take 8=ints xw:=vj (us:=ints xw) (by simpa using QV);have wR:(i64 (n:Int)::ints xw)[0]? =some (i64 (n:Int)):=rfl;refine bC ?_;refine cR (fun g6=>?_) (ad rfl);refine bC ?_;by_cases KX:D=(k:Int)
  ·subst KX;refine yC (Gb σ c sb k gen t0 t1 (jj pg l free k) mA a (free.drop (k+1)) xw (by omega) Cl QV AJ) ?_;refine dJ ?_;refine eP ?_;rw[←sg ha] at AJ;exact b8 rfl rfl ⟨k,mA,hk,congrArg Value.bool (decide_eq_false (by omega)).symm,fun _=>rfl,r6,AJ,rfl,rfl⟩
  ·refine zw rfl (aC.cE (Co σ c sb db D k gen t0 t1 (jj pg l free k) mA a (free.drop (k+1)) xw s (lP d l free k) hD (by omega) KX Cl QV AJ (by omega)) rfl) ?_;rintro _ _ _ ⟨_,⟨KY,DM,rfl,rfl,rfl⟩,rfl⟩;refine az.cl ?_;(have fR:=fun y=>Ga (sb:=sb) (left:=leftOf D (k+1)) (gen:=gen) (t0:=t0) (t1:=t1) (pg:=jj pg l free k) (fr:=KY) Cl Yl y);(have ey:5+n+HZ.size≤(dM sb (leftOf D (k+1)) gen t0 t1 (jj pg l free k) KY).length:=by rw[mz Cl];show 5+n+1≤20;omega);refine dJ ?_;refine bq ?_;refine fZ 9 13131 [8] (aw.bP (R:=au g6 _ _) zL (aw.nil _)) ?_;refine bC ?_;refine aK.bj rfl rfl Gd.free (by kernel_rfl) (aC.st (ad rfl) rfl) ?_;rintro _ _ _ ⟨rfl,rfl,rfl⟩;refine bC ?_
   have fI:∀i:Nat,i<k+1→D≠(i:Int):=fun i hi=>by
    rcases Nat.lt_or_ge i k with h|h
    ·exact r6 i h
    ·(have:i=k:=by omega);subst this;exact KX
   refine⟨cF,k+1,_,zM,?_,⟨rfl,aT,fI,KY,DM,rfl⟩,(by omega)⟩
   ·rw[e1,e2];exact zE
 (have tJ:k=l.length:=by omega);subst tJ;refine cg ?_;exact b8 rfl rfl ⟨l.length,mA,Nat.le_refl _,congrArg Value.bool (decide_eq_true rfl).symm,fun h=>absurd h (Nat.lt_irrefl _),r6,AJ,rfl,rfl⟩
end Go.Proofs.YtgeoiflbjcehcaaGreatDoor
