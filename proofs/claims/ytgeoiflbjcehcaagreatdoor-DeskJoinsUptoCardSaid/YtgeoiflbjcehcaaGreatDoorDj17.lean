import Derived.Test.YtgeoiflbjcehcaaGreatDoorDj8
import Derived.Test.YtgeoiflbjcehcaaGreatDoorDj16
set_option maxHeartbeats 4000000
set_option maxRecDepth 2000
set_option linter.unusedVariables false
set_option linter.unusedSimpArgs false
namespace Go.Proofs.YtgeoiflbjcehcaaGreatDoor
open Go X
theorem yh (σ:PH) (b db:Nat) (s:cY) (d:al) (p:Option Addr) (c:Nat) (rows:List (List Value)) (l:List bu) (D:Int) (hr:cA 9 lO σ rows l) (hc:pW l=0) (hG:Good d s) (AP:s.gen<4611686018427387904) (hD:EX D):
 ae Tryz.prog 232 #[ptr b,.slice p l.length c,i64 D] σ [bn 292 9 (.slice p l.length c) l.length rows.flatten,br b db s,a7 db d]
  (aE fun v ag ah=>∃j:Nat,j≤l.length+5∧(j<l.length+5→D=(j:Int))∧(j=l.length+5→∀i:Nat,i<l.length+5→D≠(i:Int))∧v=.tuple #[.bool (decide (j=l.length+5)),i64 0]∧σ.sub ag∧ah=[br b db (if j=l.length+5 then cX s l else s),a7 db (ef d s l j)]):=by
 refine X.ae.qM (enters Tryz.func232 rfl rfl) .head dp aU ?_;rintro ag ⟨⟩ hf hs;exact ae.ret (AO ag b db s d _ l D ((hr.mono (ag:=ag) (fun _ _ h=>h)).H4 rfl hf) hc hG.Ia hG.gen AP hD hG.Yw) (fun v dq ot ⟨j,a1,a2,a3,a4,a5,a6⟩=>⟨j,a1,a2,a3,a4,hs.trans a5,a6⟩)
theorem sY:∀(l seen:List bu),(∀x∈l,0≤x.n∧x.n<14)→(l.map (·.n)).Nodup→(∀x∈l,∀y∈seen,y.n≠x.n)→iR seen l=0
 |[],_,_,_,_=>rfl
 |x::l,seen,h1,h2,h3=>by
  rw[iR,if_neg (fun q=>q (h1 x (by simp))),if_neg (fun⟨y,hy,e⟩=>h3 x (by simp) y hy e)];rw[List.map_cons,List.nodup_cons] at h2;refine sY l (seen++[x]) (fun y hy=>h1 y (List.mem_cons_of_mem _ hy)) h2.2 (fun y hy z hz=>?_);rcases List.mem_append.1 hz with hz|hz
  ·exact h3 y (List.mem_cons_of_mem _ hy) z hz
  ·rw[List.mem_singleton.1 hz];exact fun e=>h2.1 (e▸List.mem_map_of_mem (f:=(·.n)) hy)
theorem ix {C:List (List Int)} {dt:List Bool}:∀{k:Nat} {x:bu},x∈cB C dt k→∃p:Nat,p<k∧x=⟨(p:Int),C.getD p al.aZ⟩
 |0,x,h=>by cases h
 |k+1,x,h=>by
  rw[cB] at h;split at h
  ·rcases List.mem_append.1 h with h|h
   ·obtain⟨p,a,b⟩:=ix h;exact⟨p,by omega,b⟩
   ·exact⟨k,by omega,List.mem_singleton.1 h⟩
  ·obtain⟨p,a,b⟩:=ix h;exact⟨p,by omega,b⟩
theorem jR (C:List (List Int)) (dt:List Bool):∀k,((cB C dt k).map (·.n)).Nodup
 |0=>List.nodup_nil
 |k+1=>by
  rw[cB];split
  ·rw[List.map_append,List.nodup_append];refine⟨jR C dt k,by simp,fun a ha b hb=>?_⟩;obtain⟨x,hx,rfl⟩:=List.mem_map.1 ha;obtain⟨p,hp,rfl⟩:=ix hx;simp only[List.map_cons,List.map_nil,List.mem_singleton] at hb;subst hb;intro e;simp only at e;omega
  ·exact jR C dt k
theorem rS {C:List (List Int)} {dt:List Bool}:∀x∈bA C dt,0≤x.n∧x.n<14:=fun x hx=>by
 obtain⟨p,hp,rfl⟩:=ix hx;simp only;omega
theorem qW (C:List (List Int)) (dt:List Bool):pW (bA C dt)=0:=sY _ _ rS (jR C dt 14) (fun _ _ _ h=>by cases h)
theorem CB {C:List (List Int)} {dt:List Bool} (h:dC C):∀x∈bA C dt,x.w.length=8:=fun x hx=>by
 obtain⟨p,hp,rfl⟩:=ix hx;exact iw h hp
theorem CC {W:List Int} {l:List bu} {x:bu} (p:Int):∀k,k≤l.length→AV W (l++[x]) k p=AV W l k p
 |0,_=>rfl
 |k+1,h=>by
  (have e1:(l++[x])[k]? =some l[k]:=by rw[List.getElem?_append_left (by omega),List.getElem?_eq_getElem (by omega)]);rw[oN e1,oN (List.getElem?_eq_getElem (by omega:k<l.length)),CC p k (by omega)]
theorem Gr {W:List Int} {l:List bu} {x:bu} (p:Int):AV W (l++[x]) (l++[x]).length p=if x.n=p then x.w else AV W l l.length p:=by
 rw[List.length_append,List.length_singleton,oN (x:=x) (by simp),CC p _ (Nat.le_refl _)]
theorem uQ (W:List Int) (C:List (List Int)) (dt:List Bool) (p:Nat):∀k,AV W (cB C dt k) (cB C dt k).length p=if p<k∧dt.getD p false=true then C.getD p al.aZ else W
 |0=>by rw[if_neg (by omega)];rfl
 |k+1=>by
  have ih:=uQ W C dt p k;rw[cB];by_cases hk:dt.getD k false=true
  ·rw[if_pos hk,Gr,ih];by_cases e:p=k
   ·subst e;rw[if_pos rfl,if_pos ⟨by omega,hk⟩]
   ·rw[if_neg (by simp only;omega)];by_cases h2:p<k∧dt.getD p false=true
    ·rw[if_pos h2,if_pos ⟨by omega,h2.2⟩]
    ·rw[if_neg h2,if_neg (fun q=>h2 ⟨by omega,q.2⟩)]
  ·rw[if_neg hk,ih];by_cases h2:p<k∧dt.getD p false=true
   ·rw[if_pos h2,if_pos ⟨by omega,h2.2⟩]
   ·rw[if_neg h2,if_neg (fun q=>h2 ⟨by
     rcases Nat.lt_or_ge p k with z|z
     ·exact z
     ·have:p=k:=by omega
      subst this;exact absurd q.2 hk,q.2⟩)]
theorem vU (p:Nat):rG.getD p false=false:=by
 rw[rG,List.getD_eq_getElem?_getD,List.getElem?_replicate];split<;>rfl
theorem AX:dC mI:=⟨by simp[mI],fun w hw=>by rw[List.eq_of_mem_replicate hw];rfl⟩
theorem nA.sync {d d':al} {s s':cY} {inn dt:List Bool} {pg C:List (List Int)} (h:nA d s inn dt pg C) (hp:∀p:Int,bB d' s' p=AV (bB d s p) (bA C dt) (bA C dt).length p):nA d' s' inn rG pg C∧∀p:Nat,p<14→bB d' s' p=C.getD p al.aZ:=by
 have key:∀p:Nat,p<14→bB d' s' p=C.getD p al.aZ:=fun p qd=>by
  rw[hp p];have:=uQ (bB d s p) C dt p 14;refine this.trans ?_;by_cases hd:dt.getD p false=true
  ·rw[if_pos ⟨qd,hd⟩]
  ·rw[if_neg (fun q=>hd q.2)];exact(h.r7 p qd (by revert hd;cases dt.getD p false<;>simp)).symm
 refine⟨⟨h.li,rfl,h.pp,h.cc,fun p qd=>?_,fun p _ hq=>?_,fun p qd _=>(key p qd).symm⟩,key⟩
 ·split
  ·rename_i hi;rw[h.val p qd,if_pos hi]
  ·exact(key p qd).symm
 ·rw[vU] at hq;cases hq
def cw (d:al) (s:cY):List (List Int):=(List.range 14).map fun p=>bB d s (p:Nat)
theorem fg (d:al) (s:cY) {p:Nat} (hp:p<14):(cw d s).getD p al.aZ=bB d s p:=by
 simp[cw,List.getD_eq_getElem?_getD,List.getElem?_range hp]
theorem gU {d:al} (hd:d.ok) (s:cY):dC (cw d s):=⟨by simp[cw],fun w hw=>by
 obtain⟨p,-,rfl⟩:=List.mem_map.1 hw
 exact pZ hd s p⟩
theorem rT {P Q:List (List Int)} (hP:dC P) (hQ:dC Q) (h:∀p,p<14→P.getD p al.aZ=Q.getD p al.aZ):P=Q:=by
 refine List.ext_getElem (by rw[hP.1,hQ.1]) (fun i h1 h2=>?_);have:=h i (by rw[←hP.1];exact h1);simpa[List.getD_eq_getElem?_getD,List.getElem?_eq_getElem h1,List.getElem?_eq_getElem h2] using this
theorem nA.new {d:al} (hd:d.ok) (s:cY):nA d s rG rG mI (cw d s):=by
 refine⟨rfl,rfl,AX,gU hd s,fun p hp=>?_,fun p _ hq=>?_,fun p hp _=>fg d s hp⟩
 ·rw[vU,if_neg (by simp),fg d s hp]
 ·rw[vU] at hq;cases hq
theorem Gs (σ:PH) (b sb db:Nat) (d:al) (s:cY) (inn dt:List Bool) (pg C:List (List Int)) (D:Int) (hG:Good d s) (AP:s.gen<4611686018427387904) (hD:EX D) (h:nA d s inn dt pg C):
 ae Tryz.prog 225 #[ptr b,i64 D] σ [au b (aS sb inn dt pg) 242,br sb db s,a7 db d] (aE fun v ag ah=>∃j:Nat,j≤(bA C dt).length+5∧(j<(bA C dt).length+5→D=(j:Int))∧(j=(bA C dt).length+5→∀i:Nat,i<(bA C dt).length+5→D≠(i:Int))∧v=.bool (decide (j=(bA C dt).length+5))∧σ.sub ag∧ah=[au b (aS sb inn (if j=(bA C dt).length+5 then rG else dt) pg) 242,br sb db (if j=(bA C dt).length+5 then cX s (bA C dt) else s),a7 db (ef d s (bA C dt) j)]):=by
 have ml:(aS sb inn dt pg)[0]? =some (ptr sb):=rfl;refine bS Tryz.func225 ?_;refine aO ?_;refine XA.draw (by kernel_rfl) _ _ [7] [(0,.pu),(1,.pu),(2,.pu),(3,.rd),(4,.pu),(6,.pu),(5,.wr),(7,.wr),(8,.pu),(9,.pu),(10,.pu),(11,.pu),(12,.pu)] (by kernel_rfl) (PH.sub.refl _) (aw.bP (R:=au b _ _) zL (aw.nil _)) ?_;refine aO ?_;refine aK.fL rfl rfl Gd.free (aC.cE (CA σ b sb d s inn dt pg C h) rfl) ?_;rintro _ _ _ ⟨_,⟨p,c,rows,rfl,hr,rfl,rfl⟩,rfl⟩;refine stays (aK.cl ?_);refine aK.bj rfl rfl Gd.free (by kernel_rfl) (aC.cE (yh σ sb db s d p c rows (bA C dt) D hr (qW C dt) hG AP hD) rfl) ?_;rintro _ ag _ ⟨_,⟨j,zv,EZ,Oo,rfl,hs,rfl⟩,rfl⟩;refine aK.cl ?_;refine eP ?_;have Wl:=p9 (sb:=sb) h.li h.ld h.pp;by_cases hj:j=(bA C dt).length+5
 ·have fR:=La (sb:=sb) (pg:=pg) (Vd:=rG) h.li h.ld rfl;(have ey:15+Fh.size≤(aS sb inn dt pg).length:=by rw[Wl];decide);rw[if_pos hj];refine XA.bG rfl (decide_eq_true hj) ?_;refine aN ?_;refine zO rfl (Rd.UB (fun _ _=>ad) rfl rfl rfl) ?_;refine bH ?_;exact ao.ret (aG.one rfl rfl) (by rw[if_pos hj,if_pos hj];exact zE) ⟨j,zv,EZ,Oo,rfl,hs,rfl⟩
 ·rw[if_neg hj];refine XA.aR rfl (decide_eq_false hj) ?_;refine a8 ?_;exact ao.ret (aG.one rfl rfl) (by rw[if_neg hj,if_neg hj];exact zE) ⟨j,zv,EZ,Oo,rfl,hs,rfl⟩
theorem lE {P:List (List Int)} (h:dC P):P.flatten.length=112:=by
 have:=oL h
 rwa [aj] at this
theorem Rd.yi {P:Program} {ρ:Env} {S:Heap→Prop} {ty T T' e:TypeId} {x:Operand} {r:Ty} {a:Option Addr} (hT:av P T=some r) (hk:r.k=.pointer e) (hx:ev ρ x=.pointer a):Rd P ρ S (.binOp .eql T x (.const (.pointer none)) T') ty (.bool a.isNone):=by
 (refine .pure fun d pos af gd w=>?_);obtain⟨dd,i,z,e1,e2,-⟩:=aD hT;rw[hk] at e2;(cases dd<;>simp[kindOf] at e2);rw[e2] at e1;(have hp:P.underlying T=some (.pointer (P.pointee T)):=by simp[Program.pointee,e1]);have h1:=run_equal_pointer_nil (P:=P) w T a hp;simp only[execOp,eqGuard,hx,ev,binOp,Sem.run_bind];simp[h1]
theorem Gt:cw al.new s0=mI:=rT (gU Good.new.Cp s0) AX (fun p hp=>by
 rw[fg _ _ hp,Vb]
 rw[mI,List.getD_eq_getElem?_getD,List.getElem?_replicate,if_pos hp];rfl)
theorem Gu (σ:PH) (b sb db:Nat) (d:al) (s:cY) (inn dt:List Bool) (pg C:List (List Int)) (hG:Good d s) (AP:s.gen<4611686018427387904) (h:nA d s inn dt pg C):
 ae Tryz.prog 225 #[ptr b,i64 (-1)] σ [au b (aS sb inn dt pg) 242,br sb db s,a7 db d] (aE fun v ag ah=>∃(d':al) (s':cY),v=.bool true∧Good d' s'∧s'.gen=s.gen+1∧nA d' s' inn rG pg C∧(∀p:Nat,p<14→bB d' s' p=C.getD p al.aZ)∧σ.sub ag∧ah=[au b (aS sb inn rG pg) 242,br sb db s',a7 db d']):=by
 refine(Gs σ b sb db d s inn dt pg C (-1) hG AP ⟨by decide,by decide⟩ h).ret ?_;rintro v ag ah ⟨j,zv,EZ,Oo,rfl,hs,rfl⟩
 obtain rfl:j=(bA C dt).length+5:=by
  rcases Nat.lt_or_ge j ((bA C dt).length+5) with h|h
  ·have:=EZ h;omega
  ·omega
 obtain⟨h1,h2⟩:=x9 hG (CB (dt:=dt) h.cc) (sP (qW C dt)).2.2 rS;obtain⟨h3,h4⟩:=h.sync (ye rS h2);exact⟨_,_,congrArg Value.bool (decide_eq_true rfl),h1,rfl,h3,h4,hs,by rw[if_pos rfl,if_pos rfl]⟩
theorem X.ae.yj {P:Program} {f:FuncId} {vs:Array Value} {σ:PH} {Γ:List HP} {R R':Value→PH→List HP→Prop} (h:ae P f vs σ Γ (aE R)) (hr:∀v ag ah,R v ag ah→∃Δ,aw ah Δ∧R' v ag Δ):ae P f vs σ Γ (aE R'):=
 ⟨h.1,fun fr hp hh=>(h.2 fr hp hh).mono fun e h' ⟨ag,ah,a,b⟩=>by
  cases e with
  |returned v=>obtain⟨Δ,e1,e2⟩:=hr v ag ah a;exact⟨ag,Δ,e2,b.eS e1⟩
  |panicked c=>exact a.elim
  |outgrown=>exact a.elim⟩
structure Me where
 C:List (List Int)
 dt:List Bool
namespace Me
def ld (M:Me) (a:Int):Int:=eL M.C a
def put (M:Me) (a w:Int):Me:=⟨iD M.C a w,vT M.C M.dt a w⟩
end Me
def eh (mb sb db:Nat) (d:al) (s:cY) (M:Me):HP:=fun m=>∃x:List Bool×List (List Int),(Good d s∧nA d s x.1 M.dt x.2 M.C)∧Sat [au mb (aS sb x.1 M.dt x.2) 242,br sb db s,a7 db d] m
theorem eh.aY {mb sb db:Nat} {d:al} {s:cY} {M:Me}:∀m,eh mb sb db d s M m→∃x:List Bool×List (List Int),(Good d s∧nA d s x.1 M.dt x.2 M.C)∧Sat [au mb (aS sb x.1 M.dt x.2) 242,br sb db s,a7 db d] m:=fun _ h=>h
theorem eh.mk {mb sb db:Nat} {d:al} {s:cY} {C pg:List (List Int)} {inn dt:List Bool} (hG:Good d s) (hM:nA d s inn dt pg C):∀m,Sat [au mb (aS sb inn dt pg) 242,br sb db s,a7 db d] m→eh mb sb db d s ⟨C,dt⟩ m:=fun _ h=>⟨(inn,pg),⟨hG,hM⟩,h⟩
theorem gv (σ:PH) (mb sb db:Nat) (d:al) (s:cY) (M:Me) (a:Int):
 ae Tryz.prog 117 #[ptr mb,i64 a] σ [eh mb sb db d s M] (aE fun v ag ah=>v=i64 (M.ld a)∧σ=ag∧ah=[eh mb sb db d s M]):=by
 refine ae.aY .head eh.aY (enters Tryz.func117 rfl rfl) ?_;rintro⟨inn,pg⟩ ⟨hG,hM⟩;refine(Rb σ mb sb db d s inn M.dt pg M.C a hG.Cp hG.Cs hM).yj ?_;rintro v ag _ ⟨rfl,rfl,nB,yg,DV,rfl⟩;exact⟨_,aw.eC (aw.refl _) (eh.mk hG DV),rfl,rfl,rfl⟩
theorem qX (σ:PH) (mb sb db:Nat) (d:al) (s:cY) (M:Me) (a w:Int):
 ae Tryz.prog 196 #[ptr mb,i64 a,i64 w] σ [eh mb sb db d s M] (aE fun v ag ah=>v=.bool (decide (0≤a∧a<112))∧σ=ag∧ah=[eh mb sb db d s (M.put a w)]):=by
 refine ae.aY .head eh.aY (enters Tryz.func196 rfl rfl) ?_;rintro⟨inn,pg⟩ ⟨hG,hM⟩;refine(Ve σ mb sb db d s inn M.dt pg M.C a w hG.Cp hG.Cs hM).yj ?_;rintro v ag _ ⟨rfl,rfl,nB,yg,DV,rfl⟩;exact⟨_,aw.eC (aw.refl _) (eh.mk hG DV),rfl,rfl,rfl⟩
theorem yl {d:al} {s:cY} {C:List (List Int)} (hG:Good d s) (hC:dC C) (h:∀p:Nat,p<14→bB d s p=C.getD p al.aZ):cw d s=C:=rT (gU hG.Cp s) hC (fun p hp=>by rw[fg d s hp,h p hp])
theorem Re (σ:PH) (mb sb db:Nat) (d:al) (s:cY) (M:Me) (hg:s.gen<4611686018427387904):
 ae Tryz.prog 225 #[ptr mb,i64 (-1)] σ [eh mb sb db d s M] (aE fun v ag ah=>∃(d':al) (s':cY),v=.bool true∧s'.gen=s.gen+1∧cw d' s'=M.C∧Good d' s'∧σ.sub ag∧ah=[eh mb sb db d' s' ⟨M.C,rG⟩]):=by
 refine ae.aY .head eh.aY (enters Tryz.func225 rfl rfl) ?_;rintro⟨inn,pg⟩ ⟨hG,hM⟩;refine(Gu σ mb sb db d s inn M.dt pg M.C hG hg hM).yj ?_;rintro v ag _ ⟨d',s',rfl,YA,V7,DV,hp,hs,rfl⟩;exact⟨_,aw.eC (aw.refl _) (eh.mk YA DV),d',s',rfl,V7,yl YA hM.cc hp,YA,hs,rfl⟩
theorem Vh (σ:PH) (sb db:Nat) (d:al) (s:cY) (hG:Good d s):
 ae Tryz.prog 150 #[ptr sb] σ [br sb db s,a7 db d] (aE fun v ag ah=>∃mb,v=ptr mb∧σ=ag∧ah=[eh mb sb db d s ⟨cw d s,rG⟩]):=by
 refine(ae.yj (R:=fun v ag ah=>∃b,v=ptr b∧σ=ag∧ah=[au b (aS sb rG rG mI) 242,br sb db s,a7 db d]) ?_ ?_)
 ·refine((Rc σ sb).frame [br sb db s,a7 db d] (aw.refl _)).mono ?_;rintro e ag _ ⟨b7,h,rfl⟩
  cases e with
  |returned v=>obtain⟨b,e1,e2,rfl⟩:=h;exact⟨b,e1,e2,rfl⟩
  |panicked c=>exact h.elim
  |outgrown=>exact h.elim
 rintro v ag _ ⟨b,rfl,rfl,rfl⟩;exact⟨_,aw.eC (aw.refl _) (eh.mk hG (nA.new hG.Cp s)),b,rfl,rfl,rfl⟩
theorem uR {C:List (List Int)} {a:Int} (h:¬(0≤a∧a<112)):eL C a=0:=by rw[eL,if_neg h]
theorem DW {C:List (List Int)} (h:dC C) (a w:Int) {k:Nat} (hk:k<112):eL (iD C a w) k=if (k:Int)=a then w else eL C k:=by
 unfold iD;split
 ·rename_i hc;obtain⟨n,rfl⟩:=Int.eq_ofNat_of_zero_le hc.1.1;(have hn:n<112:=by omega);rw[qe _ hk,qe _ hk,Int.toNat_natCast,jn (by rw[h.1];omega)];by_cases e:k/8=n/8
  ·rw[if_pos e,x6 (by rw[iw h (by omega)];omega)];by_cases e2:k%8=n%8
   ·rw[if_pos e2,if_pos (by omega)]
   ·rw[if_neg e2,if_neg (by omega),e]
  ·rw[if_neg e,if_neg (by omega)]
 ·rename_i hc;split
  ·rename_i e;subst e;exact Classical.byContradiction fun q=>hc ⟨by omega,q⟩
  ·rfl
structure In where
 op:Int
 a:Int
 b:Int
 n:Int
deriving DecidableEq
def Lc (i:In):List Value:=[i64 i.op,i64 i.a,i64 i.b,i64 i.n]
def fu (vs:List Va) (v:Int):Int:=(vs[v.toNat]?.map (·.size)).getD 0
def lu (vs:List Va) (op v n:Int):In:=⟨op,if op=2∨op=3 then cellOf vs v else 0,if op=3 then fu vs v else 0,n⟩
mutual
def aA (vs:List Va):Ex→List In
 |.mk op v n l=>bm vs l++[lu vs op v n]
def bm (vs:List Va):List Ex→List In
 |[]=>[]
 |x::l=>aA vs x++bm vs l
end
mutual
def bg (vs:List Va):St→Nat→List In
 |.mk op v e f body cG,at_=>
  let l:=if dT op then aA vs e else []
  if op=1 then l++[⟨9,cellOf vs v,0,0⟩]
  else if op=2 then l++aA vs f++[⟨10,cellOf vs v,fu vs v,0⟩]
  else if op=3 then l++[⟨11,0,0,0⟩]
  else if op=4 then l++[⟨12,cellOf vs v,0,0⟩]
  else if op=5 then
   let b:=aH vs body (at_+l.length+1)
   l++[⟨13,(at_+l.length+1+b.length+1:Nat),0,0⟩]++b++[⟨14,(at_:Nat),0,0⟩]
  else if op=6 then
   let b:=aH vs body (at_+l.length+1)
   let o:=aH vs cG (at_+l.length+1+b.length+1)
   l++[⟨13,(at_+l.length+1+b.length+1:Nat),0,0⟩]++b++[⟨14,(at_+l.length+1+b.length+1+o.length:Nat),0,0⟩]++o
  else if op=7 then [⟨15,0,0,0⟩]
  else l
def aH (vs:List Va):List St→Nat→List In
 |[],_=>[]
 |x::l,at_=>bg vs x at_++aH vs l (at_+(bg vs x at_).length)
end
def ak (p:Pr):List In:=aH p.vars p.body 0++[⟨16,0,0,0⟩]
theorem qY (vs:List Va):∀(l m:List Ex),bm vs (l++m)=bm vs l++bm vs m
 |[],m=>by simp[bm]
 |x::l,m=>by rw[List.cons_append,bm,bm,qY vs l m,List.append_assoc]
theorem vV (vs:List Va) {l:List Ex} {k:Nat} {x:Ex} (h:l[k]? =some x):bm vs (l.take (k+1))=bm vs (l.take k)++aA vs x:=by
 rw[List.take_add_one,h];simp[qY,bm]
theorem qZ (vs:List Va):∀(l m:List St) (k:Nat),aH vs (l++m) k=aH vs l k++aH vs m (k+(aH vs l k).length)
 |[],m,k=>by simp[aH]
 |x::l,m,k=>by rw[List.cons_append,aH,aH,qZ vs l m,List.append_assoc,List.length_append,Nat.add_assoc]
theorem vW (vs:List Va) {l:List St} {k:Nat} {x:St} (h:l[k]? =some x) (j:Nat):aH vs (l.take (k+1)) j=aH vs (l.take k) j++bg vs x (j+(aH vs (l.take k) j).length):=by
 rw[List.take_add_one,h];simp[qZ,aH]
theorem kU (vs:List Va):∀(l:List Ex),(∀x∈l,(aA vs x).length=rO x)→(bm vs l).length=jO l
 |[],_=>rfl
 |x::l,h=>by rw[bm,jO,List.length_append,h x (by simp),kU vs l (fun y hy=>h y (by simp[hy]))]
theorem jo (vs:List Va) (x:Ex):(aA vs x).length=rO x:=by
 refine Ex.ind (P:=fun x=>(aA vs x).length=rO x) ?_ x;intro op v n l ih;rw[aA,rO,List.length_append,kU vs l ih,List.length_singleton,Nat.add_comm]
theorem ym (vs:List Va) (l:List Ex):(bm vs l).length=jO l:=kU vs l (fun x _=>jo vs x)
theorem iS (vs:List Va):∀(l:List St),(∀x∈l,∀k,(bg vs x k).length≤zj x)→∀k,(aH vs l k).length≤ez l
 |[],_,_=>Nat.zero_le _
 |x::l,h,k=>by
  have h1:=h x (by simp) k;have h2:=iS vs l (fun y hy=>h y (by simp[hy])) (k+(bg vs x k).length);rw[aH,ez,List.length_append];omega
theorem AY (vs:List Va) (x:St):∀k,(bg vs x k).length≤zj x:=by
 refine St.ind (P:=fun x=>∀k,(bg vs x k).length≤zj x) ?_ x;intro op v e f body cG ih jh k;have hb:=iS vs body ih;have he:=iS vs cG jh;have h1:=kE e;have h2:=kE f;(have hl:(if dT op then aA vs e else []).length≤rO e:=by split<;>simp[jo]);rw[bg,zj];have SN:=hb (k+(if dT op then aA vs e else []).length+1);have Wn:=he (k+(if dT op then aA vs e else []).length+1+(aH vs body (k+(if dT op then aA vs e else []).length+1)).length+1);by_cases g1:op=1
 ·simp only[g1,if_true,List.length_append,List.length_singleton] at*;omega
 by_cases g2:op=2
 ·simp only[g2,show ¬(2:Int)=1 by decide,if_true,if_false,List.length_append,List.length_singleton,jo] at*;omega
 by_cases g3:op=3
 ·simp only[g3,show ¬(3:Int)=1 by decide,show ¬(3:Int)=2 by decide,if_true,if_false,List.length_append,List.length_singleton] at*;omega
 by_cases g4:op=4
 ·simp only[g4,show ¬(4:Int)=1 by decide,show ¬(4:Int)=2 by decide,show ¬(4:Int)=3 by decide,if_true,if_false,List.length_append,List.length_singleton] at*;omega
 simp only[g1,g2,g3,g4,if_false];generalize (if dT op then aA vs e else [])=L at*;by_cases g5:op=5
 ·rw[if_pos g5];simp only[List.length_append,List.length_singleton];omega
 rw[if_neg g5];by_cases g6:op=6
 ·rw[if_pos g6];simp only[List.length_append,List.length_singleton];omega
 rw[if_neg g6];by_cases g7:op=7
 ·rw[if_pos g7];simp only[List.length_singleton];omega
 rw[if_neg g7];omega
theorem fO (vs:List Va) (l:List St) (k:Nat):(aH vs l k).length≤ez l:=iS vs l (fun x _=>AY vs x) k
mutual
def DX:Ex→Nat
 |.mk _ _ _ l=>1+AZ l
def AZ:List Ex→Nat
 |[]=>0
 |x::l=>max (DX x) (AZ l)
end
mutual
def ra (nv:Nat):Ex→Prop
 |.mk op v n l=>(1≤op∧op≤8)∧(l.length:Int)=partsOf op∧(op=2∨op=3→0≤v∧v<nv)∧(n≠0→op=1)∧vX nv l
def vX (nv:Nat):List Ex→Prop
 |[]=>True
 |x::l=>ra nv x∧vX nv l
end
mutual
def A0 (nv:Nat):St→Prop
 |.mk op v e f body cG=>(1≤op∧op≤7)∧(qQ op=true→0≤v∧v<nv)∧(dT op=true→ra nv e∧DX e≤12)∧(j6 op=true→ra nv f∧DX f≤12)∧(qR op=false→body=[])∧(qS op=false→cG=[])∧qf nv body∧qf nv cG
def qf (nv:Nat):List St→Prop
 |[]=>True
 |x::l=>A0 nv x∧qf nv l
end
theorem vX.mem {nv:Nat}:∀{l:List Ex},vX nv l→∀x∈l,ra nv x
 |[],_,_,h=>by simp at h
 |y::l,h,x,hx=>by
  rw[vX] at h;rcases List.mem_cons.1 hx with rfl|hx
  ·exact h.1
  ·exact vX.mem h.2 x hx
theorem qf.mem {nv:Nat}:∀{l:List St},qf nv l→∀x∈l,A0 nv x
 |[],_,_,h=>by simp at h
 |y::l,h,x,hx=>by
  rw[qf] at h;rcases List.mem_cons.1 hx with rfl|hx
  ·exact h.1
  ·exact qf.mem h.2 x hx
theorem jF {e:JE} {b:Bool} {c l:Int} (h:e.fail b c=.ok l):e=.ok l∧b=false:=by
 cases e with
 |error d=>simp[JE.fail] at h
 |ok a=>cases b<;>simp[JE.fail] at h⊢;exact h
theorem CD {e:JE} {d l:Int} (h:e.one d=.ok l):d≤12∧∃a,e=.ok a:=by
 cases e with
 |error c=>simp[JE.one] at h
 |ok a=>
  simp only[JE.one] at h;split at h
  ·simp at h
  ·exact⟨by omega,a,rfl⟩
theorem DY {nv deep op v n a b:Int} {k:Nat} (h:fz nv deep op v n k (.ok a)=.ok b):
 deep≤12∧(1≤op∧op≤8)∧(k:Int)=partsOf op∧(op=2∨op=3→0≤v∧v<nv)∧(n≠0→op=1):=by
 rw[fz,JE.named] at h;obtain⟨h,h5⟩:=jF h;obtain⟨h,h4⟩:=jF h;obtain⟨h,h3⟩:=jF h;obtain⟨h,h2⟩:=jF h;obtain⟨h1,-⟩:=CD h;simp only[decide_eq_false_iff_not] at h2 h3;refine⟨h1,?_,by omega,?_,fun hn=>by omega⟩
 ·(have:0≤partsOf op:=by omega);rw[partsOf] at this;constructor<;> · (repeat' split at this);(all_goals omega)
 ·intro ho;simp only[ho,decide_true,Bool.true_and,decide_eq_false_iff_not] at h4;omega
theorem CF {nv:Nat}:∀(l:List Ex),(∀x∈l,∀deep a b:Int,la nv deep x (.ok a)=.ok b→ra nv x∧deep+DX x≤13)→∀deep a b:Int,deep≤13→gF nv deep l (.ok a)=.ok b→vX nv l∧deep+AZ l≤13
 |[],_,deep,a,b,hd,_=>by rw[vX,AZ];exact⟨trivial,by omega⟩
 |x::l,h,deep,a,b,hd,hx=>by
  rw[gF] at hx
  cases e:la nv deep x (.ok a) with
  |error c=>rw[e,so] at hx;cases hx
  |ok a1=>
   rw[e] at hx;obtain⟨g1,g2⟩:=h x (by simp) deep a a1 e;obtain⟨g3,g4⟩:=CF l (fun y hy=>h y (by simp[hy])) deep a1 b hd hx;rw[vX,AZ];exact⟨⟨g1,g3⟩,by omega⟩
theorem Gv {nv:Nat} (x:Ex):∀deep a b:Int,la nv deep x (.ok a)=.ok b→ra nv x∧deep+DX x≤13:=by
 refine Ex.ind (P:=fun x=>∀deep a b:Int,la nv deep x (.ok a)=.ok b→ra nv x∧deep+DX x≤13) ?_ x;intro op v n l ih deep a b h;rw[la] at h
 cases e:fz nv deep op v n l.length (.ok a) with
 |error c=>rw[e,so] at h;cases h
 |ok a1=>
  rw[e] at h;obtain⟨g1,g2,g3,g4,g5⟩:=DY e;obtain⟨g6,g7⟩:=CF l ih (deep+1) a1 b (by omega) h;rw[ra,DX];exact⟨⟨g2,g3,g4,g5,g6⟩,by omega⟩
theorem DZ {nv deep op v a b:Int} {e f:Ex} {kb ke:Nat} (h:fb nv deep op v e f kb ke (.ok a)=.ok b):
 deep≤12∧(1≤op∧op≤7)∧(qQ op=true→0≤v∧v<nv)∧(qR op=false→kb=0)∧(qS op=false→ke=0):=by
 rw[fb,JE.named] at h;obtain⟨h,h5⟩:=jF h;obtain⟨h,h4⟩:=jF h;obtain⟨h,h3⟩:=jF h;obtain⟨h,h2⟩:=jF h;obtain⟨h1,-⟩:=CD h;simp only[decide_eq_false_iff_not] at h2;simp only[pO,Bool.or_eq_false_iff,Bool.and_eq_false_imp,Bool.not_eq_true',decide_eq_false_iff_not] at h3;refine⟨h1,by omega,?_,?_,?_⟩
 ·intro ho;simp only[ho,Bool.true_and,decide_eq_false_iff_not] at h4;omega
 ·intro hb;have:=h3.1.2 hb;omega
 ·intro hb;have:=h3.2 hb;omega
theorem rU {nv:Nat}:∀(l:List St),(∀x∈l,∀deep a b:Int,0≤deep→og nv deep x (.ok a)=.ok b→A0 nv x)→∀deep a b:Int,0≤deep→dL nv deep l (.ok a)=.ok b→qf nv l
 |[],_,deep,a,b,_,_=>by rw[qf];trivial
 |x::l,h,deep,a,b,hd,hx=>by
  rw[dL] at hx
  cases e:og nv deep x (.ok a) with
  |error c=>rw[e,gf] at hx;cases hx
  |ok a1=>
   rw[e] at hx;rw[qf];exact⟨h x (by simp) deep a a1 hd e,rU l (fun y hy=>h y (by simp[hy])) deep a1 b hd hx⟩
theorem Rf {nv:Nat} (x:St):∀deep a b:Int,0≤deep→og nv deep x (.ok a)=.ok b→A0 nv x:=by
 refine St.ind (P:=fun x=>∀deep a b:Int,0≤deep→og nv deep x (.ok a)=.ok b→A0 nv x) ?_ x;intro op v e f body cG ih jh deep a b hd h;rw[og] at h
 cases e1:fb nv deep op v e f body.length cG.length (.ok a) with
 |error c=>rw[e1,sq,gf,gf] at h;cases h
 |ok a1=>
  rw[e1] at h
  cases e2:oe nv (deep+1) op e f (.ok a1) with
  |error c=>rw[e2,gf,gf] at h;cases h
  |ok a2=>
   rw[e2] at h
   cases e3:dL nv (deep+1) body (.ok a2) with
   |error c=>rw[e3,gf] at h;cases h
   |ok a3=>
    rw[e3] at h;obtain⟨g1,g2,g3,g4,g5⟩:=DZ e1;have hb:=rU body ih (deep+1) a2 a3 (by omega) e3;have he:=rU cG jh (deep+1) a3 b (by omega) h;rw[A0];rw[oe] at e2;refine⟨g2,g3,?_,?_,fun hn=>List.eq_nil_of_length_eq_zero (g4 hn),fun hn=>List.eq_nil_of_length_eq_zero (g5 hn),hb,he⟩
    ·intro hn;rw[if_pos hn] at e2
     cases e4:la nv (deep+1) e (.ok a1) with
     |error c=>simp only[e4,mf,ite_self] at e2;cases e2
     |ok a4=>obtain⟨k1,k2⟩:=Gv e _ _ _ e4;exact⟨k1,by omega⟩
    ·intro hn;simp only[hn,if_true] at e2
     cases e4:(if dT op=true then la nv (deep+1) e (.ok a1) else .ok a1:JE) with
     |error c=>rw[e4,mf] at e2;cases e2
     |ok a4=>rw[e4] at e2;obtain⟨k1,k2⟩:=Gv f _ _ _ e2;exact⟨k1,by omega⟩
theorem dr {p:Pr} (h:bR p=0):qf p.vars.length p.body∧p.vars.length≤8∧(∀x∈p.vars,1≤x.size)∧sizes p.vars≤48:=by
 obtain⟨h1,b,h2⟩:=Fx h;exact⟨rU p.body (fun x _=>Rf x) 0 150 b (Int.le_refl _) h2,xB h1⟩
def bX (op:Int):Int:=if op=3 then 1 else if 4≤op∧op≤8 then 2 else if op=9∨op=11∨op=13 then 1 else if op=10 then 2 else 0
def fB (op:Int):Int:=if 1≤op∧op≤8 then 1 else 0
def dl (x:In):Int:=fB x.op-bX x.op
def ln (l:List In):Int:=(l.map dl).sum
theorem rV:ln []=0:=rfl
theorem sZ (x:In) (l:List In):ln (x::l)=dl x+ln l:=by simp[ln]
theorem cJ (l m:List In):ln (l++m)=ln l+ln m:=by simp[ln,List.sum_append]
theorem gZ (x:In):ln [x]=dl x:=by simp[ln]
def nC (cells:Int) (x:In):Prop:=((x.op=2∨x.op=9∨x.op=12)→0≤x.a∧x.a<cells)∧((x.op=3∨x.op=10)→0≤x.a∧1≤x.b∧x.a+x.b≤cells)
def Fit (cells:Int):Int→List In→Prop
 |_,[]=>True
 |n,x::l=>(bX x.op≤n∧n+dl x≤24∧((x.op=13∨x.op=14)→n+dl x=0)∧nC cells x∧x.op≠16)∧Fit cells (n+dl x) l
theorem Fit.app {cells:Int}:∀{l m:List In} {n:Int},Fit cells n l→Fit cells (n+ln l) m→Fit cells n (l++m)
 |[],m,n,_,h=>by rw[rV,Int.add_zero] at h;exact h
 |x::l,m,n,h,g=>by
  rw[Fit] at h;rw[sZ] at g;rw[List.cons_append,Fit];exact⟨h.1,Fit.app h.2 (by rw[Int.add_assoc];exact g)⟩
theorem Fit.at {cells:Int}:∀{l:List In} {n:Int},Fit cells n l→∀{i:Nat} {x:In},l[i]? =some x→bX x.op≤n+ln (l.take i)∧n+ln (l.take (i+1))≤24∧((x.op=13∨x.op=14)→n+ln (l.take (i+1))=0)∧nC cells x∧x.op≠16
 |[],_,_,_,_,hx=>by simp at hx
 |y::l,n,h,0,x,hx=>by
  simp only[List.getElem?_cons_zero,Option.some.injEq] at hx;subst hx;rw[Fit] at h;simp only[List.take_zero,rV,Int.add_zero,List.take_succ_cons,sZ];exact h.1
 |y::l,n,h,i+1,x,hx=>by
  simp only[List.getElem?_cons_succ] at hx;rw[Fit] at h;have:=Fit.at h.2 hx;simp only[List.take_succ_cons,sZ,←Int.add_assoc];exact this
theorem kj {vs:List Va} {v:Int} {x:Va} (h:vs[v.toNat]? =some x):fu vs v=x.size:=by rw[fu,h];rfl
theorem jS {vs:List Va} (h1:∀x∈vs,1≤x.size) {v:Int} (h:0≤v∧v<vs.length):∃x,vs[v.toNat]? =some x∧fu vs v=x.size∧0≤cellOf vs v∧1≤fu vs v∧cellOf vs v+fu vs v≤sizes vs:=by
 (have aT:v.toNat<vs.length:=by omega);have hx:vs[v.toNat]? =some vs[v.toNat]:=List.getElem?_eq_getElem aT;have e:=sr vs v.toNat _ hx;have a:=(xC h1 (v.toNat)).1;have b:=(xC h1 (v.toNat+1)).2;have c:=h1 _ (List.getElem_mem aT);refine⟨_,hx,kj hx,a,by rw[kj hx];exact c,?_⟩;rw[kj hx,cellOf,←e];exact b
theorem Le {vs:List Va} (h1:∀x∈vs,1≤x.size) {op v n:Int} (tY:1≤op∧op≤8) (hv:op=2∨op=3→0≤v∧v<vs.length):nC (sizes vs) (lu vs op v n):=by
 refine⟨fun h=>?_,fun h=>?_⟩
 ·simp only[lu] at h;(have h2:op=2:=by omega);obtain⟨x,-,-,c,d,e⟩:=jS h1 (hv (.inl h2));simp only[lu,h2,true_or,if_true];omega
 ·simp only[lu] at h;(have h2:op=3:=by omega);obtain⟨x,-,-,c,d,e⟩:=jS h1 (hv (.inr h2));simp only[lu,h2,or_true,if_true];exact⟨c,d,e⟩
theorem s6 {op:Int} (h:1≤op∧op≤8):bX op=partsOf op:=by
 rw[bX,partsOf]
 repeat' split
 all_goals omega
theorem Gw {op:Int} (h:1≤op∧op≤8):fB op=1:=if_pos h
theorem Gx (vs:List Va) (op v n:Int):(lu vs op v n).op=op:=rfl
theorem CG {vs:List Va} (h1:∀x∈vs,1≤x.size):∀(l:List Ex),(∀x∈l,∀n:Int,0≤n→n+DX x≤24→Fit (sizes vs) n (aA vs x)∧ln (aA vs x)=1)→∀n:Int,0≤n→n+l.length+AZ l≤25→Fit (sizes vs) n (bm vs l)∧ln (bm vs l)=l.length
 |[],_,n,_,_=>⟨trivial,rfl⟩
 |x::l,h,n,h0,hn=>by
  rw[AZ,List.length_cons] at hn;obtain⟨a,b⟩:=h x (by simp) n h0 (by omega);obtain⟨c,d⟩:=CG h1 l (fun y hy=>h y (by simp[hy])) (n+1) (by omega) (by omega);rw[bm];refine⟨a.app (by rw[b];exact c),?_⟩;rw[cJ,b,d,List.length_cons];omega
theorem Rh {vs:List Va} (h1:∀x∈vs,1≤x.size) (x:Ex):ra vs.length x→∀n:Int,0≤n→n+DX x≤24→Fit (sizes vs) n (aA vs x)∧ln (aA vs x)=1:=by
 refine Ex.ind (P:=fun x=>ra vs.length x→∀n:Int,0≤n→n+DX x≤24→Fit (sizes vs) n (aA vs x)∧ln (aA vs x)=1) ?_ x;intro op v k l ih hx n h0 hn;rw[ra] at hx;obtain⟨tY,hl,hv,-,hs⟩:=hx;rw[DX] at hn;(have hp:(l.length:Int)≤2:=by(rw[hl,partsOf];repeat' split);(all_goals omega));obtain⟨a,b⟩:=CG h1 l (fun y hy n h0 hn=>ih y hy (hs.mem y hy) n h0 hn) n h0 (by omega);rw[aA];(have hd:dl (lu vs op v k)=1-l.length:=by rw[dl,Gx,Gw tY,s6 tY,hl]);refine⟨a.app ?_,?_⟩
 ·rw[b,Fit,Gx,s6 tY,←hl,hd];refine⟨⟨by omega,by omega,fun h=>by omega,Le h1 tY hv,by omega⟩,trivial⟩
 ·rw[cJ,b,gZ,hd];omega
def CH (at_:Nat) (L:List In) (x:In):Prop:=(x.op=13∨x.op=14)→∃j:Nat,x.a=(at_+j:Nat)∧j≤L.length∧ln (L.take j)=0
theorem CH.lift {at_:Nat} {A L B:List In} {x:In} (h:CH (at_+A.length) L x) (hA:ln A=0):CH at_ (A++L++B) x:=fun ho=>by
 obtain⟨j,e,hj,hz⟩:=h ho;refine⟨A.length+j,by rw[e];congr 1;omega,by simp only[List.length_append];omega,?_⟩;rw[List.append_assoc,List.take_length_add_append,cJ,hA,List.take_append_of_le_length hj,hz];rfl
theorem CH.none {at_:Nat} {L:List In} {x:In} (h:x.op≠13∧x.op≠14):CH at_ L x:=fun ho=>by omega
theorem uS {vs:List Va}:∀(l:List Ex),(∀x∈l,∀y∈aA vs x,1≤y.op∧y.op≤8)→∀y∈bm vs l,1≤y.op∧y.op≤8
 |[],_,y,hy=>by simp[bm] at hy
 |x::l,h,y,hy=>by
  rw[bm,List.mem_append] at hy;rcases hy with hy|hy
  ·exact h x (by simp) y hy
  ·exact uS l (fun z hz=>h z (by simp[hz])) y hy
theorem Gy {vs:List Va} {nv:Nat} (x:Ex):ra nv x→∀y∈aA vs x,1≤y.op∧y.op≤8:=by
 refine Ex.ind (P:=fun x=>ra nv x→∀y∈aA vs x,1≤y.op∧y.op≤8) ?_ x;intro op v k l ih hx y hy;rw[ra] at hx;rw[aA,List.mem_append,List.mem_singleton] at hy;rcases hy with hy|rfl
 ·exact uS l (fun z hz=>ih z hz (hx.2.2.2.2.mem z hz)) y hy
 ·exact hx.1
def Piece (cells:Int) (at_:Nat) (L:List In):Prop:=Fit cells 0 L∧ln L=0∧∀x∈L,CH at_ L x
theorem Piece.nil {cells:Int} {at_:Nat}:Piece cells at_ []:=⟨trivial,rfl,fun x h=>by simp at h⟩
theorem Piece.app {cells:Int} {at_:Nat} {L M:List In} (h:Piece cells at_ L) (g:Piece cells (at_+L.length) M):Piece cells at_ (L++M):=by
 refine⟨h.1.app (by rw[h.2.1];exact g.1),by rw[cJ,h.2.1,g.2.1];rfl,fun x hx=>?_⟩;rcases List.mem_append.1 hx with hx|hx
 ·have:=CH.lift (A:=[]) (B:=M) (h.2.2 x hx) rfl;simpa using this
 ·have:=CH.lift (A:=L) (B:=[]) (g.2.2 x hx) h.2.1;simpa using this
theorem Piece.plain {cells:Int} {at_:Nat} {L:List In} (h:Fit cells 0 L) (hz:ln L=0) (hs:∀x∈L,x.op≠13∧x.op≠14):Piece cells at_ L:=⟨h,hz,fun x hx=>CH.none (hs x hx)⟩
theorem mD {vs:List Va} {cells:Int}:∀(l:List St),(∀x∈l,∀k,Piece cells k (bg vs x k))→∀k,Piece cells k (aH vs l k)
 |[],_,k=>by rw[aH];exact Piece.nil
 |x::l,h,k=>by rw[aH];exact(h x (by simp) k).app (mD l (fun y hy=>h y (by simp[hy])) _)
theorem Fit.snoc {cells:Int} {L:List In} {x:In} {n m:Int} (h:Fit cells n L) (hm:n+ln L=m) (h1:bX x.op≤m) (h2:m+dl x≤24) (h3:(x.op=13∨x.op=14)→m+dl x=0) (h4:nC cells x) (h5:x.op≠16):Fit cells n (L++[x]):=
 h.app (by rw[hm];exact⟨⟨h1,h2,h3,h4,h5⟩,trivial⟩)
theorem Gz {vs:List Va} (h1:∀x∈vs,1≤x.size) (x:St):A0 vs.length x→∀k,Piece (sizes vs) k (bg vs x k):=by
 refine St.ind (P:=fun x=>A0 vs.length x→∀k,Piece (sizes vs) k (bg vs x k)) ?_ x;intro op v e f body cG ih jh hx k;rw[A0] at hx;obtain⟨tY,hv,he,hf,hb,ho,ml,jE⟩:=hx;have hB:=mD (cells:=sizes vs) body (fun y hy=>ih y hy (ml.mem y hy));have hE:=mD (cells:=sizes vs) cG (fun y hy=>jh y hy (jE.mem y hy));(have hex:∀{z:Ex} {n:Int},ra vs.length z∧DX z≤12→0≤n→n≤12→Fit (sizes vs) n (aA vs z)∧ln (aA vs z)=1:=fun hz h0 hn=>Rh h1 _ hz.1 _ h0 (by have:=hz.2;omega));(have xd:∀{z:Ex},ra vs.length z∧DX z≤12→∀y∈aA vs z,y.op≠13∧y.op≠14:=fun hz y hy=>by have:=Gy _ hz.1 y hy;omega);rw[bg];(have c0:∀{o a b n:Int},(o=11∨o=13∨o=14∨o=15)→nC (sizes vs) ⟨o,a,b,n⟩:=fun h=>⟨fun g=>by simp only at g;omega,fun g=>by simp only at g;omega⟩);by_cases g1:op=1
 ·subst g1;obtain⟨a,b⟩:=hex (n:=0) (he rfl) (by decide) (by decide);obtain⟨y,-,-,c,d,e'⟩:=jS h1 (hv rfl);simp only[show dT 1=true from rfl,if_true];(refine Piece.plain (a.snoc (m:=1) (by rw[b];rfl) (by simp[bX]) (by simp[dl,bX,fB]) (fun g=>by simp at g) ⟨fun _=>⟨c,by simp only;omega⟩,fun g=>by simp at g⟩ (by simp)) (by rw[cJ,b,gZ];rfl) fun y hy=>?_);rcases List.mem_append.1 hy with hy|hy
  ·exact xd (he rfl) y hy
  ·rw[List.mem_singleton.1 hy];constructor<;>simp
 by_cases g2:op=2
 ·subst g2;obtain⟨a,b⟩:=hex (n:=0) (he rfl) (by decide) (by decide);obtain⟨a',b'⟩:=hex (n:=1) (hf rfl) (by decide) (by decide);obtain⟨y,-,-,c,d,e'⟩:=jS h1 (hv rfl);simp only[show dT 2=true from rfl,if_true,show ¬(2:Int)=1 by decide,if_false];(refine Piece.plain ((a.app (m:=aA vs f) (by rw[b];exact a')).snoc (m:=2) (by rw[cJ,b,b'];rfl) (by simp[bX]) (by simp[dl,bX,fB]) (fun g=>by simp at g) ⟨fun g=>by simp at g,fun _=>⟨c,d,e'⟩⟩ (by simp)) (by rw[cJ,cJ,b,b',gZ];rfl) fun y hy=>?_);rcases List.mem_append.1 hy with hy|hy
  ·rcases List.mem_append.1 hy with hy|hy
   ·exact xd (he rfl) y hy
   ·exact xd (hf rfl) y hy
  ·rw[List.mem_singleton.1 hy];constructor<;>simp
 by_cases g3:op=3
 ·subst g3;obtain⟨a,b⟩:=hex (n:=0) (he rfl) (by decide) (by decide);simp only[show dT 3=true from rfl,if_true,show ¬(3:Int)=1 by decide,show ¬(3:Int)=2 by decide,if_false];(refine Piece.plain (a.snoc (m:=1) (by rw[b];rfl) (by simp[bX]) (by simp[dl,bX,fB]) (fun g=>by simp at g) (c0 (by decide)) (by simp)) (by rw[cJ,b,gZ];rfl) fun y hy=>?_);rcases List.mem_append.1 hy with hy|hy
  ·exact xd (he rfl) y hy
  ·rw[List.mem_singleton.1 hy];constructor<;>simp
 by_cases g4:op=4
 ·subst g4;obtain⟨y,-,-,c,d,e'⟩:=jS h1 (hv rfl);simp only[show dT 4=false from rfl,if_true,show ¬(4:Int)=1 by decide,show ¬(4:Int)=2 by decide,show ¬(4:Int)=3 by decide,if_false,Bool.false_eq_true];(refine Piece.plain (Fit.snoc (L:=[]) (m:=0) trivial rfl (by simp[bX]) (by simp[dl,bX,fB]) (fun g=>by simp at g) ⟨fun _=>⟨c,by simp only;omega⟩,fun g=>by simp at g⟩ (by simp)) rfl fun y hy=>?_);rw[List.nil_append] at hy;rw[List.mem_singleton.1 hy];constructor<;>simp
 by_cases g7:op=7
 ·subst g7;simp only[show dT 7=false from rfl,if_true,show ¬(7:Int)=1 by decide,show ¬(7:Int)=2 by decide,show ¬(7:Int)=3 by decide,show ¬(7:Int)=4 by decide,show ¬(7:Int)=5 by decide,show ¬(7:Int)=6 by decide,if_false,Bool.false_eq_true];(refine Piece.plain (Fit.snoc (L:=[]) (m:=0) trivial rfl (by simp[bX]) (by simp[dl,bX,fB]) (fun g=>by simp at g) (c0 (by decide)) (by simp)) rfl fun y hy=>?_);rw[List.mem_singleton.1 hy];constructor<;>simp
 simp only[g1,g2,g3,g4,g7,if_false];(have YB:op=5∨op=6:=by omega);(have fW:dT op=true:=by rcases YB with rfl|rfl<;>rfl);obtain⟨a,b⟩:=hex (n:=0) (he fW) (by decide) (by decide);have uz:=xd (he fW);rw[if_pos fW]
 have head:∀t:Int,Fit (sizes vs) 0 (aA vs e++[⟨13,t,0,0⟩])∧ln (aA vs e++[⟨13,t,0,0⟩])=0:=fun t=>
  ⟨a.snoc (m:=1) (by rw[b];rfl) (by simp[bX]) (by simp[dl,bX,fB]) (fun _=>by simp[dl,bX,fB]) (c0 (by decide)) (by simp),by rw[cJ,b,gZ];rfl⟩
 have mV:=hB (k+(aA vs e).length+1);generalize XX:aH vs body (k+(aA vs e).length+1)=Bc at mV⊢;generalize hee:aH vs cG (k+(aA vs e).length+1+Bc.length+1)=Ec;have GC:=hE (k+(aA vs e).length+1+Bc.length+1);rw[hee] at GC;clear XX hee;generalize aA vs e=C at*;by_cases g5:op=5
 ·rw[if_pos g5];refine⟨Fit.snoc (m:=0) ((head _).1.app (by rw[(head _).2];exact mV.1)) (by rw[cJ,(head _).2,mV.2.1];rfl) (by simp[bX]) (by simp[dl,bX,fB]) (fun _=>by simp[dl,bX,fB]) (c0 (by decide)) (by simp),by rw[cJ,cJ,(head _).2,mV.2.1,gZ];rfl,?_⟩;intro y hy;rcases List.mem_append.1 hy with hy|hy
  ·rcases List.mem_append.1 hy with hy|hy
   ·rcases List.mem_append.1 hy with hy|hy
    ·exact CH.none (uz y hy)
    ·rw[List.mem_singleton.1 hy];(refine fun _=>⟨C.length+1+Bc.length+1,by simp only;congr 1;omega,by simp only[List.length_append,List.length_singleton];omega,?_⟩);rw[List.take_of_length_le (by simp only[List.length_append,List.length_singleton];omega),cJ,cJ,(head _).2,mV.2.1,gZ];rfl
   ·refine CH.lift (by rw[List.length_append,List.length_singleton,←Nat.add_assoc];exact mV.2.2 y hy) (head _).2
  ·rw[List.mem_singleton.1 hy];exact fun _=>⟨0,rfl,Nat.zero_le _,rfl⟩
 rw[if_neg g5,if_pos (by omega)]
 have D0:∀t u:Int,Fit (sizes vs) 0 (C++[⟨13,t,0,0⟩]++Bc++[⟨14,u,0,0⟩])∧ln (C++[⟨13,t,0,0⟩]++Bc++[⟨14,u,0,0⟩])=0:=fun t u=>
  ⟨Fit.snoc (m:=0) ((head _).1.app (by rw[(head _).2];exact mV.1)) (by rw[cJ,(head _).2,mV.2.1];rfl) (by simp[bX]) (by simp[dl,bX,fB]) (fun _=>by simp[dl,bX,fB]) (c0 (by decide)) (by simp),by rw[cJ,cJ,(head _).2,mV.2.1,gZ];rfl⟩
 refine⟨(D0 _ _).1.app (by rw[(D0 _ _).2];exact GC.1),by rw[cJ,(D0 _ _).2,GC.2.1];rfl,?_⟩;intro y hy;rcases List.mem_append.1 hy with hy|hy
 ·rcases List.mem_append.1 hy with hy|hy
  ·rcases List.mem_append.1 hy with hy|hy
   ·rcases List.mem_append.1 hy with hy|hy
    ·exact CH.none (uz y hy)
    ·rw[List.mem_singleton.1 hy];(refine fun _=>⟨C.length+1+Bc.length+1,by simp only;congr 1;omega,by simp only[List.length_append,List.length_singleton];omega,?_⟩);rw[List.take_append_of_le_length (by simp only[List.length_append,List.length_singleton];omega),List.take_of_length_le (by simp only[List.length_append,List.length_singleton];omega),(D0 _ _).2]
   ·rw[List.append_assoc];refine CH.lift (by rw[List.length_append,List.length_singleton,←Nat.add_assoc];exact mV.2.2 y hy) (head _).2
  ·rw[List.mem_singleton.1 hy];(refine fun _=>⟨C.length+1+Bc.length+1+Ec.length,by simp only;congr 1;omega,by simp only[List.length_append,List.length_singleton];omega,?_⟩);rw[List.take_of_length_le (by simp only[List.length_append,List.length_singleton];omega),cJ,(D0 _ _).2,GC.2.1];rfl
 ·have:=CH.lift (B:=[]) (at_:=k) (A:=C++[⟨13,(k+C.length+1+Bc.length+1:Nat),0,0⟩]++Bc++[⟨14,(k+C.length+1+Bc.length+1+Ec.length:Nat),0,0⟩]) (L:=Ec) (x:=y) (by rw[show k+(C++[⟨13,(k+C.length+1+Bc.length+1:Nat),0,0⟩]++Bc++[⟨14,(k+C.length+1+Bc.length+1+Ec.length:Nat),0,0⟩]:List In).length=k+C.length+1+Bc.length+1 by simp only[List.length_append,List.length_singleton];omega];exact GC.2.2 y hy) (D0 _ _).2
  rwa [List.append_nil] at this
theorem qg {p:Pr} (h:bR p=0):Piece (sizes p.vars) 0 (aH p.vars p.body 0):=by
 obtain⟨a,-,c,-⟩:=dr h;exact mD _ (fun x hx=>Gz c x (a.mem x hx)) 0
def rb (n:Int):Int:=IntKind.i64.wrap n
def fh (op a b:Int):Int:=if op=4 then rb (a+b) else if op=5 then rb (a-b) else if op=6 then rb (a*b) else if op=7 then (if a<b then 1 else 0) else if a=b then 1 else 0
abbrev XR (α:Type):=Except (Int×Nat) (α×Nat)
def jG (vs:List Va) (cs:List Int) (op v n:Int) (xs:List Int) (f:Nat):XR Int:=
 if op=1 then .ok (n,f)
 else if op=2 then .ok (cs.getD (cellOf vs v).toNat 0,f)
 else if op=3 then (if xs.getD 0 0<0∨fu vs v≤xs.getD 0 0 then .error (11,f) else .ok (cs.getD (cellOf vs v+xs.getD 0 0).toNat 0,f))
 else .ok (fh op (xs.getD 0 0) (xs.getD 1 0),f)
def s7 (f:Nat):Except (Int×Nat) Nat:=if f=0 then .error (13,0) else .ok (f-1)
mutual
def b4 (vs:List Va) (cs:List Int):Ex→Nat→XR Int
 |.mk op v n l,f=>match cP vs cs l f with
  |.error e=>.error e
  |.ok (xs,f1)=>match s7 f1 with
   |.error e=>.error e
   |.ok f2=>jG vs cs op v n xs f2
def cP (vs:List Va) (cs:List Int):List Ex→Nat→XR (List Int)
 |[],f=>.ok ([],f)
 |x::l,f=>match b4 vs cs x f with
  |.error e=>.error e
  |.ok (a,f1)=>match cP vs cs l f1 with
   |.error e=>.error e
   |.ok (xs,f2)=>.ok (a::xs,f2)
end
structure RS where
 cells:List Int
 inp:List Int
 out:List Int
 left:Nat
abbrev RR:=Except (Int×RS) RS
def mE (vs:List Va) (x:Ex) (s:RS):Except (Int×RS) (Int×RS):=match b4 vs s.cells x s.left with
 |.error (c,f)=>.error (c,{s with left:=f})
 |.ok (v,f)=>.ok (v,{s with left:=f})
def cx (s:RS):RR:=if s.left=0 then .error (13,s) else .ok {s with left:=s.left-1}
def tM (vs:List Va) (x:Ex) (s:RS):Except (Int×RS) (Bool×RS):=match mE vs x s with
 |.error e=>.error e
 |.ok (n,s1)=>match cx s1 with
  |.error e=>.error e
  |.ok s2=>.ok (decide (n≠0),s2)
def vY (vs:List Va) (v:Int) (e:Ex) (s:RS):RR:=match mE vs e s with
 |.error e=>.error e
 |.ok (n,s1)=>match cx s1 with
  |.error e=>.error e
  |.ok s2=>.ok {s2 with cells:=s2.cells.set (cellOf vs v).toNat n}
def qh (vs:List Va) (v:Int) (e f:Ex) (s:RS):RR:=match mE vs e s with
 |.error e=>.error e
 |.ok (k,s1)=>match mE vs f s1 with
  |.error e=>.error e
  |.ok (n,s2)=>match cx s2 with
   |.error e=>.error e
   |.ok s3=>if k<0∨fu vs v≤k then .error (11,s3) else .ok {s3 with cells:=s3.cells.set (cellOf vs v+k).toNat n}
def kV (vs:List Va) (e:Ex) (s:RS):RR:=match mE vs e s with
 |.error e=>.error e
 |.ok (n,s1)=>match cx s1 with
  |.error e=>.error e
  |.ok s2=>.ok {s2 with out:=s2.out++[n]}
def oO (vs:List Va) (v:Int) (s:RS):RR:=match cx s with
 |.error e=>.error e
 |.ok s1=>match s1.inp with
  |[]=>.error (12,s1)
  |x::r=>.ok {s1 with cells:=s1.cells.set (cellOf vs v).toNat x,inp:=r}
def dI (F:St→RS→Option RR):List St→RS→Option RR
 |[],s=>some (.ok s)
 |x::l,s=>match F x s with
  |none=>none
  |some (.error e)=>some (.error e)
  |some (.ok s1)=>dI F l s1
def fT (vs:List Va):Nat→St→RS→Option RR
 |0,_,_=>none
 |g+1,.mk op v e f body cG,s=>
  if op=1 then some (vY vs v e s)
  else if op=2 then some (qh vs v e f s)
  else if op=3 then some (kV vs e s)
  else if op=4 then some (oO vs v s)
  else if op=5 then match tM vs e s with
   |.error e=>some (.error e)
   |.ok (false,s1)=>some (.ok s1)
   |.ok (true,s1)=>match dI (fT vs g) body s1 with
    |none=>none
    |some (.error e)=>some (.error e)
    |some (.ok s2)=>match cx s2 with
     |.error e=>some (.error e)
     |.ok s3=>fT vs g (.mk op v e f body cG) s3
  else if op=6 then match tM vs e s with
   |.error e=>some (.error e)
   |.ok (true,s1)=>match dI (fT vs g) body s1 with
    |none=>none
    |some (.error e)=>some (.error e)
    |some (.ok s2)=>some (cx s2)
   |.ok (false,s1)=>dI (fT vs g) cG s1
  else if op=7 then some (cx s)
  else some (.ok s)
theorem Lf {f f':Nat} (h:s7 f=.ok f'):f'+1=f:=by
 rw[s7] at h;split at h
 ·cases h
 ·simp only[Except.ok.injEq] at h;omega
theorem A5 {vs:List Va} {cs:List Int} {op v n:Int} {xs:List Int} {f:Nat}:(∀r,jG vs cs op v n xs f=.ok r→r.2=f)∧∀e,jG vs cs op v n xs f=.error e→e=(11,f):=by
 rw[jG];refine⟨fun r h=>?_,fun e h=>?_⟩
 ·repeat' split at h
  all_goals first|cases h;rfl|cases h
 ·repeat' split at h
  all_goals first|cases h;rfl|cases h
structure Lg {α:Type} (r:XR α) (f:Nat):Prop where
 ok:∀a,r=.ok a→a.2≤f
 err:∀c k,r=.error (c,k)→k≤f∧(c=13∧k=0∨c=11)
theorem A6 {vs:List Va} {cs:List Int}:∀(l:List Ex),(∀x∈l,∀f,Lg (b4 vs cs x f) f)→∀f,Lg (cP vs cs l f) f∧∀xs k,cP vs cs l f=.ok (xs,k)→xs.length=l.length
 |[],_,f=>by
  rw[cP];exact⟨⟨fun a h=>by cases h;exact Nat.le_refl _,fun c k h=>(by cases h)⟩,fun xs k h=>by cases h;rfl⟩
 |x::l,h,f=>by
  have hx:=h x (by simp) f;rw[cP]
  cases e1:b4 vs cs x f with
  |error e=>
   refine⟨⟨fun a h=>(by cases h),fun c k h=>?_⟩,fun xs k h=>(by cases h)⟩;simp only[Except.error.injEq] at h;subst h;exact hx.err c k e1
  |ok a=>
   obtain⟨v,f1⟩:=a;have h1:=hx.ok _ e1;simp only at h1⊢;obtain⟨h2,h3⟩:=A6 l (fun y hy=>h y (by simp[hy])) f1
   cases e2:cP vs cs l f1 with
   |error e=>
    refine⟨⟨fun a h=>(by cases h),fun c k h=>?_⟩,fun xs k h=>(by cases h)⟩;simp only[Except.error.injEq] at h;subst h;have:=h2.err c k e2;exact⟨by omega,this.2⟩
   |ok a=>
    obtain⟨xs,f2⟩:=a;have:=h2.ok _ e2;refine⟨⟨fun a h=>?_,fun c k h=>(by cases h)⟩,fun ys k h=>?_⟩
    ·simp only[Except.ok.injEq] at h;subst h;simp only at this⊢;omega
    ·simp only[Except.ok.injEq,Prod.mk.injEq] at h;obtain⟨rfl,-⟩:=h;rw[List.length_cons,List.length_cons,h3 xs f2 e2]
theorem lT (vs:List Va) (cs:List Int) (x:Ex):∀f,Lg (b4 vs cs x f) f:=by
 refine Ex.ind (P:=fun x=>∀f,Lg (b4 vs cs x f) f) ?_ x;intro op v n l ih f;have hl:=(A6 l ih f).1;rw[b4]
 cases e1:cP vs cs l f with
 |error e=>
  refine⟨fun a h=>(by cases h),fun c k h=>?_⟩;simp only[Except.error.injEq] at h;subst h;exact hl.err c k e1
 |ok a=>
  obtain⟨xs,f1⟩:=a;have h1:=hl.ok _ e1;simp only at h1⊢
  cases e2:s7 f1 with
  |error e=>
   refine⟨fun a h=>(by cases h),fun c k h=>?_⟩;simp only[Except.error.injEq] at h;subst h;rw[s7] at e2;split at e2
   ·cases e2;exact⟨Nat.zero_le _,.inl ⟨rfl,rfl⟩⟩
   ·cases e2
  |ok f2=>
   have h2:=Lf e2;obtain⟨g1,g2⟩:=A5 (vs:=vs) (cs:=cs) (op:=op) (v:=v) (n:=n) (xs:=xs) (f:=f2);refine⟨fun a h=>?_,fun c k h=>?_⟩
   ·have:=g1 a h;omega
   ·have:=g2 _ h;simp only[Prod.mk.injEq] at this;obtain⟨rfl,rfl⟩:=this;exact⟨by omega,.inr rfl⟩
theorem Ri (vs:List Va) (cs:List Int) (l:List Ex) (f:Nat) {xs:List Int} {k:Nat} (h:cP vs cs l f=.ok (xs,k)):xs.length=l.length:=(A6 l (fun x _=>lT vs cs x) f).2 xs k h
structure Mi where
 next:Nat
 stack:List Int
 rd:Nat
 outn:Nat
 st:Int
 cells:List Int
structure Be where
 m:Mi
 kept:Mi
 out:List Int
 wrong:Bool
def aL (inp:List Int) (keep:Bool) (x:In) (b:Be):Be:=
 let m:=b.m
 if x.op=1 then {b with m:={m with stack:=x.n::m.stack}}
 else if x.op=2 then {b with m:={m with stack:=m.cells.getD x.a.toNat 0::m.stack}}
 else if x.op=3 then match m.stack with
  |[]=>b
  |k::s=>if k<0∨x.b≤k then {b with m:={m with stack:=s,st:=13}} else {b with m:={m with stack:=m.cells.getD (x.a+k).toNat 0::s}}
 else if 4≤x.op∧x.op≤8 then match m.stack with
  |y::z::s=>{b with m:={m with stack:=fh x.op z y::s}}
  |_=>b
 else if x.op=9 then match m.stack with
  |[]=>b
  |n::s=>{b with m:={m with stack:=s,cells:=m.cells.set x.a.toNat n}}
 else if x.op=10 then match m.stack with
  |n::k::s=>if k<0∨x.b≤k then {b with m:={m with stack:=s,st:=13}} else {b with m:={m with stack:=s,cells:=m.cells.set (x.a+k).toNat n}}
  |_=>b
 else if x.op=11 then match m.stack with
  |[]=>b
  |n::s=>
   if m.outn=b.out.length then {b with m:={m with stack:=s,outn:=m.outn+1},out:=b.out++[n]}
   else {b with m:={m with stack:=s,outn:=m.outn+1},wrong:=b.wrong||decide (b.out.getD m.outn 0≠n)}
 else if x.op=12 then (if inp.length≤m.rd then {b with m:={m with st:=14}} else {b with m:={m with cells:=m.cells.set x.a.toNat (inp.getD m.rd 0),rd:=m.rd+1}})
 else if x.op=13 then match m.stack with
  |[]=>b
  |n::s=>if n=0 then {b with m:={m with stack:=s,next:=x.a.toNat}} else {b with m:={m with stack:=s}}
 else if x.op=14 then {b with m:={m with next:=x.a.toNat}}
 else if x.op=15 then (if keep then {b with kept:=m} else b)
 else if x.op=16 then {b with m:={m with st:=1}}
 else b
def bump (b:Be):Be:={b with m:={b.m with next:=b.m.next+1}}
def b5 (code:List In) (inp:List Int) (keep:Bool) (b:Be):Be:=match code[b.m.next]? with
 |none=>b
 |some x=>aL inp keep x (bump b)
def runM (code:List In) (inp:List Int):Nat→Be→Be×Nat
 |0,b=>(b,0)
 |f+1,b=>if b.m.st≠0 then (b,0) else ((runM code inp f (b5 code inp false b)).1,(runM code inp f (b5 code inp false b)).2+1)
end Go.Proofs.YtgeoiflbjcehcaaGreatDoor
