import Derived.Test.YtgeoiflbjcehcaaGreatDoorDj14
set_option maxHeartbeats 4000000
set_option maxRecDepth 2000
set_option linter.unusedVariables false
set_option linter.unusedSimpArgs false
namespace Go.Proofs.YtgeoiflbjcehcaaGreatDoor
open Go X
def mL (pg:List Int) (i k:Nat):List Int:=(List.range 8).map fun q=>if q<k∧i*8+q<14 then pg.getD (i*8+q) 0 else 0
def tw (pg:List Int) (i:Nat):List Int:=mL pg i 8
theorem sK (pg:List Int) (i k:Nat):(mL pg i k).length=8:=by simp[mL]
theorem DN (pg:List Int) (i:Nat):mL pg i 0=[0,0,0,0,0,0,0,0]:=by simp[mL];rfl
theorem DO (pg:List Int) (i:Nat) {k:Nat} (hk:k<8) (h:i*8+k<14):mL pg i (k+1)=(mL pg i k).set k (pg.getD (i*8+k) 0):=by
 apply List.ext_getElem (by simp[mL]);intro p h1 h2;simp only[mL,List.getElem_map,List.getElem_range,List.getElem_set];by_cases e:k=p
 ·subst e;rw[if_pos ⟨by omega,h⟩,if_pos rfl]
 ·rw[if_neg e];by_cases hp:p<k∧i*8+p<14
  ·rw[if_pos ⟨by omega,hp.2⟩,if_pos hp]
  ·rw[if_neg (fun h=>hp ⟨by omega,h.2⟩),if_neg hp]
theorem DP (pg:List Int) (i:Nat) {k:Nat} (h:¬i*8+k<14):mL pg i (k+1)=mL pg i k:=by
 apply List.map_congr_left;intro p _;by_cases hp:p<k∧i*8+p<14
 ·rw[if_pos hp,if_pos ⟨by omega,hp.2⟩]
 ·rw[if_neg hp,if_neg (fun h2=>hp ⟨by omega,h2.2⟩)]
theorem x5 {l:List Int} {k:Nat} (hk:k<l.length) (x:Int):aJ (ints l) k [i64 x]=ints (l.set k x):=by
 rw[ji _ _ _ (by simpa using hk),ints_set]
def T0 (t0 a0:Int) (i:Nat):Int:=if 0<i then a0 else t0
def T1 (t1 a1:Int) (i:Nat):Int:=if 1<i then a1 else t1
def oH (pg:List Int):List bu:=[⟨0,tw pg 0⟩,⟨0,tw pg 1⟩]
theorem Gc {sb:Nat} {left gen t0 t1 a0 a1:Int} {pg:List Int} {fr:Value} {i:Nat} (hi:i<2):aJ (dM sb left gen (T0 t0 a0 i) (T1 t1 a1 i) pg fr) (3+i) [i64 (([a0,a1]:List Int).getD i 0)]=dM sb left gen (T0 t0 a0 (i+1)) (T1 t1 a1 (i+1)) pg fr:=by
 rcases (show i=0∨i=1 by omega) with rfl|rfl<;>rfl
theorem KZ (σ:PH) (c sb db:Nat) (D:Int) (j:Nat) (gen t0 t1:Int) (pg:List Int) (fr:Value) (s:cY) (d:al) (a0 a1:Int) (free:List Int) (hD:EX D) (hj:j<900) (kh:pg.length=14) (hf:aV σ fr (a0::a1::free)) (hlen:d.wait.length<1000):
 ae Tryz.prog 237 #[ptr c] σ [au c (dM sb (leftOf D j) gen t0 t1 pg fr) 301,au sb (ptr db::s.cells) 265,a7 db d]
  (aE fun v ag ah=>∃(k:Nat) (mA:Value),k≤2∧v=.bool (decide (k=2))∧(k<2→D=(j+k:Nat))∧(∀i:Nat,i<k→D≠((j+i:Nat):Int))∧aV σ mA ((a0::a1::free).drop k)∧σ=ag∧ah=[au c (dM sb (leftOf D (j+k)) gen (T0 t0 a0 k) (T1 t1 a1 k) pg mA) 301,au sb (ptr db::s.cells) 265,a7 db (lP d (oH pg) (a0::a1::free) k)]):=by
 (refine dF Tryz.func237 ?_;refine bH ?_;refine XA.gen [(0,_),(2,_),(9,_)] jN fun δ=>?_);dsimp only[List.foldl];refine XA.loop [(2,46)] (fun i:Nat=>[(9,i64 i)]) (fun i ag ah=>σ=ag∧i≤2∧(∀q:Nat,q<i→D≠((j+q:Nat):Int))∧∃mA,aV σ mA ((a0::a1::free).drop i)∧ah=[au c (dM sb (leftOf D (j+i)) gen (T0 t0 a0 i) (T1 t1 a1 i) pg mA) 301,au sb (ptr db::s.cells) 265,a7 db (lP d (oH pg) (a0::a1::free) i)]) (fun i=>2-i) 0 (by exact⟨rfl,trivial⟩) (Δ0:=_) ?_ (⟨rfl,by decide,fun i h=>absurd h (Nat.not_lt_zero _),fr,hf,rfl⟩) ?_
 ·exact zE
 rintro i δ _ _ ⟨rfl,hi,r6,mA,AJ,rfl⟩;dsimp only[eb,List.foldl];refine aO ?_;refine XA.bI rfl (fun aT=>?_) (fun aT=>?_)
 ·(have aT:i<2:=by omega);obtain⟨a,Oj⟩:∃a,a=([a0,a1]:List Int).getD i 0:=⟨_,rfl⟩;have ha:(a0::a1::free)[i]? =some a:=by subst Oj;rcases (show i=0∨i=1 by omega) with rfl|rfl<;>rfl
  have e2:lP d (oH pg) (a0::a1::free) (i+1)=(lP d (oH pg) (a0::a1::free) i).write a (tw pg i):=by
   subst Oj;rcases (show i=0∨i=1 by omega) with rfl|rfl<;>rfl
  have hw:=iq d (oH pg) (a0::a1::free) i;refine bH ?_;refine cR (fun g4=>?_) (ad rfl);refine a8 ?_;refine XA.loop [(5,6),(12,30)] (fun k:Nat=>[(12,i64 k)]) (fun k ag ah=>σ=ag∧k≤8∧ah=[au g4 (ints (mL pg i k)) 221,au c (dM sb (leftOf D (j+i)) gen (T0 t0 a0 i) (T1 t1 a1 i) pg mA) 301,au sb (ptr db::s.cells) 265,a7 db (lP d (oH pg) (a0::a1::free) i)]) (fun k=>8-k) 0 (by exact⟨rfl,trivial⟩) (Δ0:=_) ?_ (⟨rfl,by decide,rfl⟩) ?_
  ·rw[DN];exact zE
  rintro k N2 _ _ ⟨rfl,hk,rfl⟩;dsimp only[eb,List.foldl];refine aO ?_;refine XA.bI rfl (fun rF=>?_) (fun rF=>?_)
  ·(have rF:k<8:=by omega);have zm:=sK pg i k;refine eP ?_;refine zO rfl (Rd.S0 (c:=((i*8:Nat):Int)) rfl rfl (by omega) (by omega)) ?_;refine b3 ?_;refine zO rfl (Rd.OZ (c:=((i*8+k:Nat):Int)) rfl rfl (by omega) (by omega)) ?_;refine a8 ?_;refine XA.bI rfl (fun hp=>?_) (fun hp=>?_)
   ·(have hp:i*8+k<14:=by omega);have hcp:=F9 (sb:=sb) (left:=leftOf D (j+i)) (gen:=gen) (t0:=T0 t0 a0 i) (t1:=T1 t1 a1 i) (fr:=mA) (pg:=pg) (k:=i*8+k) (by omega);(have fR:=fun x=>x5 (l:=mL pg i k) (k:=k) (by omega) x);(have ey:k+Sz.size≤(ints (mL pg i k)).length:=by rw[aj,zm];show k+1≤8;omega);refine jM ?_;refine⟨cF,k+1,_,zM,?_,⟨rfl,rF,rfl⟩,(by omega)⟩
    ·rw[DO pg i rF hp];exact zE
   ·(have hp:¬i*8+k<14:=by omega);refine bC ?_;refine⟨cF,k+1,_,zM,?_,⟨rfl,rF,rfl⟩,(by omega)⟩
    ·rw[DP pg i hp];exact zE
  (have Yj:k=8:=by omega);subst Yj;have SK:(tw pg i).length=8:=sK pg i 8;rw[sg ha] at AJ;rw[show mL pg i 8=tw pg i from rfl];refine a8 ?_;by_cases KX:D=((j+i:Nat):Int)
  ·subst KX;refine yC (Gb σ c sb (j+i) gen _ _ pg mA a ((a0::a1::free).drop (i+1)) (tw pg i) (by omega) kh SK AJ) ?_;refine dJ ?_;refine eP ?_;rw[←sg ha] at AJ;exact b8 rfl rfl ⟨i,mA,hi,congrArg Value.bool (decide_eq_false (by omega)).symm,fun _=>rfl,r6,AJ,rfl,rfl⟩
  ·refine zw rfl (aC.cE (Co σ c sb db D (j+i) gen _ _ pg mA a ((a0::a1::free).drop (i+1)) (tw pg i) s (lP d (oH pg) (a0::a1::free) i) hD (by omega) KX kh SK AJ (by omega)) rfl) ?_;rintro _ _ _ ⟨_,⟨KY,DM,rfl,rfl,rfl⟩,rfl⟩;refine az.cl ?_;have fR:=Gc (sb:=sb) (left:=leftOf D (j+i+1)) (gen:=gen) (t0:=t0) (t1:=t1) (a0:=a0) (a1:=a1) (pg:=pg) (fr:=KY) aT;rw[←Oj] at fR;(have ey:3+i+HZ.size≤(dM sb (leftOf D (j+i+1)) gen (T0 t0 a0 i) (T1 t1 a1 i) pg KY).length:=by rw[mz kh];show 3+i+1≤20;omega);clear Oj;refine dJ ?_;refine tX ?_
   have fI:∀q:Nat,q<i+1→D≠((j+q:Nat):Int):=fun q hq=>by
    rcases Nat.lt_or_ge q i with h|h
    ·exact r6 q h
    ·(have:q=i:=by omega);subst this;exact KX
   refine⟨cF,i+1,_,zM,?_,⟨rfl,aT,fI,KY,DM,rfl⟩,(by omega)⟩
   ·rw[e2];exact zE
 (have EW:i=2:=by omega);subst EW;refine cg ?_;exact b8 rfl rfl ⟨2,mA,Nat.le_refl _,congrArg Value.bool (decide_eq_true rfl).symm,fun h=>absurd h (Nat.lt_irrefl _),r6,AJ,rfl,rfl⟩
def gu (g t0 t1:Int):List Int:=[g,t0,t1,0,0,0,0,0]
theorem Ge (σ:PH) (c sb:Nat) (j:Nat) (gen t0 t1:Int) (pg:List Int) (fr:Value) (hj:j<1000):
 ae Tryz.prog 239 #[ptr c] σ [au c (dM sb (leftOf j j) gen t0 t1 pg fr) 301] (aE fun v ag ah=>v=.bool false∧σ=ag∧ah=[au c (dM sb (leftOf j j) gen t0 t1 pg fr) 301]):=by
 refine dF Tryz.func239 ?_;refine a8 ?_;refine yC (AH σ c sb j gen t0 t1 pg _ hj) ?_;refine bq ?_;refine bC ?_;exact b8 rfl rfl ⟨rfl,rfl,rfl⟩
theorem DQ (σ:PH) (c sb db:Nat) (D:Int) (j:Nat) (gen t0 t1:Int) (pg:List Int) (fr:Value) (s:cY) (d:al) (hD:EX D) (hj:j<1000) (fW:D≠(j:Int)) (hg:0≤gen) (hlen:d.wait.length<1000000):
 ae Tryz.prog 239 #[ptr c] σ [au c (dM sb (leftOf D j) gen t0 t1 pg fr) 301,au sb (ptr db::s.cells) 265,a7 db d] (aE fun v ag ah=>v=.bool true∧σ=ag∧ah=[au c (dM sb (leftOf D (j+1)) gen t0 t1 pg fr) 301,au sb (ptr db::s.cells) 265,a7 db (d.write (gen%2) (gu gen t0 t1))]):=by
 refine dF Tryz.func239 ?_;refine a8 ?_;refine yC (vN σ c sb D j gen t0 t1 pg _ hD hj fW) ?_;refine bq ?_;refine aW ?_;refine zO rfl (Rd.UB (fun _ _=>ad) rfl rfl rfl) ?_;refine cR (fun g3=>?_) (ad rfl);refine cr ?_;refine XA.eO 3 ?_;refine jX.succ ?_;refine aO ?_;refine bC ?_;refine zO rfl (Rd.UA rfl rfl) ?_;refine tW ?_;refine jX.succ ?_;refine aO ?_;refine bC ?_;refine zO rfl (Rd.UA rfl rfl) ?_;refine tW ?_;refine jX.succ ?_;refine aO ?_;refine bt ?_;refine fZ 15 11338164 [14] (aw.bP (R:=au c _ _) zL (aw.bP (R:=au sb _ _) zL (aw.bP (R:=au g3 _ _) zL (aw.nil _)))) ?_;refine bH ?_;refine zu rfl rfl (Rd.Df (c:=gen%2) rfl rfl (by decide) (by rw[Int.tmod_eq_emod_of_nonneg hg])) ?_;refine b3 ?_;refine aK.bj rfl rfl Gd.free (by kernel_rfl) (aC.cE (Cj σ db d (gen%2) (gu gen t0 t1) rfl hlen) rfl) ?_;rintro _ _ _ ⟨_,⟨rfl,rfl,rfl⟩,rfl⟩;refine aK.cl ?_;refine bC ?_;exact b8 rfl rfl ⟨rfl,rfl,rfl⟩
theorem QW (σ:PH) (sb db:Nat) (g t0 t1:Int) (pg:List Int) (kh:pg.length=14):
 ae Tryz.prog 234 #[.pointer (some ⟨sb,1,none⟩)] σ [au sb (ptr db::i64 g::i64 t0::i64 t1::ints pg) 265] (aE fun v ag ah=>∃p c,v=.slice p 16 c∧σ=ag∧ah=[bn 3 1 (.slice p 16 c) 16 (ints (t0::t1::pg)),au sb (ptr db::i64 g::i64 t0::i64 t1::ints pg) 265]):=by
 have hx:∀Γ ah (j:Nat) u,b6 Γ (au sb (ptr db::i64 g::i64 t0::i64 t1::ints pg) 265) ah→[i64 t0,i64 t1][j]? =some u→∃g0 o0,some (⟨sb,2,none⟩:Addr)=some ⟨g0,o0,none⟩∧j3 (Ho σ Γ) g0 (o0+j) u:=fun Γ ah j u s hu=>by
  refine⟨sb,2,rfl,j3.au s ?_⟩
  match j,hu with
  |0,hu=>exact hu
  |1,hu=>exact hu
 (have ud:(ints pg).length=14*1:=by simpa using kh);(have bL:∀Γ ah,b6 Γ (au sb (ptr db::i64 g::i64 t0::i64 t1::ints pg) 265) ah→At (Ho σ Γ) sb 4 (ints pg):=fun Γ ah s=>At.au s (vj rfl));refine dF Tryz.func234 ?_;refine aO ?_;refine fZ 10 13122 [8] (aw.bP (R:=au sb _ _) zL (aw.nil _)) ?_;refine bq ?_;refine zu rfl rfl (by apply Rd.xj;exact ad rfl;rfl;exact ad rfl;rfl) ?_;refine bq ?_;refine zu rfl rfl (by apply Rd.xj;exact ad rfl;rfl;exact ad rfl;rfl) ?_;refine aK.bj rfl rfl Gd.free (by kernel_rfl) (aC.nb (ad rfl) rfl (ad rfl) rfl rfl rfl (fun j u hu=>hx _ _ j u zL hu) (fun h=>by cases h) rfl (bL _ _ zL) ud (dP _) (by decide) (by decide) (by decide)) ?_;rintro _ _ _ ⟨p11,c11,rfl,rfl,rfl⟩;refine bM ?_;exact b8 rfl rfl ⟨p11,c11,rfl,rfl,rfl⟩
theorem K0 (σ:PH) (v:Value) (xs:List Int) (x:Int) (hv:aV σ v xs):ae Tryz.prog 242 #[v,i64 x] σ [] (aE fun r ag ah=>∃k:Int,r=i64 k∧(0≤k↔x∈xs)∧σ=ag∧ah=[]):=by
 obtain⟨p,c,rfl,hle,EO⟩:=hv.shape;(have hlen:xs.length≤maxLen:=by omega);simp only[maxLen] at hlen;(refine bS Tryz.func242 ?_;refine dJ ?_;refine XA.gen [(0,_),(1,_),(4,_),(7,_),(8,_)] jN fun δ=>?_);dsimp only[List.foldl];refine XA.loop [(4,5),(8,18)] (fun k:Nat=>[(8,i64 k)]) (fun k ag ah=>σ=ag∧k≤xs.length∧x∉xs.take k∧ah=[]) (fun k=>xs.length-k) 0 (by exact⟨rfl,trivial⟩) (Δ0:=_) ?_ (⟨rfl,Nat.zero_le _,by simp,rfl⟩) ?_
 ·exact zE
 rintro k δ _ _ ⟨rfl,hk,bF,rfl⟩;dsimp only[eb,List.foldl];refine aO ?_;refine XA.bI rfl (fun aT=>?_) (fun aT=>?_)
 ·(have aT:k<xs.length:=by omega);obtain⟨y,hy⟩:∃y,xs[k]? =some y:=⟨_,List.getElem?_eq_getElem aT⟩;obtain⟨g,o,rfl,hr⟩:=hv.at hy;rw[Nat.mul_one] at hr;refine tX ?_;refine XA.bI rfl (fun he=>?_) (fun he=>?_)
  ·refine bH ?_;exact b8 rfl rfl ⟨(k:Int),rfl,⟨fun _=>he▸List.mem_of_getElem? hy,fun _=>by omega⟩,rfl,rfl⟩
  (have fI:x∉xs.take (k+1):=by rw[xt hy];simp only[List.mem_append,List.mem_singleton,not_or];exact⟨bF,he⟩);refine bC ?_;refine⟨cF,k+1,_,zM,?_,⟨rfl,aT,fI,rfl⟩,(by omega)⟩
  ·exact zE
 (have tJ:k=xs.length:=by omega);subst tJ;rw[List.take_length] at bF;refine cg ?_;exact b8 rfl rfl ⟨-1,rfl,⟨fun h=>absurd h (by decide),fun h=>absurd h bF⟩,rfl,rfl⟩
theorem AL (σ:PH) (v:Value) (xs:List Int) (x:Int) (hv:aV σ v xs):ae Tryz.prog 235 #[v,i64 x] σ [] (aE fun r ag ah=>r=.bool (decide (x∈xs))∧σ=ag∧ah=[]):=by
 refine bS Tryz.func235 ?_;refine a8 ?_;refine zw rfl (aC.cE (K0 σ v xs x hv) rfl) ?_;rintro _ _ _ ⟨_,⟨k,rfl,hk,rfl,rfl⟩,rfl⟩;refine az.cl ?_;refine b9 ?_;exact b8 rfl rfl ⟨congrArg Value.bool (decide_eq_decide.2 hk),rfl,rfl⟩
def iR (seen:List bu):List bu→Int
 |[]=>0
 |p::l=>if ¬(0≤p.n∧p.n<14) then 1 else if ∃q∈seen,q.n=p.n then 9 else iR (seen++[p]) l
def pW (l:List bu):Int:=iR [] l
theorem X.bO.U3 {α:Type} {s n c k:Nat} {R:RT α} {σ:PH} {p:Option Addr} {xs:List α} (h:bO s R σ (.slice p n c) xs) (hk:k≤n):bO s R σ (.slice p k c) (xs.take k):=by
 obtain⟨p',c',rows,h1,h2,h3,h4,h5,h6,h7⟩:=h;simp only[Value.slice.injEq] at h1;obtain⟨rfl,rfl,rfl⟩:=h1;(have hl:(xs.take k).length=k:=by rw[List.length_take];exact Nat.min_eq_left hk);refine⟨p,c,rows.take k,by rw[hl],by omega,h3,by rw[hl,List.length_take];omega,fun r hr=>h5 r (List.mem_of_mem_take hr),fun i row x a b=>?_,fun hp=>?_⟩
 ·rw[List.getElem?_take] at a b;split at a
  ·rename_i hi;rw[if_pos hi] at b;exact h6 i row x a b
  ·cases a
 ·obtain⟨g,o,e,hr⟩:=h7 (by omega);refine⟨g,o,e,?_⟩
  have:=hr.sub (j:=0) (us:=(rows.take k).flatten) (by
   (have e:rows.flatten=(rows.take k).flatten++(rows.drop k).flatten:=by rw[←List.flatten_append,List.take_append_drop]);rw[List.drop_zero,e]
   exact List.take_left)
  simpa using this
theorem QX (σ:PH) (g:Nat) (x y:bu) (hy:y.w.length=8):ae Tryz.prog 241 #[.agg y.cells.toArray,ptr g] σ [au g x.cells 292] (aE fun r ag ah=>r=.bool (decide (y.n=x.n))∧σ=ag∧ah=[au g x.cells 292]):=by
 obtain⟨xn,xw⟩:=x;obtain⟨yn,yw⟩:=y;unfold bu.cells;(refine bS Tryz.func241 ?_;refine aN ?_;refine cN fun g2=>?_;refine dJ ?_);exact b8 rfl rfl ⟨rfl,rfl,rfl⟩
theorem DR (σ:PH) (g:Nat) (v:bu) (sl:Value) (l:List bu) (hl:bO 9 lO σ sl l):ae Tryz.prog 247 #[sl,.func (.func 241) #[] #[ptr g]] σ [au g v.cells 292] (aE fun r ag ah=>∃k:Int,r=i64 k∧(0≤k↔∃w∈l,w.n=v.n)∧σ=ag∧ah=[au g v.cells 292]):=by
 obtain⟨pl,cl,rfl,hle,EO⟩:=hl.shape;(have hlen:l.length≤maxLen:=by omega);simp only[maxLen] at hlen;(refine bS Tryz.func247 ?_;refine dJ ?_;refine XA.gen [(0,_),(1,_),(4,_),(7,_),(8,_)] jN fun δ=>?_);dsimp only[List.foldl];refine XA.loop [(4,5),(8,18)] (fun k:Nat=>[(8,i64 k)]) (fun k ag ah=>σ=ag∧k≤l.length∧(∀(j:Nat) w,j<k→l[j]? =some w→w.n≠v.n)∧ah=[au g v.cells 292]) (fun k=>l.length-k) 0 (by exact⟨rfl,trivial⟩) (Δ0:=_) ?_ (⟨rfl,Nat.zero_le _,fun j w h=>absurd h (Nat.not_lt_zero _),rfl⟩) ?_
 ·exact zE
 rintro k δ _ _ ⟨rfl,hk,bF,rfl⟩;dsimp only[eb,List.foldl];refine aO ?_;refine XA.bI rfl (fun aT=>?_) (fun aT=>?_)
 ·(have aT:k<l.length:=by omega);obtain⟨x',mh⟩:∃x',l[k]? =some x':=⟨_,List.getElem?_eq_getElem aT⟩;obtain⟨gg,o,row,rfl,⟨rfl,QV⟩,rC,bL⟩:=hl.at mh;refine dE ?_;refine zw rfl (aC.cV (first:=[]) (cap:=[ptr g]) rfl (QX σ g v x' QV) rfl) ?_;rintro _ _ _ ⟨_,⟨rfl,rfl,rfl⟩,rfl⟩;refine az.cl ?_;refine aN ?_;refine XA.bI rfl (fun hc=>?_) (fun hc=>?_)
  ·refine bH ?_;exact b8 rfl rfl ⟨(k:Int),rfl,⟨fun _=>⟨x',List.mem_of_getElem? mh,hc⟩,fun _=>by omega⟩,rfl,rfl⟩
  ·have fI:∀(j:Nat) w,j<k+1→l[j]? =some w→w.n≠v.n:=fun j w hj hw=>by
    rcases Nat.lt_or_ge j k with h|h
    ·exact bF j w h hw
    ·(have:j=k:=by omega);subst this;rw[mh] at hw;simp only[Option.some.injEq] at hw;subst hw;exact hc
   refine bC ?_;refine⟨cF,k+1,_,zM,?_,⟨rfl,aT,fI,rfl⟩,(by omega)⟩
   ·exact zE
 (have tJ:k=l.length:=by omega);subst tJ;refine cg ?_;refine b8 rfl rfl ⟨-1,rfl,⟨fun h=>absurd h (by decide),fun⟨w,hw,e⟩=>?_⟩,rfl,rfl⟩;obtain⟨j,hj,e2⟩:=List.mem_iff_getElem.1 hw;exact absurd e (bF j w hj (by rw[List.getElem?_eq_getElem hj,e2]))
theorem vO (σ:PH) (g:Nat) (v:bu) (sl:Value) (l:List bu) (hl:bO 9 lO σ sl l):ae Tryz.prog 240 #[sl,.func (.func 241) #[] #[ptr g]] σ [au g v.cells 292] (aE fun r ag ah=>r=.bool (decide (∃w∈l,w.n=v.n))∧σ=ag∧ah=[au g v.cells 292]):=by
 refine bS Tryz.func240 ?_;refine a8 ?_;refine zw rfl (aC.cE (DR σ g v sl l hl) rfl) ?_;rintro _ _ _ ⟨_,⟨k,rfl,hk,rfl,rfl⟩,rfl⟩;refine az.cl ?_;refine b9 ?_;exact b8 rfl rfl ⟨congrArg Value.bool (decide_eq_decide.2 hk),rfl,rfl⟩
theorem bu.dn {x:bu}:X.dn x.cells:=dO rfl (dP _)
theorem Gf (σ:PH) (sl:Value) (l:List bu) (hl:bO 9 lO σ sl l):ae Tryz.prog 233 #[sl] σ [] (aE fun v ag ah=>v=i64 (pW l)∧σ=ag∧ah=[]):=by
 obtain⟨pl,cl,rfl,hle,EO⟩:=hl.shape;(have hlen:l.length≤maxLen:=by omega);simp only[maxLen] at hlen;(refine dF Tryz.func233 ?_;refine dJ ?_;refine XA.gen [(0,_),(2,_),(5,_),(6,_),(7,_)] jN fun δ=>?_);dsimp only[List.foldl];refine XA.loop [(2,4),(7,21)] (fun k:Nat=>[(7,i64 k)]) (fun k ag ah=>σ=ag∧k≤l.length∧iR (l.take k) (l.drop k)=pW l∧ah=[]) (fun k=>l.length-k) 0 (by exact⟨rfl,trivial⟩) (Δ0:=_) ?_ (⟨rfl,Nat.zero_le _,rfl,rfl⟩) ?_
 ·exact zE
 rintro k δ _ _ ⟨rfl,hk,mj,rfl⟩;dsimp only[eb,List.foldl];refine aO ?_;refine XA.bI rfl (fun aT=>?_) (fun aT=>?_)
 ·(have aT:k<l.length:=by omega);obtain⟨x,hx⟩:∃x,l[k]? =some x:=⟨_,List.getElem?_eq_getElem aT⟩;obtain⟨gg,o,row,rfl,⟨rfl,QV⟩,rC,bL⟩:=hl.at hx;have Qu:=hl.U3 (k:=k) hk;have gG:dn x.cells:=bu.dn;rw[sg hx,iR] at mj;have wR:x.cells[0]? =some (i64 x.n):=rfl;refine a8 ?_;refine cR (fun g4=>?_) (ad rfl);refine a8 ?_;refine yC (AF σ x.n) ?_;by_cases kI:0≤x.n∧x.n<14
  ·rw[if_neg (fun h=>h kI)] at mj;rw[decide_eq_true kI];refine bq ?_;refine bt ?_;refine zO rfl (Rd.n8 (ad rfl) rfl (ad rfl) rfl rfl (by omega)) ?_;refine zO rfl (Rd.jZ (by with_reducible (conv=>lhs;whnf))) ?_;refine yC (vO σ g4 x _ _ Qu) ?_;refine aN ?_;refine XA.bI rfl (fun H5=>?_) (fun H5=>?_)
   ·rw[if_pos H5] at mj;refine cg ?_;exact b8 rfl rfl ⟨by rw[←mj],rfl,rfl⟩
   rw[if_neg H5] at mj;refine bC ?_;refine⟨cF,k+1,_,zM,?_,⟨rfl,aT,by rw[xt hx];exact mj,rfl⟩,(by omega)⟩
   ·exact zE
  ·rw[if_pos kI] at mj;rw[decide_eq_false kI];refine bq ?_;refine eP ?_;exact b8 rfl rfl ⟨by rw[←mj],rfl,rfl⟩
 (have tJ:k=l.length:=by omega);subst tJ;rw[List.drop_length,iR] at mj;refine cg ?_;exact b8 rfl rfl ⟨by rw[←mj],rfl,rfl⟩
def cO (u:List Int) (k:Nat):List Int:=((List.range k).map fun i=>((i+2:Nat):Int)).filter fun a=>decide (a∉u)
def cL (s:cY):List Int:=cO (s.t++s.pg) 32
theorem qT (u:List Int) (k:Nat):cO u (k+1)=cO u k++(if ((k+2:Nat):Int)∈u then [] else [((k+2:Nat):Int)]):=by
 unfold cO;rw[List.range_succ,List.map_append,List.filter_append];congr 1;by_cases h:((k+2:Nat):Int)∈u
 ·simp only[List.map_cons,List.map_nil,List.filter_cons];rw[if_neg (by simpa using h),if_pos h];rfl
 ·simp only[List.map_cons,List.map_nil,List.filter_cons];rw[if_pos (by simpa using h),if_neg h];rfl
theorem sL {α:Type} [DecidableEq α]:∀{l m:List α},l.Nodup→(∀x∈l,x∈m)→l.length≤m.length
 |[],_,_,_=>Nat.zero_le _
 |a::l,m,hn,h=>by
  obtain⟨h1,h2⟩:=List.nodup_cons.1 hn;have ha:=h a (by simp);have:=sL (l:=l) (m:=m.erase a) h2 (fun x hx=>(List.mem_erase_of_ne (fun e=>h1 (by subst e;exact hx))).2 (h x (by simp[hx])));rw[List.length_erase_of_mem ha] at this;have:0<m.length:=List.length_pos_of_mem ha;simp only[List.length_cons];omega
theorem sM {α:Type} (p:α→Bool):∀l:List α,(l.filter p).length+(l.filter fun a=>!p a).length=l.length
 |[]=>rfl
 |a::l=>by
  have:=sM p l;by_cases h:p a=true
  ·simp[List.filter_cons,h];omega
  ·(have h:p a=false:=by simpa using h);simp[List.filter_cons,h];omega
theorem sN (k:Nat):((List.range k).map fun i=>((i+2:Nat):Int)).Nodup:=by
 refine List.Pairwise.map _ (fun a b h=>?_) List.nodup_range;omega
theorem vP (u:List Int) (k:Nat):(cO u k).Nodup:=(sN k).filter _
theorem AN {u:List Int} {k:Nat} {a:Int} (h:a∈cO u k):2≤a∧a<k+2∧a∉u:=by
 simp only[cO,List.mem_filter,List.mem_map,List.mem_range,decide_eq_true_eq] at h;obtain⟨⟨i,h1,rfl⟩,h2⟩:=h;exact⟨by omega,by omega,h2⟩
theorem sO (u:List Int) (k:Nat):k≤(cO u k).length+u.length:=by
 have h1:=sM (fun a=>decide (a∉u)) ((List.range k).map fun i=>((i+2:Nat):Int))
 have h2:(((List.range k).map fun i=>((i+2:Nat):Int)).filter fun a=>!decide (a∉u)).length≤u.length:=by
  refine sL ((sN k).filter _) (fun x hx=>?_);simp only[List.mem_filter] at hx;simpa using hx.2
 simp only[List.length_map,List.length_range] at h1;show k≤(List.filter _ _).length+u.length;omega
theorem DS (u:List Int) (k:Nat):(cO u k).length≤k:=by
 unfold cO;exact Nat.le_trans (List.length_filter_le _ _) (by simp)
theorem oI:∀(l seen:List bu),iR seen l=0→(∀x∈l,0≤x.n∧x.n<14)∧(l.map (·.n)).Nodup∧∀x∈l,∀y∈seen,y.n≠x.n
 |[],_,_=>⟨by simp,by simp,by simp⟩
 |p::l,seen,h=>by
  rw[iR] at h;split at h
  ·cases h
  ·rename_i h1;split at h
   ·cases h
   ·rename_i h2;obtain⟨h3,h4,h5⟩:=oI l _ h;have h1:=Decidable.not_not.1 h1;refine⟨fun x hx=>?_,?_,fun x hx y hy e=>?_⟩
    ·simp only[List.mem_cons] at hx;rcases hx with rfl|hx
     ·exact h1
     ·exact h3 x hx
    ·rw[List.map_cons,List.nodup_cons];refine⟨fun hm=>?_,h4⟩;obtain⟨x,hx,e⟩:=List.mem_map.1 hm;exact h5 x hx p (by simp) e.symm
    ·simp only[List.mem_cons] at hx;rcases hx with rfl|hx
     ·exact h2 ⟨y,hy,e⟩
     ·exact h5 x hx y (by simp[hy]) e
theorem sP {l:List bu} (h:pW l=0):(∀x∈l,0≤x.n∧x.n<14)∧(l.map (·.n)).Nodup∧l.length≤14:=by
 obtain⟨h1,h2,-⟩:=oI l [] h;refine⟨h1,h2,?_⟩
 have:=sL (m:=(List.range 14).map fun i=>((i:Nat):Int)) h2 (fun x hx=>by
  obtain⟨y,hy,rfl⟩:=List.mem_map.1 hx;have:=h1 y hy
  exact List.mem_map.2 ⟨y.n.toNat,List.mem_range.2 (by omega),by omega⟩)
 simpa using this
def cX (s:cY) (l:List bu):cY:=⟨s.gen+1,[(cL s).getD l.length 0,(cL s).getD (l.length+1) 0],jj s.pg l (cL s) l.length⟩
def dW (d:al) (s:cY) (l:List bu) (k:Nat):al:=lP (lP d l (cL s) l.length) (oH (cX s l).pg) ((cL s).drop l.length) k
def ef (d:al) (s:cY) (l:List bu) (j:Nat):al:=
 if j≤l.length then lP d l (cL s) j
 else if j≤l.length+2 then dW d s l (j-l.length)
 else if j=l.length+3 then (dW d s l 2).settle fun _=>true
 else if j=l.length+4 then ((dW d s l 2).settle fun _=>true).write ((s.gen+1)%2) (gu (s.gen+1) ((cX s l).t.getD 0 0) ((cX s l).t.getD 1 0))
 else (((dW d s l 2).settle fun _=>true).write ((s.gen+1)%2) (gu (s.gen+1) ((cX s l).t.getD 0 0) ((cX s l).t.getD 1 0))).settle fun _=>true
theorem AO (σ:PH) (b db:Nat) (s:cY) (d:al) (sl:Value) (l:List bu) (D:Int) (hl:bO 9 lO σ sl l) (hc:pW l=0) (hs:s.ok) (K3:0≤s.gen) (AP:s.gen<4611686018427387904) (hD:EX D) (hlen:d.wait.length<900):
 ae Tryz.prog 232 #[ptr b,sl,i64 D] σ [br b db s,a7 db d]
  (aE fun v ag ah=>∃j:Nat,j≤l.length+5∧(j<l.length+5→D=(j:Int))∧(j=l.length+5→∀i:Nat,i<l.length+5→D≠(i:Int))∧v=.tuple #[.bool (decide (j=l.length+5)),i64 0]∧σ.sub ag∧ah=[br b db (if j=l.length+5 then cX s l else s),a7 db (ef d s l j)]):=by
 obtain⟨hn,WA,adf⟩:=sP hc;obtain⟨t0,t1,ht⟩:=xZ hs;obtain⟨g,t,pg⟩:=s;simp only at ht K3 AP;subst ht;have kh:pg.length=14:=hs.2;(have kK:(i64 g::i64 t0::i64 t1::ints pg).length=17:=by simp[kh]);have AK:((ptr db::i64 g::i64 t0::i64 t1::ints pg).drop 1).take 17=i64 g::i64 t0::i64 t1::ints pg:=vj kK;have gG:dn (i64 g::i64 t0::i64 t1::ints pg):=dO rfl (dO rfl (dO rfl (dP _)));obtain⟨u,hu⟩:∃u,u=t0::t1::pg:=⟨_,rfl⟩;(have k9:cL ⟨g,[t0,t1],pg⟩=cO u 32:=by subst hu;rfl);(have L6:16≤(cO u 32).length:=by have:=sO u 32;rw[hu] at this⊢;simp only[List.length_cons,kh] at this;omega);(have hul:u.length=16:=by subst hu;simp[kh]);refine ob Tryz.func232 ?_;refine aW ?_;refine yC (Gf σ sl l hl) ?_;rw[hc];refine a8 ?_;refine bC ?_;(first|refine XA.aY (R:=br b db _) zL (br.aY) ?_|refine az.aY (R:=br b db _) zL (br.aY) ?_|refine DA.aY (R:=br b db _) zL (br.aY) ?_);rintro⟨⟩-;(first|refine XA.cl ?_|refine az.cl ?_|refine DA.cl ?_);(refine az.re (Δ:=[au b (ptr db::i64 g::i64 t0::i64 t1::ints pg) 265,a7 db d]) rfl ?_;refine bM ?_;refine cN fun g24=>?_;refine oa ?_;refine zw rfl (aC.cE (QW σ b db g t0 t1 pg kh) rfl) ?_);rintro _ _ _ ⟨_,⟨pu,cu,rfl,rfl,rfl⟩,rfl⟩;refine az.cl ?_;rw[←hu];refine az.qM (R:=bn 3 1 (.slice pu 16 cu) 16 (ints u)) (φ:=fun(_:Unit) m=>aV m (.slice pu 16 cu) u) zL (fun m h=>⟨(),ux h⟩) (fun _ _ _ h s=>h.mono s) ?_;rintro dQ ⟨⟩ QY bQ;(refine aW ?_;refine XA.gen [(0,_),(1,_),(6,_),(7,_),(9,_),(10,_),(11,_)] jN fun δ=>?_);dsimp only[List.foldl];refine XA.loop [(11,11),(38,55)] (fun k:Nat=>[(11,i64 ((k+2:Nat):Int))]) (fun k ag ah=>dQ=ag∧k≤32∧∃(p:Option Addr) (c:Nat),ah=[bn 3 1 (.slice p (cO u k).length c) (cO u k).length (ints (cO u k)),au g24 (dM b D (g+1) t0 t1 pg (.slice p (cO u k).length c)) 301,au b (ptr db::i64 g::i64 t0::i64 t1::ints pg) 265,a7 db d]) (fun k=>32-k) 0 (by exact⟨rfl,trivial⟩) (Δ0:=_) ?_ (⟨rfl,by decide,none,0,rfl⟩) ?_
 ·exact(aw.fy (e:=3) (size:=1) zE)
 rintro k δ _ _ ⟨rfl,hk,p,cc,rfl⟩;dsimp only[eb,List.foldl];have hfk:=DS u k;refine bt ?_;refine XA.bI rfl (fun aT=>?_) (fun aT=>?_)
 ·(have aT:k<32:=by omega);refine bC ?_;refine yC (AL dQ _ u ((k+2:Nat):Int) QY) ?_;refine bq ?_;refine XA.bI rfl (fun kI=>?_) (fun kI=>?_)
  ·(have e1:cO u (k+1)=cO u k++[((k+2:Nat):Int)]:=by rw[qT,if_neg kI]);have Cn:=oG (sb:=b) (left:=D) (gen:=g+1) (t0:=t0) (t1:=t1) (fr:=.slice p (cO u k).length cc) kh;(have fR:=fun mA=>uK (sb:=b) (left:=D) (gen:=g+1) (t0:=t0) (t1:=t1) (fr:=.slice p (cO u k).length cc) kh mA);(have ey:19+BL.size≤(dM b D (g+1) t0 t1 pg (.slice p (cO u k).length cc)).length:=by rw[mz kh];decide);obtain⟨fk,Ym⟩:∃fk,fk=cO u k:=⟨_,rfl⟩;rw[←Ym] at e1 Cn fR ey hfk⊢;refine bt ?_;refine zw rfl (aC.qO (ad rfl) rfl (ad rfl)) ?_;rintro _ _ _ ⟨g52,rfl,rfl,rfl⟩;refine zw rfl (aC.tS (ad rfl) rfl (ad rfl) rfl rfl rfl) ?_;rintro _ _ _ ⟨p53,c53,rfl,rfl,rfl⟩;refine bH ?_;refine⟨cF,k+1,_,zM,?_,⟨rfl,aT,p53,c53,by rw[e1,List.length_append,List.length_singleton]⟩,(by omega)⟩
   ·rw[show ints (fk++[((k+2:Nat):Int)])=ints fk++[i64 ((k+2:Nat):Int)] from by simp];exact zE
  ·have kI:((k+2:Nat):Int)∈u:=Decidable.not_not.1 kI;(have e1:cO u (k+1)=cO u k:=by rw[qT,if_pos kI,List.append_nil]);refine a8 ?_;refine⟨cF,k+1,_,zM,?_,⟨rfl,aT,p,cc,by rw[e1]⟩,(by omega)⟩
   ·exact zE
 (have Yn:k=32:=by omega);subst Yn;obtain⟨F,hF⟩:∃F,F=cO u 32:=⟨_,rfl⟩;rw[←hF] at k9 L6 hfk⊢;refine aW ?_;refine az.qM (R:=bn 3 1 (.slice p F.length cc) F.length (ints F)) (φ:=fun(_:Unit) m=>aV m (.slice p F.length cc) F) zL (fun m h=>⟨(),ux h⟩) (fun _ _ _ h s=>h.mono s) ?_;rintro dq ⟨⟩ AJ bT;have uf:=bQ.trans bT;have jy:=hl.mono uf (fun _ _ h=>h);refine az.re (Δ:=[au g24 (dM b (leftOf D 0) (g+1) t0 t1 pg (.slice p F.length cc)) 301,au b (ptr db::i64 g::i64 t0::i64 t1::ints pg) 265,a7 db d]) (by rw[AG hD]) ?_;obtain⟨S,hS⟩:∃S:cY,S=⟨g,[t0,t1],pg⟩:=⟨_,rfl⟩;(have xR:ptr db::i64 g::i64 t0::i64 t1::ints pg=ptr db::S.cells:=by rw[hS];rfl);(have Gg:S.ok:=by rw[hS];exact hs);rw[←hS] at k9⊢;rw[xR];refine zw rfl (aC.cE (KW dq g24 b db D (g+1) t0 t1 pg _ S d sl l F hD kh AJ jy hn (by omega) (by omega) (by omega)) rfl) ?_;rintro _ _ _ ⟨_,⟨k,KY,uq,rfl,hkD,U4,DM,rfl,rfl⟩,rfl⟩;refine az.cl ?_;by_cases Qv:k=l.length
 ·subst Qv;rw[decide_eq_true rfl];obtain⟨a0,BV⟩:∃a,F[l.length]? =some a:=⟨_,List.getElem?_eq_getElem (by omega)⟩;obtain⟨a1,Ol⟩:∃a,F[l.length+1]? =some a:=⟨_,List.getElem?_eq_getElem (by omega)⟩;(have Yo:F.getD l.length 0=a0:=by rw[List.getD_eq_getElem?_getD,BV];rfl);(have Yp:F.getD (l.length+1) 0=a1:=by rw[List.getD_eq_getElem?_getD,Ol];rfl);(have H9:F.drop l.length=a0::a1::F.drop (l.length+2):=by rw[sg BV,sg Ol]);obtain⟨P,hP⟩:∃P,P=jj pg l F l.length:=⟨_,rfl⟩;(have Yq:P.length=14:=by rw[hP];exact lQ l F kh _);(have WB:cX S l=⟨g+1,[a0,a1],P⟩:=by rw[cX,k9,Yo,Yp,hP,hS]);have hw1:=iq d l F l.length;(have hcT:∀q,dW d S l q=lP (lP d l F l.length) (oH P) (a0::a1::F.drop (l.length+2)) q:=fun q=>by rw[dW,k9,WB,H9]);(have hgS:S.gen=g:=by rw[hS]);rw[H9] at DM;rw[←hP];refine bq ?_;(first|refine az.wanted rfl rfl ?_|refine az.wq rfl rfl ?_);refine zw rfl (aC.cE (KZ dq g24 b db D l.length (g+1) t0 t1 P KY S (lP d l F l.length) a0 a1 (F.drop (l.length+2)) hD (by omega) Yq DM (by omega)) rfl) ?_;rintro _ _ _ ⟨_,⟨k2,Om,hk3,rfl,Yr,On,adj,rfl,rfl⟩,rfl⟩;refine az.cl ?_;rw[←hcT];by_cases U5:k2=2
  ·subst U5;rw[decide_eq_true rfl,show T0 t0 a0 2=a0 from rfl,show T1 t1 a1 2=a1 from rfl]
   have Ys:(dW d S l 2).wait.length<1000000:=by
    rw[hcT];have:=iq (lP d l F l.length) (oH P) (a0::a1::F.drop (l.length+2)) 2;omega
   (have hw3:((dW d S l 2).settle fun _=>true).wait.length<1000000:=by simp[al.settle]);(have AI:ef d S l (l.length+2)=dW d S l 2:=by rw[ef,if_neg (by omega),if_pos (by omega),show l.length+2-l.length=2 by omega]);have Yt:ef d S l (l.length+3)=(dW d S l 2).settle fun _=>true:=by rw[ef,if_neg (by omega),if_neg (by omega),if_pos rfl]
   have hc4:ef d S l (l.length+4)=((dW d S l 2).settle fun _=>true).write ((g+1)%2) (gu (g+1) a0 a1):=by
    rw[ef,if_neg (by omega),if_neg (by omega),if_neg (by omega),if_pos rfl,WB,hgS];rfl
   have U6:ef d S l (l.length+5)=(((dW d S l 2).settle fun _=>true).write ((g+1)%2) (gu (g+1) a0 a1)).settle fun _=>true:=by
    rw[ef,if_neg (by omega),if_neg (by omega),if_neg (by omega),if_neg (by omega),WB,hgS];rfl
   have hw4:(((dW d S l 2).settle fun _=>true).write ((g+1)%2) (gu (g+1) a0 a1)).wait.length<1000000:=by
    have:=nw ((dW d S l 2).settle fun _=>true) ((g+1)%2) (gu (g+1) a0 a1);(have h0:((dW d S l 2).settle fun _=>true).wait.length=0:=by simp[al.settle]);omega
   refine bM ?_;by_cases EY:D=((l.length+2:Nat):Int)
   ·have adn:=EY;subst EY;(first|refine az.wanted rfl rfl ?_|refine az.wq rfl rfl ?_);refine yC (uL dq g24 b (l.length+2) (g+1) a0 a1 P Om (by omega)) ?_;refine bM ?_;(first|refine zH ?_);refine bM ?_;(first|refine zH ?_);refine bM ?_;refine a8 ?_;refine ao.ret (aG.two rfl rfl rfl) (ah:=[br b db S,a7 db (dW d S l 2)]) (aw.e9 (Θ:=[_]) zD (br.mk (s:=S) Gg rfl) zE) ⟨l.length+2,by omega,fun _=>rfl,fun h=>absurd h (by omega),?_,uf,?_⟩
    ·exact congrArg (fun x=>Value.tuple #[.bool x,i64 0]) (decide_eq_false (by omega)).symm
    ·rw[if_neg (by omega),AI]
   (first|refine az.wanted rfl rfl ?_|refine az.wq rfl rfl ?_);refine yC (sJ dq g24 b db D (l.length+2) (g+1) a0 a1 P Om S (dW d S l 2) hD (by omega) EY Ys) ?_;refine bM ?_;by_cases QZ:D=((l.length+3:Nat):Int)
   ·subst QZ;(first|refine az.wanted rfl rfl ?_|refine az.wq rfl rfl ?_);refine yC (Ge dq g24 b (l.length+3) (g+1) a0 a1 P Om (by omega)) ?_;refine bM ?_;(first|refine zH ?_);refine bM ?_;refine a8 ?_;refine ao.ret (aG.two rfl rfl rfl) (ah:=[br b db S,a7 db ((dW d S l 2).settle fun _=>true)]) (aw.e9 (Θ:=[_]) zD (br.mk (s:=S) Gg rfl) zE) ⟨l.length+3,by omega,fun _=>rfl,fun h=>absurd h (by omega),?_,uf,?_⟩
    ·exact congrArg (fun x=>Value.tuple #[.bool x,i64 0]) (decide_eq_false (by omega)).symm
    ·rw[if_neg (by omega),Yt]
   (first|refine az.wanted rfl rfl ?_|refine az.wq rfl rfl ?_);refine yC (DQ dq g24 b db D (l.length+3) (g+1) a0 a1 P Om S _ hD (by omega) QZ (by omega) hw3) ?_;refine bM ?_;by_cases Yu:D=((l.length+4:Nat):Int)
   ·subst Yu;(first|refine az.wanted rfl rfl ?_|refine az.wq rfl rfl ?_);refine yC (uL dq g24 b (l.length+4) (g+1) a0 a1 P Om (by omega)) ?_;refine bM ?_;refine a8 ?_;refine ao.ret (aG.two rfl rfl rfl) (ah:=[br b db S,a7 db (((dW d S l 2).settle fun _=>true).write ((g+1)%2) (gu (g+1) a0 a1))]) (aw.e9 (Θ:=[_]) zD (br.mk (s:=S) Gg rfl) zE) ⟨l.length+4,by omega,fun _=>rfl,fun h=>absurd h (by omega),?_,uf,?_⟩
    ·exact congrArg (fun x=>Value.tuple #[.bool x,i64 0]) (decide_eq_false (by omega)).symm
    ·rw[if_neg (by omega),hc4]
   (first|refine az.wanted rfl rfl ?_|refine az.wq rfl rfl ?_);refine yC (sJ dq g24 b db D (l.length+4) (g+1) a0 a1 P Om S _ hD (by omega) Yu hw4) ?_;have Gh:(i64 (g+1)::i64 a0::i64 a1::ints P).length=17:=by simp[Yq]
   have ado:((dM b (leftOf D (l.length+4+1)) (g+1) a0 a1 P Om).drop 2).take 17=i64 (g+1)::i64 a0::i64 a1::ints P:=by
    show ((i64 (g+1)::i64 a0::i64 a1::ints P)++[Om]).take 17=_;exact aI Gh
   have sD:dn (i64 (g+1)::i64 a0::i64 a1::ints P):=dO rfl (dO rfl (dO rfl (dP _)));have U7:S.cells.length=17:=by rw[hS];simpa[cY.cells] using kh
   have n6:aJ (ptr db::S.cells) 1 (i64 (g+1)::i64 a0::i64 a1::ints P)=ptr db::i64 (g+1)::i64 a0::i64 a1::ints P:=by
    unfold aJ;rw[Gh,List.take_succ_cons,List.take_zero,List.drop_succ_cons,List.drop_of_length_le (by rw[U7];decide)];simp
   have ey:1+Fi.size≤(ptr db::S.cells).length:=by rw[List.length_cons,U7];decide
   have bF:∀i:Nat,i<l.length+5→D≠(i:Int):=fun i hi=>by
    rcases Nat.lt_or_ge i l.length with h|h
    ·exact U4 i h
    ·rcases (show i=l.length+0∨i=l.length+1∨i=l.length+2∨i=l.length+3∨i=l.length+4 by omega) with e|e|e|e|e<;>rw[e]
     ·exact On 0 (by decide)
     ·exact On 1 (by decide)
     ·exact EY
     ·exact QZ
     ·exact Yu
   refine bM ?_;refine oa ?_;refine ao.ret (aG.two rfl rfl rfl) (ah:=[br b db ⟨g+1,[a0,a1],P⟩,a7 db _]) (aw.e9 (Θ:=[_]) zD (br.mk (s:=⟨g+1,[a0,a1],P⟩) ⟨rfl,Yq⟩ rfl) zE) ⟨l.length+5,Nat.le_refl _,fun h=>absurd h (Nat.lt_irrefl _),fun _=>bF,?_,uf,?_⟩
   ·exact congrArg (fun x=>Value.tuple #[.bool x,i64 0]) (decide_eq_true rfl).symm
   ·rw[if_pos rfl,U6,WB]
  ·have EY:=Yr (by omega);rw[decide_eq_false U5];refine bM ?_;(first|refine zH ?_);refine bM ?_;(first|refine zH ?_);refine bM ?_;(first|refine zH ?_);refine bM ?_;refine a8 ?_
   have mT:ef d S l (l.length+k2)=dW d S l k2:=by
    rcases (show k2=0∨k2=1 by omega) with rfl|rfl
    ·rw[ef,if_pos (by omega),dW,k9];rfl
    ·rw[ef,if_neg (by omega),if_pos (by omega),show l.length+1-l.length=1 by omega]
   refine ao.ret (aG.two rfl rfl rfl) (ah:=[br b db S,a7 db (dW d S l k2)]) (aw.e9 (Θ:=[_]) zD (br.mk (s:=S) Gg rfl) zE) ⟨l.length+k2,by omega,fun _=>EY,fun h=>absurd h (by omega),?_,uf,?_⟩
   ·exact congrArg (fun x=>Value.tuple #[.bool x,i64 0]) (decide_eq_false (by omega)).symm
   ·rw[if_neg (by omega),mT]
 ·have KX:=hkD (by omega);rw[decide_eq_false Qv];refine bq ?_;(first|refine zH ?_);refine bM ?_;(first|refine zH ?_);refine bM ?_;(first|refine zH ?_);refine bM ?_;(first|refine zH ?_);refine bM ?_;refine a8 ?_;(have mT:ef d S l k=lP d l F k:=by rw[ef,if_pos uq,k9]);refine ao.ret (aG.two rfl rfl rfl) (ah:=[br b db S,a7 db (lP d l F k)]) (aw.e9 (Θ:=[_]) zD (br.mk (s:=S) Gg rfl) zE) ⟨k,by omega,fun _=>KX,fun h=>absurd h (by omega),?_,uf,?_⟩
  ·exact congrArg (fun x=>Value.tuple #[.bool x,i64 0]) (decide_eq_false (by omega)).symm
  ·rw[if_neg (by omega),mT]
theorem dZ {d:al} (hd:d.ok) (p:Nat→Bool):(d.settle p).ok:=by
 have jL:(d.wait.zipIdx).take d.wait.length=d.wait.zipIdx:=List.take_of_length_le (by simp);(have fS:(d.settle p).l=d.part p d.wait.length:=by simp only[al.settle,al.part,jL]);have zr:=Ck hd p d.wait.length;exact⟨by rw[fS];exact zr.1,by rw[fS];exact zr.2,by simp[al.settle]⟩
def al.held (d:al) (a:Int):List Int:=d.l.getD a.toNat al.aZ
def al.waits (d:al) (a:Int):List (List Int):=(d.wait.filter fun p=>p.1=a.toNat).map (·.2)
theorem Yv {d:al} (hd:d.ok) (a:Int):∀w∈d.waits a,w.length=8:=by
 intro w hw;simp only[al.waits,List.mem_map,List.mem_filter] at hw;obtain⟨p,⟨hp,-⟩,rfl⟩:=hw;exact(hd.2.2 p hp).2
theorem mU {d:al} {a:Int} (ha:0≤a∧a<34) (h:d.wait=[]):d.read a=d.held a:=by
 rw[al.read,if_pos ha,h];rfl
theorem Gi (n:Nat):∀(ps:List (Nat×List Int)) (w:List Int),al.last w n ps=w∨al.last w n ps∈(ps.filter fun p=>p.1=n).map (·.2):=by
 intro ps
 induction ps with
 |nil=>intro w;exact .inl rfl
 |cons p ps ih=>
  intro w;have e:al.last w n (p::ps)=al.last (if p.1=n then p.2 else w) n ps:=rfl;rw[e];by_cases h:p.1=n
  ·rw[if_pos h];rcases ih p.2 with ih|ih
   ·exact .inr (by rw[ih];simp[h])
   ·exact .inr (by simp only[List.filter_cons,h,decide_true,if_true,List.map_cons,List.mem_cons];exact .inr ih)
  ·rw[if_neg h];rcases ih w with ih|ih
   ·exact .inl ih
   ·exact .inr (by simpa[List.filter_cons,h] using ih)
theorem Gj (d:al) (is:Nat→Bool) (n k:Nat) (hn:k<d.l.length):(d.part is n).getD k al.aZ=al.last (d.l.getD k al.aZ) k ((((d.wait.zipIdx).take n).filter fun p=>is p.2).map (·.1)):=by
 have gen:∀(ps:List ((Nat×List Int)×Nat)) (l:List (List Int)),k<l.length→(ps.foldl (fun l p=>if is p.2 then l.set p.1.1 p.1.2 else l) l).getD k al.aZ=al.last (l.getD k al.aZ) k ((ps.filter fun p=>is p.2).map (·.1)):=by
  intro ps
  induction ps with
  |nil=>intro l _;rfl
  |cons p ps ih=>
   intro l hl;simp only[List.foldl_cons];by_cases hp:is p.2=true
   ·rw[if_pos hp,ih _ (by simpa using hl)];simp only[List.filter_cons,hp,if_true,List.map_cons];simp only[al.last,List.foldl_cons];congr 1;by_cases hk:p.1.1=k
    ·rw[if_pos hk,hk];simp[List.getD_eq_getElem?_getD,hl]
    ·rw[if_neg hk];simp[List.getD_eq_getElem?_getD,List.getElem?_set_ne hk]
   ·rw[if_neg hp,ih _ hl];simp[List.filter_cons,hp]
 exact gen _ d.l hn
theorem lR {d:al} (hd:d.ok) (is:Nat→Bool) {a:Int} (ha:0≤a∧a<34):(d.settle is).held a=al.last (d.held a) a.toNat (((d.wait.zipIdx).filter fun p=>is p.2).map (·.1)):=by
 have jL:(d.wait.zipIdx).take d.wait.length=d.wait.zipIdx:=List.take_of_length_le (by simp);have:=Gj d is d.wait.length a.toNat (by rw[hd.1];omega);rw[jL] at this;rw[al.held,show (d.settle is).l=d.part is d.wait.length by simp only[al.settle,al.part,jL]];exact this
theorem AR {d:al} (hd:d.ok) (is:Nat→Bool) {a:Int} (ha:0≤a∧a<34):(d.settle is).held a=d.held a∨(d.settle is).held a∈d.waits a:=by
 rw[lR hd is ha];rcases Gi a.toNat (((d.wait.zipIdx).filter fun p=>is p.2).map (·.1)) (d.held a) with h|h
 ·exact .inl h
 ·refine .inr ?_;simp only[List.mem_map,List.mem_filter,decide_eq_true_eq] at h;obtain⟨p,⟨⟨q,⟨hq,-⟩,rfl⟩,hk⟩,hw⟩:=h
  have QB:q.1∈d.wait:=by
   obtain⟨q1,q2⟩:=q;have:=(List.mem_zipIdx hq).2.2;rw[this];exact List.getElem_mem _
  simp only[al.waits,List.mem_map,List.mem_filter,decide_eq_true_eq];exact⟨q.1,⟨QB,hk⟩,hw⟩
theorem AS {d:al} (hd:d.ok) (is:Nat→Bool) (bF:∀k,is k=true) {a:Int} (ha:0≤a∧a<34):(d.settle is).held a=d.read a:=by
 rw[lR hd is ha,al.read,if_pos ha]
 have:((d.wait.zipIdx).filter fun p=>is p.2).map (·.1)=d.wait:=by
  rw[List.filter_eq_self.2 (fun p _=>bF p.2)];simp
 rw[this];rfl
theorem sQ (d:al) (a b:Int) (w:List Int):(d.write b w).held a=d.held a:=by unfold al.held al.write;split<;>rfl
theorem qU {d:al} {a b:Int} {w:List Int} (ha:0≤a∧a<34):(d.write b w).waits a=if (0≤b∧b<34)∧b=a then d.waits a++[w] else d.waits a:=by
 unfold al.waits al.write;by_cases hb:0≤b∧b<34
 ·rw[if_pos hb];simp only[List.filter_append,List.map_append];by_cases e:b=a
  ·subst e;simp[hb]
  ·(have:¬b.toNat=a.toNat:=by omega);simp[e,this]
 ·rw[if_neg hb,if_neg (by rintro⟨h,-⟩;exact hb h)]
theorem K4 (w:List Int) (n:Nat):∀(ps:List (Nat×List Int)),al.last w n ps=(((ps.filter fun p=>p.1=n).map (·.2)).getLast?).getD w:=by
 intro ps
 induction ps generalizing w with
 |nil=>rfl
 |cons p ps ih=>
  show al.last (if p.1=n then p.2 else w) n ps=_;rw[ih];by_cases h:p.1=n
  ·rw[if_pos h,List.filter_cons,if_pos (by simpa using h),List.map_cons,List.getLast?_cons];rfl
  ·rw[if_neg h,List.filter_cons,if_neg (by simpa using h)]
theorem K5 {d:al} {a:Int} (ha:0≤a∧a<34):d.read a=((d.waits a).getLast?).getD (d.held a):=by
 rw[al.read,if_pos ha,K4];rfl
theorem ir {d:al} (hd:d.ok) (is:Nat→Bool) {a:Int} (ha:0≤a∧a<34) (hw:d.waits a=[]):(d.settle is).held a=d.held a:=by
 rcases AR hd is ha with h|h
 ·exact h
 ·rw[hw] at h;cases h
theorem iZ {d:al} (h:d.wait=[]) (a:Int):d.waits a=[]:=by simp[al.waits,h]
theorem oJ (d:al) (l:List bu) (F:List Int) (a:Int):∀k,(lP d l F k).held a=d.held a
 |0=>rfl
 |k+1=>by rw[lP,sQ,oJ d l F a k]
theorem vQ {d:al} {l:List bu} {F:List Int} (hd:d.ok) (hl:∀x∈l,x.w.length=8):∀k,k≤l.length→(lP d l F k).ok
 |0,_=>hd
 |k+1,hk=>by
  rw[lP];refine(vQ hd hl k (by omega)).write ?_;rw[List.getD_eq_getElem?_getD,List.getElem?_eq_getElem (by omega)];exact hl _ (List.getElem_mem _)
theorem gS {d:al} {l:List bu} {F:List Int} {a:Int} (ha:0≤a∧a<34):∀k,(∀j,j<k→F.getD j 0≠a)→(lP d l F k).waits a=d.waits a
 |0,_=>rfl
 |k+1,h=>by
  rw[lP,qU ha,if_neg (fun e=>h k (by omega) e.2),gS ha k (fun j hj=>h j (by omega))]
theorem ny {d:al} {l:List bu} {F:List Int} {a:Int} (ha:0≤a∧a<34) {i:Nat} (hi:F.getD i 0=a):∀k,i<k→(∀j,j<k→j≠i→F.getD j 0≠a)→(lP d l F k).waits a=d.waits a++[(l.getD i ⟨0,[]⟩).w]
 |k+1,hk,h=>by
  rw[lP,qU ha];by_cases e:k=i
  ·subst e;rw[if_pos ⟨by rw[hi];exact ha,hi⟩,gS ha k (fun j hj=>h j (by omega) (by omega))]
  ·rw[if_neg (fun q=>h k (by omega) e q.2),ny ha hi k (by omega) (fun j hj fW=>h j (by omega) fW)]
structure Good (d:al) (s:cY):Prop where
 Cp:d.ok
 wait:d.wait=[]
 Ia:s.ok
 gen:0≤s.gen
 U8:∀p,p<14→s.pg.getD p 0=0∨(2≤s.pg.getD p 0∧s.pg.getD p 0<34)
 root:(s.gen=0∧s.t=[0,0]∧s.pg=dA∧d.held 0=al.aZ∧(d.held 1).getD 0 0=0)∨
  (0<s.gen∧∃t0 t1,s.t=[t0,t1]∧d.held (s.gen%2)=gu s.gen t0 t1∧(d.held ((s.gen+1)%2)).getD 0 0<s.gen∧(2≤t0∧t0<34∧d.held t0=tw s.pg 0)∧(2≤t1∧t1<34∧d.held t1=tw s.pg 1))
theorem Good.new:Good al.new ⟨0,[0,0],dA⟩:=by
 refine⟨al.F0,rfl,⟨rfl,by simp[dA]⟩,Int.le_refl _,fun p hp=>.inl ?_,.inl ⟨rfl,rfl,rfl,rfl,rfl⟩⟩;simp only[dA,List.getD_eq_getElem?_getD,List.getElem?_replicate];split<;>rfl
theorem Gk {pg:List Int} {i k:Nat} (hk:k<8) (h:i*8+k<14):(tw pg i).getD k 0=pg.getD (i*8+k) 0:=by
 rw[tw,mL,List.getD_eq_getElem?_getD,List.getElem?_map,List.getElem?_range hk];simp only[Option.map_some,Option.getD_some];rw[if_pos ⟨hk,h⟩]
theorem Good.open {d:al} {s:cY} (h:Good d s):F4 d=s:=by
 obtain⟨g,t,pg⟩:=s;(have hr:∀a:Int,0≤a∧a<34→d.read a=d.held a:=fun a ha=>mU ha h.wait);(have r0:kg d 0=⟨(d.held 0).getD 0 0,[(d.held 0).getD 1 0,(d.held 0).getD 2 0],dA⟩:=by rw[kg,hr 0 ⟨by decide,by decide⟩]);(have r1:kg d 1=⟨(d.held 1).getD 0 0,[(d.held 1).getD 1 0,(d.held 1).getD 2 0],dA⟩:=by rw[kg,hr 1 ⟨by decide,by decide⟩]);rcases h.root with ⟨hg,ht,hp,h0,h1⟩|⟨hg,t0,t1,ht,oK,AT,⟨ta0,WC,WD⟩,⟨ta1,WE,WG⟩⟩
 ·simp only at hg ht hp;subst hg ht hp
  have hl:dB d=⟨0,[0,0],dA⟩:=by
   rw[dB,r0,r1,h0,h1];rfl
  have kh:ck d [0,0] 14=dA:=by
   unfold ck dA;apply List.ext_getElem (by simp);intro p q1 q2;simp only[List.length_map,List.length_range] at q1;simp only[List.getElem_map,List.getElem_range,List.getElem_replicate];rw[if_pos q1,nu]
   have:([0,0]:List Int).getD (p/8) 0=0:=by
    rcases (show p/8=0∨p/8=1 by omega) with e|e<;>rw[e]<;>rfl
   rw[this];rfl
  show ({dB d with pg:=ck d (dB d).t 14}:cY)=_;rw[hl,kh]
 ·simp only at hg ht oK AT WD WG;subst ht
  have hl:dB d=⟨g,[t0,t1],dA⟩:=by
   rw[dB,r0,r1];rcases (show g%2=0∨g%2=1 by omega) with e|e
   ·(have e':(g+1)%2=1:=by omega);rw[e] at oK;rw[e'] at AT;rw[oK,if_neg (by simp only[gu,List.getD_cons_zero];omega)];rfl
   ·(have e':(g+1)%2=0:=by omega);rw[e] at oK;rw[e'] at AT;rw[oK,if_pos (by simp only[gu,List.getD_cons_zero];omega)];rfl
  have tR:pg.length=14:=h.Ia.2
  have kh:ck d [t0,t1] 14=pg:=by
   apply List.ext_getElem (by rw[im,tR]);intro p q1 q2;rw[im] at q1;simp only[ck,List.getElem_map,List.getElem_range];rw[if_pos q1,nu];(have WH:pg[p]=pg.getD p 0:=by simp[List.getD_eq_getElem?_getD,q2]);(have hdiv:p/8*8+p%8=p:=by omega);rcases (show p/8=0∨p/8=1 by omega) with e|e
   ·rw[e];show (if 0<t0 then (d.read t0).getD (p%8) 0 else 0)=_;rw[if_pos (by omega),hr t0 ⟨by omega,WC⟩,WD,Gk (by omega) (by omega),WH];congr 1;omega
   ·rw[e];show (if 0<t1 then (d.read t1).getD (p%8) 0 else 0)=_;rw[if_pos (by omega),hr t1 ⟨by omega,WE⟩,WG,Gk (by omega) (by omega),WH];congr 1;omega
  show ({dB d with pg:=ck d (dB d).t 14}:cY)=_;rw[hl,kh]
theorem Good.AU {d:al} {s:cY} (h:Good d s) {p:Nat} (hp:p<14):bB d s p=if s.pg.getD p 0=0 then al.aZ else d.held (s.pg.getD p 0):=by
 rw[bB];by_cases h0:s.pg.getD p 0=0
 ·rw[if_pos h0,if_neg];rintro⟨-,-,h⟩;exact h (by simpa using h0)
 ·rw[if_neg h0,if_pos ⟨by omega,by omega,by simpa using h0⟩];rcases h.U8 p hp with h1|h1
  ·exact absurd h1 h0
  ·rw[Int.toNat_natCast,mU ⟨by omega,h1.2⟩ h.wait]
theorem Good.same {d d':al} {s:cY} (h:Good d s) (hd:d'.ok) (hw:d'.wait=[]) (hk:∀a:Int,(a=0∨a=1∨a∈s.t∨a∈s.pg)→0≤a∧a<34→d'.held a=d.held a):Good d' s∧∀p:Nat,p<14→bB d' s p=bB d s p:=by
 have tR:s.pg.length=14:=h.Ia.2
 have hg:Good d' s:=by
  refine⟨hd,hw,h.Ia,h.gen,h.U8,?_⟩;have k0:=hk 0 (.inl rfl) ⟨by decide,by decide⟩;have k1:=hk 1 (.inr (.inl rfl)) ⟨by decide,by decide⟩;rcases h.root with ⟨hg,ht,hp,h0,h1⟩|⟨hg,t0,t1,ht,oK,AT,⟨ta0,WC,WD⟩,⟨ta1,WE,WG⟩⟩
  ·exact .inl ⟨hg,ht,hp,by rw[k0,h0],by rw[k1,h1]⟩
  ·refine .inr ⟨hg,t0,t1,ht,?_,?_,⟨ta0,WC,?_⟩,⟨ta1,WE,?_⟩⟩
   ·rcases (show s.gen%2=0∨s.gen%2=1 by omega) with e|e<;>rw[e] at oK⊢
    ·rw[k0];exact oK
    ·rw[k1];exact oK
   ·rcases (show (s.gen+1)%2=0∨(s.gen+1)%2=1 by omega) with e|e<;>rw[e] at AT⊢
    ·rw[k0];exact AT
    ·rw[k1];exact AT
   ·rw[hk t0 (.inr (.inr (.inl (by rw[ht];simp)))) ⟨by omega,WC⟩];exact WD
   ·rw[hk t1 (.inr (.inr (.inl (by rw[ht];simp)))) ⟨by omega,WE⟩];exact WG
 refine⟨hg,fun p hp=>?_⟩;rw[hg.AU hp,h.AU hp];by_cases h0:s.pg.getD p 0=0
 ·rw[if_pos h0,if_pos h0]
 ·rw[if_neg h0,if_neg h0];rcases h.U8 p hp with h1|h1
  ·exact absurd h1 h0
  ·refine hk _ (.inr (.inr (.inr ?_))) ⟨by omega,h1.2⟩;rw[List.getD_eq_getElem?_getD,List.getElem?_eq_getElem (by omega)];exact List.getElem_mem _
end Go.Proofs.YtgeoiflbjcehcaaGreatDoor
