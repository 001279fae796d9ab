import Derived.Test.YtgeoiflbjcehcaaGreatDoorDj13
import Derived.Test.YtgeoiflbjcehcaaGreatDoorDj24
set_option maxHeartbeats 4000000
set_option maxRecDepth 2000
set_option linter.unusedVariables false
set_option linter.unusedSimpArgs false
namespace Go.Proofs.YtgeoiflbjcehcaaGreatDoor
open Go X
def kt (b:Be):Be:={b with m:=b.kept}
theorem dD {α:Type} {c:Prop} [Decidable c] {Q:α→Prop} {a b:α} (ha:Q a) (hb:Q b):Q (if c then a else b):=by
 by_cases h:c
 ·rw[if_pos h];exact ha
 ·rw[if_neg h];exact hb
theorem uV (inp:List Int) (keep:Bool) (x:In) (b:Be) (js:x.op≠15):(aL inp keep x b).kept=b.kept:=by
 obtain⟨⟨next,stack,rd,outn,st,cells⟩,kept,out,wrong⟩:=b;(have h:∀b':Be,b'.kept=kept→(fun b':Be=>b'.kept=kept) b':=fun _ h=>h);generalize (fun b':Be=>b'.kept=kept)=Q at h;show (fun b':Be=>b'.kept=kept) _;simp only[aL];refine dD (Q:=fun b':Be=>b'.kept=kept) rfl ?_;refine dD (Q:=fun b':Be=>b'.kept=kept) rfl ?_;refine dD (Q:=fun b':Be=>b'.kept=kept) ?_ ?_
 ·cases stack with
  |nil=>rfl
  |cons k s=>exact dD (Q:=fun b':Be=>b'.kept=kept) rfl rfl
 refine dD (Q:=fun b':Be=>b'.kept=kept) ?_ ?_
 ·rcases stack with _|⟨y,_|⟨z,s⟩⟩<;>rfl
 refine dD (Q:=fun b':Be=>b'.kept=kept) ?_ ?_
 ·cases stack<;>rfl
 refine dD (Q:=fun b':Be=>b'.kept=kept) ?_ ?_
 ·rcases stack with _|⟨y,_|⟨z,s⟩⟩
  ·rfl
  ·rfl
  ·exact dD (Q:=fun b':Be=>b'.kept=kept) rfl rfl
 refine dD (Q:=fun b':Be=>b'.kept=kept) ?_ ?_
 ·cases stack with
  |nil=>rfl
  |cons k s=>exact dD (Q:=fun b':Be=>b'.kept=kept) rfl rfl
 refine dD (Q:=fun b':Be=>b'.kept=kept) (dD (Q:=fun b':Be=>b'.kept=kept) rfl rfl) ?_;refine dD (Q:=fun b':Be=>b'.kept=kept) ?_ ?_
 ·cases stack with
  |nil=>rfl
  |cons k s=>exact dD (Q:=fun b':Be=>b'.kept=kept) rfl rfl
 refine dD (Q:=fun b':Be=>b'.kept=kept) rfl ?_;rw[if_neg js];exact dD (Q:=fun b':Be=>b'.kept=kept) rfl rfl
structure Li where
 b:Be
 M:Me
 Q:List (List Int)
structure oV where
 kind:Int
 n:Int
 K:Int
 mask:Int
section
variable (code:List In) (inp:List Int)
def cW (L:Li):Li:=⟨bz code inp true L.b,ju code inp L.M,if zy code L.b.m=true then (ju code inp L.M).C else L.Q⟩
def rk (L:Li):Li:=⟨kt L.b,⟨L.Q,rG⟩,L.Q⟩
def fj (K:Int) (bit:Bool) (L:Li):Li:=if K=0∨K=1∧bit=true then rk (cW code inp L) else rk L
def jv:Nat→Li→Li×Nat
 |0,L=>(L,0)
 |f+1,L=>if L.b.m.st=0 then ((jv f (cW code inp L)).1,(jv f (cW code inp L)).2+1) else (L,0)
def eU (K:Int) (bit:Bool):Nat→Li→Li×Nat
 |0,L=>(L,0)
 |f+1,L=>if zy code L.b.m=true then (fj code inp K bit L,1) else if L.b.m.st=0 then ((eU K bit f (cW code inp L)).1,(eU K bit f (cW code inp L)).2+1) else (L,0)
def bh (s:oV):Int:=if s.kind<1∨3<s.kind then 2 else if (s.kind≠2∧(s.n<0∨3000<s.n))∨(s.kind=3∧s.K<0) then 1 else 0
def jB (s:oV) (L:Li):Li×Nat:=if bh s≠0 then (L,0) else if s.kind=1 then jv code inp s.n.toNat L else if s.kind=3 then eU code inp s.K (dk s.mask 0) s.n.toNat L else (rk L,0)
end
structure fp (p:Pr) (inp:List Int) (L:Li) (k:Nat):Prop where
 iy:fi p inp L.M L.b k
 kept:fi p inp ⟨L.Q,rG⟩ (kt L.b) k
theorem fi.le {p:Pr} {inp:List Int} {M:Me} {b:Be} {k l:Nat} (h:fi p inp M b k) (hl:k≤l):fi p inp M b l:=⟨h.ch,h.inv,h.sh,h.inl,h.cl,by have:=h.ol;omega⟩
theorem fp.le {p:Pr} {inp:List Int} {L:Li} {k l:Nat} (h:fp p inp L k) (hl:k≤l):fp p inp L l:=⟨h.iy.le hl,h.kept.le hl⟩
theorem lY {code:List In} {m:Mi} (h:zy code m=true):m.st=0∧∃x,code[m.next]? =some x∧x.op=15:=by
 unfold zy at h;rw[Bool.and_eq_true] at h;refine⟨of_decide_eq_true h.1,?_⟩;revert h
 cases code[m.next]? with
 |none=>intro h;cases h.2
 |some x=>intro h;exact⟨x,rfl,of_decide_eq_true h.2⟩
theorem tm {code:List In} {inp:List Int} {keep:Bool} {b:Be} {x:In} (hx:code[b.m.next]? =some x) (h:x.op=15):b5 code inp keep b={bump b with kept:=if keep then (bump b).m else b.kept}:=by
 rw[b5,hx];obtain⟨op,a1,a2,a3⟩:=x;simp only at h;subst h;cases keep<;>rfl
theorem fp.next {p:Pr} {inp:List Int} {L:Li} {k:Nat} (h:fp p inp L k) (hk:k≤1000000):fp p inp (cW (ak p) inp L) (k+1):=by
 have hm:=h.iy.next hk true;refine⟨hm,?_⟩;by_cases hc:zy (ak p) L.b.m=true
 ·obtain⟨h0,x,hx,js⟩:=lY hc;(have e:bz (ak p) inp true L.b={bump L.b with kept:=(bump L.b).m}:=by rw[bz,if_pos h0,tm hx js];rfl);have e2:(cW (ak p) inp L).Q=(ju (ak p) inp L.M).C:=if_pos hc;have e3:(cW (ak p) inp L).b={bump L.b with kept:=(bump L.b).m}:=e;rw[e2,e3];rw[e] at hm;exact⟨hm.ch,hm.inv,hm.sh,hm.inl,hm.cl,hm.ol⟩
 ·have e2:(cW (ak p) inp L).Q=L.Q:=if_neg hc;rw[e2]
  have Vv:(bz (ak p) inp true L.b).kept=L.b.kept:=by
   by_cases h0:L.b.m.st=0
   ·obtain⟨x,hx,-⟩:=h.iy.ok hk h0;(have js:x.op≠15:=fun q=>hc (by rw[wj h0 hx.at_,decide_eq_true q]));rw[bz,if_pos h0,b5,hx.at_];exact uV inp true x (bump L.b) js
   ·rw[bz,if_neg h0]
  have Ll:L.b.out.length≤(bz (ak p) inp true L.b).out.length:=by
   by_cases h0:L.b.m.st=0
   ·obtain⟨x,hx,-⟩:=h.iy.ok hk h0;rw[bz,if_pos h0];exact(h.iy.inv.step (keep:=true) h.iy.ch hx).2.1
   ·rw[bz,if_neg h0];exact Nat.le_refl _
  have hi:=h.kept.inv;have hs:=h.kept.sh;have hw:(kt (bz (ak p) inp true L.b)).m=(kt L.b).m:=Vv;refine⟨h.kept.ch,⟨?_,?_,?_,?_⟩,?_,h.kept.inl,h.kept.cl,hm.ol⟩
  ·intro h;have Ys:(kt (cW (ak p) inp L).b).m=(kt L.b).m:=hw;rw[Ys] at h⊢;exact hi.at_ h
  ·show (kt (bz (ak p) inp true L.b)).m.cells.length=_;rw[hw];exact hi.cells
  ·show (kt (bz (ak p) inp true L.b)).m.outn≤(bz (ak p) inp true L.b).out.length;rw[hw];exact Nat.le_trans hi.outn Ll
  ·show (kt (bz (ak p) inp true L.b)).m.rd≤_;rw[hw];exact hi.rd
  ·show bD L.Q (kt (bz (ak p) inp true L.b)).m;rw[hw];exact hs
theorem fp.RM {p:Pr} {inp:List Int} {L:Li} {k:Nat} (h:fp p inp L k):fp p inp (rk L) k:=⟨h.kept,h.kept⟩
theorem fp.Zb {p:Pr} {inp:List Int} {L:Li} {k:Nat} {K:Int} {bit:Bool} (h:fp p inp L k) (hk:k≤1000000):fp p inp (fj (ak p) inp K bit L) (k+1):=by
 rw[fj];split
 ·exact(h.next hk).RM
 ·exact h.RM.le (by omega)
theorem CS {p:Pr} {inp:List Int}:∀(f:Nat) {L:Li} {k:Nat},fp p inp L k→k+f≤1000000→fp p inp (jv (ak p) inp f L).1 (k+(jv (ak p) inp f L).2)∧(jv (ak p) inp f L).2≤f
 |0,L,k,h,hk=>⟨h,Nat.le_refl _⟩
 |f+1,L,k,h,hk=>by
  rw[jv];split
  ·obtain⟨h1,h2⟩:=CS f (h.next (by omega)) (by omega);exact⟨by rw[show k+((jv (ak p) inp f (cW (ak p) inp L)).2+1)=k+1+(jv (ak p) inp f (cW (ak p) inp L)).2 by omega];exact h1,by simp only;omega⟩
  ·exact⟨h,Nat.zero_le _⟩
theorem CT (σ:PH) (mb sb db:Nat) (d:al) (s:cY) (M:Me) (m:Int) (zq:0≤m) (AB:m<18446744073709551616):
 ae Tryz.prog 115 #[ptr db,.int .u64 m] σ [eh mb sb db d s M] (aE fun v ag ah=>∃d':al,v=.tuple #[]∧σ=ag∧Good d' s∧cw d' s=cw d s∧ah=[a7 db d']):=by
 refine ae.aY .head eh.aY (enters Tryz.func115 rfl rfl) ?_;rintro⟨inn,pg⟩ ⟨hG,hM⟩;obtain⟨h1,h2⟩:=hG.settle (dk m);refine ae.yj (R:=fun v ag ah=>∃b7,(v=.tuple #[]∧σ=ag∧b7=[a7 db (d.settle (dk m))])∧ah=b7++[au mb (aS sb inn M.dt pg) 242,br sb db s]) ?_ ?_
 ·refine((Cm σ db d m hG.Cs zq AB).frame [au mb (aS sb inn M.dt pg) 242,br sb db s] (aw.bP (.tail (.tail .head)) (aw.bP .head (aw.bP .head (aw.nil _))))).mono ?_;rintro e ag _ ⟨b7,h,rfl⟩
  cases e with
  |returned v=>exact⟨b7,h,rfl⟩
  |panicked c=>exact h.elim
  |outgrown=>exact h.elim
 ·rintro v ag _ ⟨_,⟨rfl,rfl,rfl⟩,rfl⟩;exact⟨_,aw.bP .head (aw.nil _),_,rfl,rfl,h1,rT (gU h1.Cp s) (gU hG.Cp s) (fun p hp=>by rw[fg _ _ hp,fg _ _ hp,h2 p hp]),rfl⟩
theorem Bg {d:al} {s:cY} {inn dt:List Bool} {pg C:List (List Int)} (hG:Good d s) (hM:nA d s inn dt pg C) (left:Int) (hl:0<left) (is:Nat→Bool):
 ∃Zc:cY,Good ((ef d s (bA C dt) (gy ⟨C,dt⟩ left)).settle is) Zc∧Zc.gen≤s.gen+1∧cw ((ef d s (bA C dt) (gy ⟨C,dt⟩ left)).settle is) Zc=if left=1∧is 0=true then C else cw d s:=by
 have ud:(bA C dt).length≤14:=gT C dt 14;have hw:=CB (dt:=dt) hM.cc;have hn:∀x∈bA C dt,0≤x.n∧x.n<14:=rS;(have same:∀{d':al},Good d' s→(∀p:Nat,p<14→bB d' s p=bB d s p)→cw d' s=cw d s:=fun g h=>rT (gU g.Cp s) (gU hG.Cp s) (fun p hp=>by rw[fg _ _ hp,fg _ _ hp,h p hp]));by_cases h1:left=1
 ·(have hj:gy ⟨C,dt⟩ left=(bA C dt).length+4:=by unfold gy;simp only;omega);rw[hj];have hr:=x8 hG hw ud hn is;by_cases h0:is 0=true
  ·rw[if_pos h0] at hr;rw[if_pos ⟨h1,h0⟩];exact⟨cX s (bA C dt),hr.1,Int.le_refl _,yl hr.1 hM.cc (hM.sync (ye hn hr.2)).2⟩
  ·rw[if_neg h0] at hr;rw[if_neg (fun q=>h0 q.2)];exact⟨s,hr.1,by omega,same hr.1 hr.2⟩
 ·(have hj:gy ⟨C,dt⟩ left≤(bA C dt).length+3:=by unfold gy;simp only;omega);have hp:=x7 hG hw ud hj is;rw[if_neg (fun q=>h1 q.1)];exact⟨s,hp.1,by omega,same hp.1 hp.2⟩
theorem Lz (σ:PH) (mb sb db:Nat) (d:al) (s:cY) (M:Me) (left:Int) (hl:0<left) (m:Int) (zq:0≤m) (AB:m<18446744073709551616):
 ae Tryz.prog 115 #[ptr db,.int .u64 m] σ [ui mb sb db d s M (gy M left)] (aE fun v ag ah=>∃(d':al) (s':cY),v=.tuple #[]∧σ=ag∧Good d' s'∧s'.gen≤s.gen+1∧cw d' s'=(if left=1∧dk m 0=true then M.C else cw d s)∧ah=[a7 db d']):=by
 refine ae.aY .head ui.aY (enters Tryz.func115 rfl rfl) ?_;rintro⟨inn,pg⟩ ⟨hG,hM⟩;obtain⟨s',h1,h2,h3⟩:=Bg hG hM left hl (dk m);refine ae.yj (R:=fun v ag ah=>∃b7,(v=.tuple #[]∧σ=ag∧b7=[a7 db ((ef d s (bA M.C M.dt) (gy M left)).settle (dk m))])∧ah=b7++[au mb (aS sb inn M.dt pg) 242,br sb db s]) ?_ ?_
 ·refine((Cm σ db _ m (DU hG (gT M.C M.dt 14) _) zq AB).frame [au mb (aS sb inn M.dt pg) 242,br sb db s] (aw.bP (.tail (.tail .head)) (aw.bP .head (aw.bP .head (aw.nil _))))).mono ?_;rintro e ag _ ⟨b7,h,rfl⟩
  cases e with
  |returned v=>exact⟨b7,h,rfl⟩
  |panicked c=>exact h.elim
  |outgrown=>exact h.elim
 ·rintro v ag _ ⟨_,⟨rfl,rfl,rfl⟩,rfl⟩;exact⟨_,aw.bP .head (aw.nil _),_,s',rfl,rfl,h1,h2,h3,rfl⟩
theorem wk (σ:PH) (gx db pb:Nat) (a0:Option Addr) (pc pj:Option Addr) (CU cc cj nc:Nat) (inp:List Int) (d:al) (s:cY) (hG:Good d s) (hj:aV σ (.slice pj inp.length cj) inp) (rf:inp.length≤1000000):
 ae Tryz.prog 108 #[ptr gx] σ [au gx [.pointer a0,ptr db,ptr pb,.slice pc CU cc,.slice pj inp.length cj,i64 nc] 125,a7 db d] (aE fun v ag ah=>∃(g mb sb:Nat) (pi:Option Addr) (ci:Nat),v=.tuple #[]∧σ.sub ag∧aV ag (.slice pi inp.length ci) inp∧ah=[au gx [ptr g,ptr db,ptr pb,.slice pc CU cc,.slice pj inp.length cj,i64 nc] 125,au g [ptr mb,.slice pc CU cc,.slice pi inp.length ci,ptr pb,i64 0,.bool false] 179,eh mb sb db d s ⟨cw d s,rG⟩]):=by
 refine dF Tryz.func108 ?_;refine XA.draw (by kernel_rfl) _ _ [19,22] [(0,.pu),(1,.pu),(2,.pu),(3,.pu),(4,.rd),(7,.pu),(8,.pu),(9,.pu),(10,.rd),(11,.pu),(12,.pu),(13,.pu),(14,.rd),(15,.pu),(16,.pu),(17,.pu),(18,.rd),(5,.wr),(6,.wr),(19,.wr),(20,.pu),(21,.pu),(22,.wr)] (by kernel_rfl) (PH.sub.refl _) (aw.bP (R:=au gx _ _) zL (aw.nil _)) ?_;refine dE ?_;refine aK.fL rfl rfl Gd.free (aC.cE (QS σ db d hG.Cp hG.Cs) rfl) ?_;rintro _ _ _ ⟨_,⟨sb,rfl,rfl,rfl⟩,rfl⟩;refine stays (aK.cl ?_);rw[hG.open];refine aK.fL rfl rfl Gd.free (aC.cE (Vh σ sb db d s hG) rfl) ?_;rintro _ _ _ ⟨_,⟨mb,rfl,rfl,rfl⟩,rfl⟩;refine stays (aK.cl ?_);refine aK.bj rfl rfl Gd.free (by kernel_rfl) (aC.cE (RG σ mb pb pc CU cc _ inp hj rf) rfl) ?_;rintro _ dQ _ ⟨_,⟨g,pi,ci,rfl,bQ,wm,rfl⟩,rfl⟩;refine aK.cl ?_;refine aN ?_;refine aK.bj rfl rfl Gd.free (by kernel_rfl) (aC.st (ad rfl) rfl) ?_;rintro _ _ _ ⟨rfl,rfl,rfl⟩;refine b3 ?_;exact fU rfl ⟨g,mb,sb,pi,ci,rfl,bQ,wm,rfl⟩
def gK (σ:PH) (gx db pb:Nat) (pc:Option Addr) (cc nc:Nat) (p:Pr) (inp:List Int) (L:Li) (gn:Int) (Γ:List HP):Prop:=∃(g mb sb:Nat) (d:al) (s:cY) (pi:Option Addr) (ci:Nat) (pj:Option Addr) (cj:Nat),cw d s=L.Q∧s.gen=gn∧Good d s∧aV σ (.slice pi inp.length ci) inp∧aV σ (.slice pj inp.length cj) inp∧
 Γ=[au gx [ptr g,ptr db,ptr pb,.slice pc (ak p).length cc,.slice pj inp.length cj,i64 nc] 125,au g [ptr mb,.slice pc (ak p).length cc,.slice pi inp.length ci,ptr pb,i64 0,.bool false] 179,eh mb sb db d s L.M,bY pb L.b.out L.b.wrong]
theorem gK.mono {σ ag:PH} {gx db pb:Nat} {pc:Option Addr} {cc nc:Nat} {p:Pr} {inp:List Int} {L:Li} {gn:Int} {Γ:List HP} (h:gK σ gx db pb pc cc nc p inp L gn Γ) (hs:σ.sub ag):gK ag gx db pb pc cc nc p inp L gn Γ:=by
 obtain⟨g,mb,sb,d,s,pi,ci,pj,cj,h1,h2,h3,h4,h5,rfl⟩:=h;exact⟨g,mb,sb,d,s,pi,ci,pj,cj,h1,h2,h3,h4.mono hs,h5.mono hs,rfl⟩
section
variable (σ:PH) (gx db pb:Nat) (pc:Option Addr) (cc nc:Nat) (p:Pr) (inp:List Int) (L:Li) (gn:Int) (k:Nat)
theorem OI (g mb sb:Nat) (pi:Option Addr) (ci:Nat) (d:al) (s:cY) (hG:Good d s) (hc:bO 4 yu σ (.slice pc (ak p).length cc) (ak p)) (hi:aV σ (.slice pi inp.length ci) inp) (hg:s.gen<4611686018427387904) (h:fp p inp L k) (hk:k≤1000000) (hQ:cw d s=L.Q):
 ae Tryz.prog 156 #[ptr g] σ [au g [ptr mb,.slice pc (ak p).length cc,.slice pi inp.length ci,ptr pb,i64 0,.bool false] 179,eh mb sb db d s L.M,bY pb L.b.out L.b.wrong] (aE fun v ag ah=>∃(d':al) (s':cY),v=.bool (decide (L.b.m.st=0))∧s'.gen≤s.gen+1∧(zy (ak p) L.b.m≠true→s'.gen=s.gen)∧Good d' s'∧cw d' s'=(cW (ak p) inp L).Q∧σ.sub ag∧ah=[au g [ptr mb,.slice pc (ak p).length cc,.slice pi inp.length ci,ptr pb,i64 0,.bool false] 179,eh mb sb db d' s' (cW (ak p) inp L).M,bY pb (cW (ak p) inp L).b.out (cW (ak p) inp L).b.wrong]):=by
 refine(Vu σ g mb sb db pb pc pi cc ci inp d s L.M L.b p k hc hi hg h.iy hk).ret ?_;rintro v ag ah ⟨d',s',rfl,h1,h2,h3,h4,h5,rfl⟩;obtain⟨-,e2,e3⟩:=Bf (ak p) inp L.b true;refine⟨d',s',rfl,h1,fun hx=>?_,?_,?_,h5,by rw[←e2,←e3];rfl⟩
 ·rcases h2 with ⟨rfl,rfl⟩|⟨-,-,h0,x,rH,js⟩
  ·rfl
  ·exact absurd (by rw[wj h0 rH,decide_eq_true js]) hx
 ·rcases h2 with ⟨rfl,rfl⟩|⟨q,-⟩
  ·exact hG
  ·exact q
 ·by_cases hx:zy (ak p) L.b.m=true
  ·obtain⟨h0,x,rH,js⟩:=lY hx;have:=(h4 (fun y hy=>by rw[rH] at hy;cases hy;exact js) h0).2;rw[this];exact(if_pos hx).symm
  ·have e:(cW (ak p) inp L).Q=L.Q:=if_neg hx;rw[e];rcases h2 with ⟨rfl,rfl⟩|⟨-,-,h0,x,rH,js⟩
   ·exact hQ
   ·exact absurd (by rw[wj h0 rH,decide_eq_true js]) hx
theorem Vw (n:Nat) (Γ:List HP) (hc:bO 4 yu σ (.slice pc (ak p).length cc) (ak p)) (hL:gK σ gx db pb pc cc nc p inp L gn Γ) (h:fp p inp L k) (hk:k+n≤900000) (uW:gn≤k):
 ae Tryz.prog 113 #[ptr gx,i64 n] σ Γ (aE fun v ag ah=>v=i64 ((jv (ak p) inp n L).2:Nat)∧σ.sub ag∧∃Bh:Int,Bh≤(k+(jv (ak p) inp n L).2:Nat)∧gK ag gx db pb pc cc nc p inp (jv (ak p) inp n L).1 Bh ah):=by
 have Ej:=hL;obtain⟨g,mb,sb,d,s,pi,ci,pj,cj,hQ,RN,hG,hi,hj,rfl⟩:=hL;(refine bS Tryz.func113 ?_;refine eP ?_;refine XA.gen [(0,_),(1,_),(4,_),(6,_),(7,_)] jN fun δ=>?_);dsimp only[List.foldl];refine XA.loop [(4,5),(7,17)] (fun x:Nat×Li=>[(7,i64 x.1)]) (fun x ag ah=>σ.sub ag∧x.1≤n∧fp p inp x.2 (k+x.1)∧jv (ak p) inp n L=((jv (ak p) inp (n-x.1) x.2).1,(jv (ak p) inp (n-x.1) x.2).2+x.1)∧∃E1:Int,E1≤(k+x.1:Nat)∧gK ag gx db pb pc cc nc p inp x.2 E1 ah) (fun x=>n-x.1) (0,L) (by exact⟨rfl,trivial⟩) (Δ0:=_) ?_ (⟨.refl _,Nat.zero_le _,h,rfl,gn,uW,Ej⟩) ?_
 ·exact zE
 rintro⟨i,L1⟩ δ dQ _ ⟨bQ,kI,cU,eH,E1,AP,mK⟩;dsimp only[eb,List.foldl];have kI:i≤n:=kI;simp only at cU eH AP mK;obtain⟨g1,Bi,Ek,d1,s1,El,Em,He,Hf,SQ,RO,Vx,wm,zv,rfl⟩:=mK;have qt:=OI dQ db pb pc cc p inp L1 (k+i) g1 Bi Ek El Em d1 s1 Vx (hc.mono bQ (fun _ _ h=>h)) wm (by omega) cU (by omega) SQ;refine aO ?_;refine XA.bI rfl (fun aT=>?_) (fun aT=>?_)
 ·refine ic ?_;obtain⟨f,hf⟩:∃f,n-i=f+1:=⟨n-i-1,by omega⟩;by_cases h0:L1.b.m.st=0
  ·rw[decide_eq_true h0] at qt;rw[hf,jv,if_pos h0] at eH;refine zw rfl (aC.cE (qt) rfl) ?_;rintro _ dq _ ⟨_,⟨d2,s2,rfl,Ih,En,Eo,Bj,bT,rfl⟩,rfl⟩;refine az.cl ?_;refine bq ?_;refine a8 ?_;refine⟨cF,(i+1,cW (ak p) inp L1),_,zM,?_,⟨bQ.trans bT,by show i+1≤n;omega,cU.next (by omega),by rw[eH,show n-(i+1)=f by omega];simp only[Prod.mk.injEq,true_and];omega,s2.gen,by show s2.gen≤((k+(i+1):Nat):Int);omega,g1,Bi,Ek,d2,s2,El,Em,He,Hf,Bj,rfl,Eo,wm.mono bT,zv.mono bT,rfl⟩,(by simp only;omega)⟩
   ·exact zE
  ·rw[decide_eq_false h0] at qt;rw[hf,jv,if_neg h0] at eH
   have As:cW (ak p) inp L1=L1:=by
    have iM:L1.M.ld 4=L1.b.m.st:=cU.iy.st;(have hic:¬zy (ak p) L1.b.m=true:=fun q=>h0 (lY q).1);rw[cW,if_neg hic,bz,if_neg h0,ju,if_neg (by rw[iM];exact h0)]
   rw[As] at qt;refine zw rfl (aC.cE (qt) rfl) ?_;rintro _ dq _ ⟨_,⟨d2,s2,rfl,Ih,En,Eo,Bj,bT,rfl⟩,rfl⟩;refine az.cl ?_;refine bq ?_;refine eP ?_;have hg3:=En (fun q=>h0 (lY q).1);rw[eH];exact b8 rfl rfl ⟨by simp,bQ.trans bT,s2.gen,by simp only[Nat.zero_add];omega,⟨g1,Bi,Ek,d2,s2,El,Em,He,Hf,Bj,rfl,Eo,wm.mono bT,zv.mono bT,rfl⟩⟩
 refine bH ?_;(obtain rfl:i=n:=by omega);rw[Nat.sub_self,jv] at eH;rw[eH];exact b8 rfl rfl ⟨by simp,bQ,E1,by simpa using AP,⟨g1,Bi,Ek,d1,s1,El,Em,He,Hf,SQ,RO,Vx,wm,zv,rfl⟩⟩
theorem RP (kd:Int) (n:Nat) (K m:Int) (Γ:List HP) (hK0:0≤K) (H6:K<9223372036854775808) (zq:0≤m) (AB:m<18446744073709551616) (hc:bO 4 yu σ (.slice pc (ak p).length cc) (ak p)) (hL:gK σ gx db pb pc cc nc p inp L gn Γ) (h:fp p inp L k) (hk:k+n≤900000) (uW:gn≤k):
 ae Tryz.prog 114 #[ptr gx,.agg #[i64 kd,i64 n,i64 K,.int .u64 m]] σ Γ (aE fun v ag ah=>v=i64 ((eU (ak p) inp K (dk m 0) n L).2:Nat)∧σ.sub ag∧∃Bh:Int,Bh≤(k+(eU (ak p) inp K (dk m 0) n L).2:Nat)∧gK ag gx db pb pc cc nc p inp (eU (ak p) inp K (dk m 0) n L).1 Bh ah):=by
 have Ej:=hL;obtain⟨g,mb,sb,d,s,pi,ci,pj,cj,hQ,RN,hG,hi,hj,rfl⟩:=hL;(refine bS Tryz.func114 ?_;refine aN ?_;refine cN fun g3=>?_;refine bH ?_;refine XA.gen [(0,_),(3,_),(4,_),(7,_),(8,_)] jN fun δ=>?_);dsimp only[List.foldl];refine XA.loop [(4,5),(8,46)] (fun x:Nat×Li=>[(8,i64 x.1)]) (fun x ag ah=>σ.sub ag∧x.1≤n∧fp p inp x.2 (k+x.1)∧eU (ak p) inp K (dk m 0) n L=((eU (ak p) inp K (dk m 0) (n-x.1) x.2).1,(eU (ak p) inp K (dk m 0) (n-x.1) x.2).2+x.1)∧∃E1:Int,E1≤(k+x.1:Nat)∧∃b7,gK ag gx db pb pc cc nc p inp x.2 E1 b7∧ah=au g3 [i64 kd,i64 n,i64 K,.int .u64 m] 82::b7) (fun x=>n-x.1) (0,L) (by exact⟨rfl,trivial⟩) (Δ0:=_) ?_ (⟨.refl _,Nat.zero_le _,h,rfl,gn,uW,_,Ej,rfl⟩) ?_
 ·exact zE
 rintro⟨i,L1⟩ δ dQ _ ⟨bQ,kI,cU,eH,E1,AP,b7,mK,rfl⟩;dsimp only[eb,List.foldl];have kI:i≤n:=kI;simp only at cU eH AP mK;obtain⟨g1,Bi,Ek,d1,s1,El,Em,He,Hf,SQ,RO,Vx,wm,zv,rfl⟩:=mK;have xU:=hc.mono bQ (fun _ _ h=>h);have qt:=OI dQ db pb pc cc p inp L1 (k+i) g1 Bi Ek El Em d1 s1 Vx xU wm (by omega) cU (by omega) SQ;have zh:=yG dQ g1 Bi Ek db pb pc cc (.slice El inp.length Em) 0 false d1 s1 L1.M L1.b inp p (k+i) xU cU.iy (by omega);refine aO ?_;refine XA.bI rfl (fun aT=>?_) (fun aT=>?_)
 ·obtain⟨f,hf⟩:∃f,n-i=f+1:=⟨n-i-1,by omega⟩;refine dE ?_;by_cases LA:zy (ak p) L1.b.m=true
  ·rw[LA] at zh;rw[hf,eU,if_pos LA] at eH;obtain⟨h0,x,rH,js⟩:=lY LA;obtain⟨x',hx,-⟩:=cU.iy.ok (by omega) h0;(have iO:x'=x:=by have:=hx.at_;rw[rH] at this;exact(Option.some.inj this).symm);subst iO;by_cases Zd:K=0
   ·(have yH:fj (ak p) inp K (dk m 0) L1=rk (cW (ak p) inp L1):=by rw[fj,if_pos (.inl Zd)]);rw[yH] at eH;rw[decide_eq_true h0] at qt;subst Zd;refine zw rfl (aC.cE (zh) rfl) ?_;rintro _ _ _ ⟨_,⟨rfl,rfl,rfl⟩,rfl⟩;refine az.cl ?_;refine aN ?_;refine aN ?_;refine fZ 7 1728 [6] (aw.bP (R:=au gx _ _) zL (aw.bP (R:=au g3 _ _) zL (aw.nil _))) ?_;refine aO ?_;refine aK.bj rfl rfl Gd.free (by kernel_rfl) (aC.cE (Hc dQ g1 Bi pb pc El _ cc _ Em 0 false 0) rfl) ?_;rintro _ _ _ ⟨_,⟨rfl,rfl,rfl⟩,rfl⟩;refine aK.cl ?_;refine bC ?_;refine zw rfl (aC.cE (qt) rfl) ?_;rintro _ dq _ ⟨_,⟨d2,s2,rfl,Ih,En,Eo,Bj,bT,rfl⟩,rfl⟩;refine az.cl ?_;refine bq ?_;refine fZ 7 1728 [6] (aw.bP (R:=au gx _ _) zL (aw.bP (R:=au g3 _ _) zL (aw.nil _))) ?_;refine aO ?_;refine aK.bj rfl rfl Gd.free (by kernel_rfl) (aC.cE (CT dq Bi Ek db d2 s2 (cW (ak p) inp L1).M m zq AB) rfl) ?_;rintro _ _ _ ⟨_,⟨d3,rfl,rfl,OJ,OL,rfl⟩,rfl⟩;refine aK.cl ?_;refine b9 ?_;refine zw rfl (aC.cE (wk dq gx db pb _ pc He (ak p).length cc Hf nc inp d3 s2 OJ (zv.mono bT) cU.iy.inl) rfl) ?_;rintro _ LB _ ⟨_,⟨g4,RQ,RU,RV,RW,rfl,oW,RX,rfl⟩,rfl⟩;refine az.cl ?_;refine ic ?_;rw[OL,Bj,eH];exact b8 rfl rfl ⟨congrArg i64 (by simp only[Int.natCast_add];omega),(bQ.trans bT).trans oW,s2.gen,by simp only;omega,⟨g4,RQ,RU,d3,s2,RV,RW,He,Hf,OL.trans Bj,rfl,OJ,RX,(zv.mono bT).mono oW,rfl⟩⟩
   ·(have hKp:0<K:=by omega);have e0:L1.M.ld 0=L1.b.m.next:=cU.iy.sh.nx
    have hMC:(ju (ak p) inp L1.M).C=(L1.M.put 0 (L1.M.ld 0+1)).C:=by
     rw[ju,if_pos (by rw[cU.iy.st];exact h0),Me.kr,e0,Int.toNat_natCast,rH];obtain⟨op,a1,a2,a3⟩:=x';simp only at js;subst js;rfl
    have yH:fj (ak p) inp K (dk m 0) L1=⟨kt L1.b,⟨if K=1∧dk m 0=true then (L1.M.put 0 (L1.M.ld 0+1)).C else cw d1 s1,rG⟩,if K=1∧dk m 0=true then (L1.M.put 0 (L1.M.ld 0+1)).C else cw d1 s1⟩∨(K=1∧dk m 0=true∧fj (ak p) inp K (dk m 0) L1=rk (cW (ak p) inp L1)):=by
     by_cases q:K=1∧dk m 0=true
     ·exact .inr ⟨q.1,q.2,by rw[fj,if_pos (.inr q)]⟩
     ·left;rw[fj,if_neg (by rintro(h|h);exact Zd h;exact q h),if_neg q,SQ];rfl
    have OM:(fj (ak p) inp K (dk m 0) L1).M=⟨if K=1∧dk m 0=true then (L1.M.put 0 (L1.M.ld 0+1)).C else cw d1 s1,rG⟩∧(fj (ak p) inp K (dk m 0) L1).Q=(if K=1∧dk m 0=true then (L1.M.put 0 (L1.M.ld 0+1)).C else cw d1 s1)∧(fj (ak p) inp K (dk m 0) L1).b.out=L1.b.out∧(fj (ak p) inp K (dk m 0) L1).b.wrong=L1.b.wrong:=by
     rcases yH with q|⟨q1,q2,q3⟩
     ·rw[q];exact⟨rfl,rfl,rfl,rfl⟩
     ·rw[q3,if_pos ⟨q1,q2⟩];have eQ:(cW (ak p) inp L1).Q=(L1.M.put 0 (L1.M.ld 0+1)).C:=(if_pos LA).trans hMC
      have eB:(cW (ak p) inp L1).b={bump L1.b with kept:=(bump L1.b).m}:=by
       show bz (ak p) inp true L1.b=_;rw[bz,if_pos h0,tm rH js];rfl
      refine⟨?_,eQ,?_,?_⟩
      ·show (⟨(cW (ak p) inp L1).Q,rG⟩:Me)=_;rw[eQ]
      ·show (kt (cW (ak p) inp L1).b).out=_;rw[eB];rfl
      ·show (kt (cW (ak p) inp L1).b).wrong=_;rw[eB];rfl
    obtain⟨LT,hLT⟩:∃LT,LT=fj (ak p) inp K (dk m 0) L1:=⟨_,rfl⟩;rw[←hLT] at OM eH;obtain⟨w1,w2,w3,w4⟩:=OM;obtain⟨QT,hQT⟩:∃QT,QT=(if K=1∧dk m 0=true then (L1.M.put 0 (L1.M.ld 0+1)).C else cw d1 s1):=⟨_,rfl⟩;rw[←hQT] at w1 w2;(have hcr:=fun σ=>Lz σ Bi Ek db d1 s1 (L1.M.put 0 (L1.M.ld 0+1)) K hKp m zq AB);rw[←hQT] at hcr;refine zw rfl (aC.cE (zh) rfl) ?_;rintro _ _ _ ⟨_,⟨rfl,rfl,rfl⟩,rfl⟩;refine az.cl ?_;refine aN ?_;refine aN ?_;refine fZ 7 1728 [6] (aw.bP (R:=au gx _ _) zL (aw.bP (R:=au g3 _ _) zL (aw.nil _))) ?_;refine aO ?_;refine aK.bj rfl rfl Gd.free (by kernel_rfl) (aC.cE (Hc dQ g1 Bi pb pc El _ cc _ Em 0 false K) rfl) ?_;rintro _ _ _ ⟨_,⟨rfl,rfl,rfl⟩,rfl⟩;refine aK.cl ?_;refine bC ?_;refine zw rfl (aC.cE (Ly dQ g1 Bi Ek db pb pc El cc Em (ak p) inp K false d1 s1 L1.M L1.b x' xU (by omega) hKp H6 cU.iy.sh hx js) rfl) ?_;rintro _ dq _ ⟨_,⟨rfl,bT,rfl⟩,rfl⟩;refine az.cl ?_;refine bq ?_;refine fZ 7 1728 [6] (aw.bP (R:=au gx _ _) zL (aw.bP (R:=au g3 _ _) zL (aw.nil _))) ?_;refine aO ?_;refine aK.bj rfl rfl Gd.free (by kernel_rfl) (aC.cE (hcr dq) rfl) ?_;rintro _ _ _ ⟨_,⟨d3,s3,rfl,rfl,OJ,hg3,OL,rfl⟩,rfl⟩;refine aK.cl ?_;refine b9 ?_;refine zw rfl (aC.cE (wk dq gx db pb _ pc He (ak p).length cc Hf nc inp d3 s3 OJ (zv.mono bT) cU.iy.inl) rfl) ?_;rintro _ LB _ ⟨_,⟨g4,RQ,RU,RV,RW,rfl,oW,RX,rfl⟩,rfl⟩;refine az.cl ?_;refine ic ?_;rw[OL,eH,←w1,←w3,←w4];exact b8 rfl rfl ⟨congrArg i64 (by simp only[Int.natCast_add];omega),(bQ.trans bT).trans oW,s3.gen,by simp only;omega,⟨g4,RQ,RU,d3,s3,RV,RW,He,Hf,OL.trans w2.symm,rfl,OJ,RX,(zv.mono bT).mono oW,rfl⟩⟩
  ·(have Ze:zy (ak p) L1.b.m=false:=by revert LA;cases zy (ak p) L1.b.m<;>simp);rw[Ze] at zh;by_cases h0:L1.b.m.st=0
   ·rw[decide_eq_true h0] at qt;rw[hf,eU,if_neg LA,if_pos h0] at eH;refine zw rfl (aC.cE (zh) rfl) ?_;rintro _ _ _ ⟨_,⟨rfl,rfl,rfl⟩,rfl⟩;refine az.cl ?_;refine aN ?_;refine a8 ?_;refine zw rfl (aC.cE (qt) rfl) ?_;rintro _ dq _ ⟨_,⟨d2,s2,rfl,Ih,En,Eo,Bj,bT,rfl⟩,rfl⟩;refine az.cl ?_;refine bq ?_;refine a8 ?_;refine⟨cF,(i+1,cW (ak p) inp L1),_,zM,?_,⟨bQ.trans bT,by show i+1≤n;omega,cU.next (by omega),by rw[eH,show n-(i+1)=f by omega];simp only[Prod.mk.injEq,true_and];omega,s2.gen,by show s2.gen≤((k+(i+1):Nat):Int);omega,_,⟨g1,Bi,Ek,d2,s2,El,Em,He,Hf,Bj,rfl,Eo,wm.mono bT,zv.mono bT,rfl⟩,rfl⟩,(by simp only;omega)⟩
    ·exact zE
   ·rw[decide_eq_false h0] at qt;rw[hf,eU,if_neg LA,if_neg h0] at eH
    have As:cW (ak p) inp L1=L1:=by
     have iM:L1.M.ld 4=L1.b.m.st:=cU.iy.st;rw[cW,if_neg LA,bz,if_neg h0,ju,if_neg (by rw[iM];exact h0)]
    rw[As] at qt;refine zw rfl (aC.cE (zh) rfl) ?_;rintro _ _ _ ⟨_,⟨rfl,rfl,rfl⟩,rfl⟩;refine az.cl ?_;refine aN ?_;refine a8 ?_;refine zw rfl (aC.cE (qt) rfl) ?_;rintro _ dq _ ⟨_,⟨d2,s2,rfl,Ih,En,Eo,Bj,bT,rfl⟩,rfl⟩;refine az.cl ?_;refine bq ?_;refine eP ?_;have hg3:=En LA;rw[eH];exact b8 rfl rfl ⟨by simp,bQ.trans bT,s2.gen,by simp only[Nat.zero_add];omega,⟨g1,Bi,Ek,d2,s2,El,Em,He,Hf,Bj,rfl,Eo,wm.mono bT,zv.mono bT,rfl⟩⟩
 refine eP ?_;(obtain rfl:i=n:=by omega);rw[Nat.sub_self,eU] at eH;rw[eH];exact b8 rfl rfl ⟨by simp,bQ,E1,by simpa using AP,⟨g1,Bi,Ek,d1,s1,El,Em,He,Hf,SQ,RO,Vx,wm,zv,rfl⟩⟩
end
theorem yI {p:Pr} {inp:List Int} {K:Int} {bit:Bool}:∀(f:Nat) {L:Li} {k:Nat},fp p inp L k→k+f≤1000000→fp p inp (eU (ak p) inp K bit f L).1 (k+(eU (ak p) inp K bit f L).2)∧(eU (ak p) inp K bit f L).2≤f
 |0,L,k,h,hk=>⟨h,Nat.le_refl _⟩
 |f+1,L,k,h,hk=>by
  rw[eU];split
  ·exact⟨h.Zb (by omega),by simp only;omega⟩
  ·split
   ·obtain⟨h1,h2⟩:=yI f (h.next (by omega)) (by omega);exact⟨by rw[show k+((eU (ak p) inp K bit f (cW (ak p) inp L)).2+1)=k+1+(eU (ak p) inp K bit f (cW (ak p) inp L)).2 by omega];exact h1,by simp only;omega⟩
   ·exact⟨h,Nat.zero_le _⟩
theorem qu {p:Pr} {inp:List Int} {L:Li} {k:Nat} (s:oV) (h:fp p inp L k) (hk:k+3000≤1000000):fp p inp (jB (ak p) inp s L).1 (k+(jB (ak p) inp s L).2)∧(jB (ak p) inp s L).2≤3000∧((jB (ak p) inp s L).2=0∨((jB (ak p) inp s L).2:Int)≤s.n):=by
 rw[jB];split
 ·exact⟨h,by simp,.inl rfl⟩
 ·rename_i hf;have hf:bh s=0:=Classical.byContradiction hf
  have hn:s.kind≠2→0≤s.n∧s.n≤3000:=by
   intro uq;rw[bh] at hf;split at hf
   ·cases hf
   ·split at hf
    ·cases hf
    ·rename_i q;constructor
     ·exact Classical.byContradiction fun z=>q (.inl ⟨uq,.inl (by omega)⟩)
     ·exact Classical.byContradiction fun z=>q (.inl ⟨uq,.inr (by omega)⟩)
  split
  ·rename_i h1;have:=hn (by omega);obtain⟨q1,q2⟩:=CS s.n.toNat h (by omega);exact⟨q1,by omega,.inr (by omega)⟩
  ·split
   ·rename_i h3;have:=hn (by omega);obtain⟨q1,q2⟩:=yI (K:=s.K) (bit:=dk s.mask 0) s.n.toNat h (by omega);exact⟨q1,by omega,.inr (by omega)⟩
   ·exact⟨h.RM,by simp,.inl rfl⟩
section
variable (σ:PH) (gx db pb:Nat) (pc:Option Addr) (cc nc:Nat) (p:Pr) (inp:List Int) (L:Li) (gn:Int) (k:Nat)
theorem Zf (s:oV) (Γ:List HP) (H6:s.K<9223372036854775808) (zq:0≤s.mask) (AB:s.mask<18446744073709551616) (hc:bO 4 yu σ (.slice pc (ak p).length cc) (ak p)) (hL:gK σ gx db pb pc cc nc p inp L gn Γ) (h:fp p inp L k) (hk:k+3000≤900000) (uW:gn≤k):
 ae Tryz.prog 70 #[ptr gx,.agg #[i64 s.kind,i64 s.n,i64 s.K,.int .u64 s.mask]] σ Γ (aE fun v ag ah=>v=.tuple #[i64 ((jB (ak p) inp s L).2:Nat),i64 (bh s)]∧σ.sub ag∧∃Bh:Int,Bh≤(k+(jB (ak p) inp s L).2:Nat)∧(s.kind=2→Bh=gn)∧gK ag gx db pb pc cc nc p inp (jB (ak p) inp s L).1 Bh ah):=by
 obtain⟨kd,n,K,m⟩:=s;simp only at H6 zq AB⊢;have Ej:=hL;(have eH:=fun n' O0=>Vw σ gx db pb pc cc nc p inp L gn k n' Γ hc hL h O0 uW);(have yH:=fun n' K' hK0 H6 O0=>RP σ gx db pb pc cc nc p inp L gn k kd n' K' m Γ hK0 H6 zq AB hc hL h O0 uW);obtain⟨g,mb,sb,d,s,pi,ci,pj,cj,hQ,RN,hG,hi,hj,rfl⟩:=hL;by_cases b1:kd<1
 ·(have hf:bh ⟨kd,n,K,m⟩=2:=by rw[bh,if_pos (.inl b1)]);(have hd:jB (ak p) inp ⟨kd,n,K,m⟩ L=(L,0):=by rw[jB,if_pos (by rw[hf];decide)]);rw[hf,hd];(refine bS Tryz.func70 ?_;refine aN ?_;refine cN fun g3=>?_;refine jM ?_);refine XA.bG rfl (by first|rfl|exact decide_eq_true b1) ?_;refine a8 ?_;exact ao.ret (aG.two rfl rfl rfl) zE ⟨rfl,.refl _,gn,by simpa using uW,fun _=>rfl,Ej⟩
 by_cases b2:3<kd
 ·(have hf:bh ⟨kd,n,K,m⟩=2:=by rw[bh,if_pos (.inr b2)]);(have hd:jB (ak p) inp ⟨kd,n,K,m⟩ L=(L,0):=by rw[jB,if_pos (by rw[hf];decide)]);rw[hf,hd];(refine bS Tryz.func70 ?_;refine aN ?_;refine cN fun g3=>?_;refine jM ?_);refine XA.bG rfl (by first|rfl|exact decide_eq_true b2) ?_;refine a8 ?_;exact ao.ret (aG.two rfl rfl rfl) zE ⟨rfl,.refl _,gn,by simpa using uW,fun _=>rfl,Ej⟩
 (have hb:¬(kd<1∨3<kd):=by omega);by_cases k2:kd=2
 ·subst k2;(have hf:bh ⟨2,n,K,m⟩=0:=by rw[bh,if_neg hb,if_neg];rintro(⟨q,-⟩|⟨q,-⟩);exact q rfl;cases q);(have hd:jB (ak p) inp ⟨2,n,K,m⟩ L=(rk L,0):=by rw[jB,if_neg (by rw[hf];decide),if_neg (show ¬(2:Int)=1 by decide),if_neg (show ¬(2:Int)=3 by decide)]);rw[hf,hd];(refine bS Tryz.func70 ?_;refine aN ?_;refine cN fun g3=>?_;refine jM ?_;refine lz ?_;refine nh ?_;refine lz ?_;refine dE ?_;refine bt ?_;refine b9 ?_;refine fZ 7 1728 [6] (aw.bP (R:=au gx _ _) zL (aw.bP (R:=au g3 _ _) zL (aw.nil _))) ?_;refine aO ?_);refine aK.bj rfl rfl Gd.free (by kernel_rfl) (aC.cE (CT σ mb sb db d s L.M m zq AB) rfl) ?_;rintro _ _ _ ⟨_,⟨d3,rfl,rfl,OJ,OL,rfl⟩,rfl⟩;refine aK.cl ?_;refine b9 ?_;refine zw rfl (aC.cE (wk σ gx db pb _ pc pj (ak p).length cc cj nc inp d3 s OJ hj h.iy.inl) rfl) ?_;rintro _ LB _ ⟨_,⟨g4,RQ,RU,RV,RW,rfl,oW,RX,rfl⟩,rfl⟩;refine az.cl ?_;refine a8 ?_;rw[OL,hQ];exact ao.ret (aG.two rfl rfl rfl) zE ⟨rfl,oW,s.gen,by simp only[Nat.add_zero];omega,fun _=>RN,⟨g4,RQ,RU,d3,s,RV,RW,pj,cj,OL.trans hQ,rfl,OJ,RX,hj.mono oW,rfl⟩⟩
 by_cases n0:n<0
 ·(have hf:bh ⟨kd,n,K,m⟩=1:=by rw[bh,if_neg hb,if_pos (.inl ⟨k2,.inl n0⟩)]);(have hd:jB (ak p) inp ⟨kd,n,K,m⟩ L=(L,0):=by rw[jB,if_pos (by rw[hf];decide)]);rw[hf,hd];(have Zg:kd=1∨kd=3:=by omega);rcases Zg with rfl|rfl
  ·refine bS Tryz.func70 ?_;(refine aN ?_;refine cN fun g3=>?_;refine jM ?_;refine lz ?_;refine nh ?_);refine XA.bG rfl (by first|rfl|exact decide_eq_true n0) ?_;refine a8 ?_;exact ao.ret (aG.two rfl rfl rfl) zE ⟨rfl,.refl _,gn,by simpa using uW,fun _=>rfl,Ej⟩
  ·refine bS Tryz.func70 ?_;(refine aN ?_;refine cN fun g3=>?_;refine jM ?_;refine lz ?_;refine nh ?_);refine XA.bG rfl (by first|rfl|exact decide_eq_true n0) ?_;refine a8 ?_;exact ao.ret (aG.two rfl rfl rfl) zE ⟨rfl,.refl _,gn,by simpa using uW,fun _=>rfl,Ej⟩
 by_cases n1:3000<n
 ·(have hf:bh ⟨kd,n,K,m⟩=1:=by rw[bh,if_neg hb,if_pos (.inl ⟨k2,.inr n1⟩)]);(have hd:jB (ak p) inp ⟨kd,n,K,m⟩ L=(L,0):=by rw[jB,if_pos (by rw[hf];decide)]);rw[hf,hd];(have Zg:kd=1∨kd=3:=by omega);rcases Zg with rfl|rfl
  ·refine bS Tryz.func70 ?_;(refine aN ?_;refine cN fun g3=>?_;refine jM ?_;refine lz ?_;refine nh ?_);refine XA.bG rfl (by first|rfl|exact decide_eq_true n1) ?_;refine a8 ?_;exact ao.ret (aG.two rfl rfl rfl) zE ⟨rfl,.refl _,gn,by simpa using uW,fun _=>rfl,Ej⟩
  ·refine bS Tryz.func70 ?_;(refine aN ?_;refine cN fun g3=>?_;refine jM ?_;refine lz ?_;refine nh ?_);refine XA.bG rfl (by first|rfl|exact decide_eq_true n1) ?_;refine a8 ?_;exact ao.ret (aG.two rfl rfl rfl) zE ⟨rfl,.refl _,gn,by simpa using uW,fun _=>rfl,Ej⟩
 obtain⟨n,rfl⟩:∃j:Nat,n=j:=⟨n.toNat,by omega⟩;by_cases k1:kd=1
 ·subst k1
  have hf:bh ⟨1,n,K,m⟩=0:=by
   rw[bh,if_neg hb,if_neg];rintro(⟨-,q⟩|⟨q,-⟩)
   ·simp only at q;omega
   ·cases q
  (have hd:jB (ak p) inp ⟨1,n,K,m⟩ L=jv (ak p) inp n L:=by rw[jB,if_neg (by rw[hf];decide),if_pos rfl,Int.toNat_natCast]);rw[hf,hd];(refine bS Tryz.func70 ?_;refine aN ?_;refine cN fun g3=>?_;refine jM ?_;refine lz ?_;refine nh ?_;refine lz ?_;refine dE ?_;refine aO ?_);refine zw rfl (aC.cE (eH n (by omega)) rfl) ?_;rintro _ dq _ ⟨ot,⟨rfl,bT,Zh,Ih,EV⟩,rfl⟩;refine az.cl ?_;obtain⟨g2,WS,WT,d2,s2,RY,RZ,WU,WV,Bj,LC,Eo,EW,EZ,rfl⟩:=EV;refine bt ?_;exact ao.ret (aG.two rfl rfl rfl) zE ⟨rfl,bT,Zh,Ih,fun q=>absurd q (by decide),⟨g2,WS,WT,d2,s2,RY,RZ,WU,WV,Bj,LC,Eo,EW,EZ,rfl⟩⟩
 (obtain rfl:kd=3:=by omega);by_cases q0:K<0
 ·(have hf:bh ⟨3,n,K,m⟩=1:=by rw[bh,if_neg hb,if_pos (.inr ⟨rfl,q0⟩)]);(have hd:jB (ak p) inp ⟨3,n,K,m⟩ L=(L,0):=by rw[jB,if_pos (by rw[hf];decide)]);rw[hf,hd];(refine bS Tryz.func70 ?_;refine aN ?_;refine cN fun g3=>?_;refine jM ?_;refine lz ?_;refine nh ?_);refine XA.bG rfl (by first|rfl|exact decide_eq_true q0) ?_;refine a8 ?_;exact ao.ret (aG.two rfl rfl rfl) zE ⟨rfl,.refl _,gn,by simpa using uW,fun _=>rfl,Ej⟩
 have hf:bh ⟨3,n,K,m⟩=0:=by
  rw[bh,if_neg hb,if_neg];rintro(⟨-,q⟩|⟨-,q⟩)
  ·simp only at q;omega
  ·exact q0 q
 (have hd:jB (ak p) inp ⟨3,n,K,m⟩ L=eU (ak p) inp K (dk m 0) n L:=by rw[jB,if_neg (by rw[hf];decide),if_neg (show ¬(3:Int)=1 by decide),if_pos rfl,Int.toNat_natCast]);rw[hf,hd];(refine bS Tryz.func70 ?_;refine aN ?_;refine cN fun g3=>?_;refine jM ?_;refine lz ?_;refine nh ?_;refine lz ?_;refine dE ?_;refine bt ?_;refine b9 ?_);refine zw rfl (aC.cE (yH n K (by omega) H6 (by omega)) rfl) ?_;rintro _ dq _ ⟨ot,⟨rfl,bT,Zh,Ih,EV⟩,rfl⟩;refine az.cl ?_;obtain⟨g2,WS,WT,d2,s2,RY,RZ,WU,WV,Bj,LC,Eo,EW,EZ,rfl⟩:=EV;refine bt ?_;exact ao.ret (aG.two rfl rfl rfl) zE ⟨rfl,bT,Zh,Ih,fun q=>absurd q (by decide),⟨g2,WS,WT,d2,s2,RY,RZ,WU,WV,Bj,LC,Eo,EW,EZ,rfl⟩⟩
theorem R5 (Γ:List HP) (hL:gK σ gx db pb pc cc nc p inp L gn Γ) (h:fp p inp L k) (hk:k≤1000000) (hn:nc=L.b.m.cells.length):
 ae Tryz.prog 44 #[ptr gx] σ Γ (aE fun v ag ah=>∃po co pv cv,v=.agg #[i64 (uh L.b),.slice po L.b.out.length co,.slice pv nc cv]∧aV ag (.slice po L.b.out.length co) L.b.out∧aV ag (.slice pv nc cv) L.b.m.cells∧σ.sub ag∧gK ag gx db pb pc cc nc p inp L gn ah):=by
 obtain⟨g,mb,sb,d,s,pi,ci,pj,cj,hQ,RN,hG,hi,hj,rfl⟩:=hL;have Ib:=h.iy.ol;refine dF Tryz.func44 ?_;refine aN ?_;refine cR (fun g2=>?_) (ad rfl);refine bq ?_;refine fZ 10 54702 [8,9] (aw.bP (R:=au gx _ _) zL (aw.nil _)) ?_;refine bC ?_;refine aK.bj rfl rfl Gd.free (by kernel_rfl) (aC.cE (Hb σ g mb sb db pb (.slice pc (ak p).length cc) (.slice pi inp.length ci) 0 false d s L.M L.b.m L.b.out L.b.wrong nc h.iy.sh (by omega) (by omega)) rfl) ?_;rintro _ dq _ ⟨_,⟨po,co,pv,cv,rfl,Zi,WW,bT,rfl⟩,rfl⟩;refine aK.cl ?_;rw[List.take_of_length_le (by omega)] at WW;refine aK.bj rfl rfl Gd.free (by kernel_rfl) (aC.st (ad rfl) rfl) ?_;rintro _ _ _ ⟨rfl,rfl,rfl⟩;refine bq ?_;exact ao.ret (aG.OG rfl rfl (Ld.bN (ad rfl) rfl zL rfl (by first|exact bJ (by first|rfl|assumption|(refine(aj _).trans ?_;assumption)|(simp[*];(first|done|fail)))|assumption|exact aI (by first|rfl|assumption|(refine(aj _).trans ?_;assumption)|(simp[*];(first|done|fail)))|(conv=>lhs;simp only[List.drop_succ_cons,List.drop_zero,List.take_succ_cons,List.take_zero])) (by first|rfl|assumption|(refine(aj _).trans ?_;assumption)|(simp[*];(first|done|fail))))) zE ⟨po,co,pv,cv,rfl,Zi,WW,bT,⟨g,mb,sb,d,s,pi,ci,pj,cj,hQ,RN,hG,hi.mono bT,hj.mono bT,rfl⟩⟩
end
def L0 (n:Nat):Li:=⟨tl n,M0,mI⟩
theorem Vy {p:Pr} (hc:bR p=0) (inp:List Int) (hi:inp.length≤1000000) (hl:(ak p).length≤1000000):fp p inp (L0 (sizes p.vars).toNat) 0:=⟨OH hc inp hi hl,OH hc inp hi hl⟩
theorem Ep (σ:PH) (cs:List Value) (p:Pr) (iv:Value) (inp:List Int) (hp:fY σ cs p) (hi:aV σ iv inp) (hN:ez p.body≤10000) (hc:bR p=0) (Vz:40<inp.length):
 ae Tryz.prog 66 #[.agg cs.toArray,iv] σ [] (aE fun v ag ah=>v=.tuple #[.pointer none,i64 1]∧σ.sub ag∧ah=[]):=by
 have oq:=hp;obtain⟨vs,bs,rfl,hv,hb⟩:=hp;obtain⟨pv,cv,rfl,-,-⟩:=hv.shape;obtain⟨pb0,cb,rfl,-,-⟩:=hb.shape;obtain⟨pi0,ci0,rfl,rf,B7⟩:=hi.shape;(refine bS Tryz.func66 ?_;refine aN ?_;refine cN fun g2=>?_;refine bt ?_;refine zw rfl (aC.cE (GI σ _ p oq hN) rfl) ?_);rintro _ dq _ ⟨_,⟨sl,rfl,Ie,bT,rfl⟩,rfl⟩;refine az.cl ?_;rw[hc];refine dJ ?_;refine cg ?_;refine mQ ?_;refine bC ?_;exact ao.ret (aG.two rfl rfl rfl) (aw.nil _) ⟨rfl,bT,rfl⟩
theorem LD (σ:PH) (cs:List Value) (p:Pr) (iv:Value) (inp:List Int) (hp:fY σ cs p) (hi:aV σ iv inp) (hN:ez p.body≤10000) (hc:bR p=0) (Vz:inp.length≤40):
 ae Tryz.prog 66 #[.agg cs.toArray,iv] σ [] (aE fun v ag ah=>∃gx db pb pc cc,v=.tuple #[ptr gx,i64 0]∧σ.sub ag∧bO 4 yu ag (.slice pc (ak p).length cc) (ak p)∧gK ag gx db pb pc cc (sizes p.vars).toNat p inp (L0 (sizes p.vars).toNat) 0 ah):=by
 have oq:=hp;obtain⟨vs,bs,rfl,hv,hb⟩:=hp;obtain⟨pv,cv,rfl,-,-⟩:=hv.shape;obtain⟨pb0,cb,rfl,-,-⟩:=hb.shape;obtain⟨pi0,ci0,rfl,rf,B7⟩:=hi.shape;obtain⟨hz,Zj⟩:=lU hc;obtain⟨-,-,nU,zn⟩:=dr hc;have zp:(0:Int)≤sizes p.vars:=dU nU;obtain⟨nc,Ad⟩:∃nc:Nat,sizes p.vars=(nc:Int):=⟨(sizes p.vars).toNat,by omega⟩;(have V9:(sizes p.vars).toNat=nc:=by omega);have hG0:Good al.new s0:=Good.new;rw[V9];(refine bS Tryz.func66 ?_;refine aN ?_;refine cN fun g2=>?_;refine bt ?_;refine zw rfl (aC.cE (GI σ _ p oq hN) rfl) ?_);rintro _ dq _ ⟨_,⟨sl,rfl,Ie,bT,rfl⟩,rfl⟩;refine az.cl ?_;rw[if_pos hc] at Ie;rw[hc];obtain⟨q,cq,rfl,-,-⟩:=Ie.shape;have nV:=BU dq _ p (oq.mono bT) hz Zj;rw[Ad] at nV;have dY:=yy dq (.slice pi0 inp.length ci0) inp (hi.mono bT) (by omega);have WA:=U0 dq;refine dJ ?_;refine cg ?_;refine lz ?_;refine bq ?_;refine XA.join [(8,8),(20,29)] (fun y:(Nat×(Nat×Nat))×(Option Addr×Nat)=>[(8,ptr y.1.1)]) (fun y ag ah=>dq=ag∧ah=[au y.1.1 [.pointer none,ptr y.1.2.1,ptr y.1.2.2,.slice q (ak p).length cq,.slice y.2.1 inp.length y.2.2,i64 nc] 125,a7 y.1.2.1 al.new,au y.1.2.2 [.slice none 0 0,i64 0] 168,bn 2 1 (.slice y.2.1 inp.length y.2.2) inp.length (ints inp)]) ?_ ?_
 ·skip;refine XA.n7 (by kernel_rfl) _ _ [] 11 #[false,false,false,false,false,false,false,false,false,false,false] rfl rfl (by kernel_rfl) (PH.sub.refl _) (aw.bP (R:=au g2 _ _) zL (aw.nil _)) ?_;refine qp 1 #[fF,tT,fF,fF,fF,fF,fF,fF,fF,fF,fF] rfl (Rd.bl (fun _ _=>ad) rfl rfl rfl) ?_;refine qp 3 #[fF,tT,fF,tT,fF,fF,fF,fF,fF,fF,fF] rfl Rd.mv ?_;refine qp 4 #[fF,tT,fF,tT,tT,fF,fF,fF,fF,fF,fF] rfl Rd.mv ?_;refine qr 6 #[fF,tT,fF,tT,tT,fF,tT,fF,fF,fF,fF] rfl (Rd.Ah rfl) ?_;refine cC.w2 (i:=0) (j:=2) (by kernel_rfl) ?_ ?_
  ·refine qw #[tT,tT,fF,tT,tT,fF,tT,fF,fF,fF,fF] rfl (aC.cE WA rfl) ?_;rintro _ _ _ ⟨_,⟨db,rfl,rfl,rfl⟩,rfl⟩;refine⟨⟨zX,zE⟩,cC.re zC ?_⟩;refine cC.w2 (i:=2) (j:=5) (by kernel_rfl) ?_ ?_
   ·refine qw #[tT,tT,tT,tT,tT,fF,tT,fF,fF,fF,fF] rfl aC.bx ?_;rintro _ _ _ ⟨g22,rfl,rfl,rfl⟩;refine⟨⟨zX,zE⟩,cC.re zC ?_⟩;refine qa 5 ?_;refine qw #[tT,tT,tT,tT,tT,tT,tT,fF,fF,fF,fF] rfl (aC.cE dY rfl) ?_;rintro _ _ _ ⟨_,⟨pj,cj,rfl,rfl,rfl⟩,rfl⟩;refine⟨⟨zX,zE⟩,cC.re zC ?_⟩;refine qa 7 ?_;refine qw #[tT,tT,tT,tT,tT,tT,tT,tT,fF,fF,fF] rfl (aC.cE nV rfl) ?_;rintro _ _ _ ⟨_,⟨rfl,rfl,rfl⟩,rfl⟩;refine⟨⟨zX,zE⟩,cC.re zC ?_⟩;refine qp 8 #[tT,tT,tT,tT,tT,tT,tT,tT,tT,fF,fF] rfl (Rd.bl (fun _ _=>ad) rfl rfl rfl) ?_;refine qa 9 ?_;refine qw #[tT,tT,tT,tT,tT,tT,tT,tT,tT,tT,fF] rfl aC.bx ?_;rintro _ _ _ ⟨Ii,rfl,rfl,rfl⟩;refine⟨⟨zX,zE⟩,cC.re zC ?_⟩;refine qp 10 #[tT,tT,tT,tT,tT,tT,tT,tT,tT,tT,tT] rfl Rd.BO ?_;refine cC.nil rfl ?_;refine DA.bE ⟨zK,((Ii,(db,g22)),(pj,cj)),_,zM,?_,rfl,rfl⟩;exact zE
   ·refine qw #[tT,tT,fF,tT,tT,tT,tT,fF,fF,fF,fF] rfl (aC.cE dY rfl) ?_;rintro _ _ _ ⟨_,⟨pj,cj,rfl,rfl,rfl⟩,rfl⟩;refine⟨⟨zX,zE⟩,cC.re zC ?_⟩;refine cC.w2 (i:=2) (j:=7) (by kernel_rfl) ?_ ?_
    ·refine qw #[tT,tT,tT,tT,tT,tT,tT,fF,fF,fF,fF] rfl aC.bx ?_;rintro _ _ _ ⟨g22,rfl,rfl,rfl⟩;refine⟨⟨zX,zE⟩,cC.re zC ?_⟩;refine qa 7 ?_;refine qw #[tT,tT,tT,tT,tT,tT,tT,tT,fF,fF,fF] rfl (aC.cE nV rfl) ?_;rintro _ _ _ ⟨_,⟨rfl,rfl,rfl⟩,rfl⟩;refine⟨⟨zX,zE⟩,cC.re zC ?_⟩;refine qp 8 #[tT,tT,tT,tT,tT,tT,tT,tT,tT,fF,fF] rfl (Rd.bl (fun _ _=>ad) rfl rfl rfl) ?_;refine qa 9 ?_;refine qw #[tT,tT,tT,tT,tT,tT,tT,tT,tT,tT,fF] rfl aC.bx ?_;rintro _ _ _ ⟨Ii,rfl,rfl,rfl⟩;refine⟨⟨zX,zE⟩,cC.re zC ?_⟩;refine qp 10 #[tT,tT,tT,tT,tT,tT,tT,tT,tT,tT,tT] rfl Rd.BO ?_;refine cC.nil rfl ?_;refine DA.bE ⟨zK,((Ii,(db,g22)),(pj,cj)),_,zM,?_,rfl,rfl⟩;exact zE
    ·refine qw #[tT,tT,fF,tT,tT,tT,tT,tT,fF,fF,fF] rfl (aC.cE nV rfl) ?_;rintro _ _ _ ⟨_,⟨rfl,rfl,rfl⟩,rfl⟩;refine⟨⟨zX,zE⟩,cC.re zC ?_⟩;refine qa 2 ?_;refine qw #[tT,tT,tT,tT,tT,tT,tT,tT,fF,fF,fF] rfl aC.bx ?_;rintro _ _ _ ⟨g22,rfl,rfl,rfl⟩;refine⟨⟨zX,zE⟩,cC.re zC ?_⟩;refine qp 8 #[tT,tT,tT,tT,tT,tT,tT,tT,tT,fF,fF] rfl (Rd.bl (fun _ _=>ad) rfl rfl rfl) ?_;refine qa 9 ?_;refine qw #[tT,tT,tT,tT,tT,tT,tT,tT,tT,tT,fF] rfl aC.bx ?_;rintro _ _ _ ⟨Ii,rfl,rfl,rfl⟩;refine⟨⟨zX,zE⟩,cC.re zC ?_⟩;refine qp 10 #[tT,tT,tT,tT,tT,tT,tT,tT,tT,tT,tT] rfl Rd.BO ?_;refine cC.nil rfl ?_;refine DA.bE ⟨zK,((Ii,(db,g22)),(pj,cj)),_,zM,?_,rfl,rfl⟩;exact zE
  ·refine qw #[fF,tT,tT,tT,tT,fF,tT,fF,fF,fF,fF] rfl aC.bx ?_;rintro _ _ _ ⟨g22,rfl,rfl,rfl⟩;refine⟨⟨zX,zE⟩,cC.re zC ?_⟩;refine qa 0 ?_;refine qw #[tT,tT,tT,tT,tT,fF,tT,fF,fF,fF,fF] rfl (aC.cE WA rfl) ?_;rintro _ _ _ ⟨_,⟨db,rfl,rfl,rfl⟩,rfl⟩;refine⟨⟨zX,zE⟩,cC.re zC ?_⟩;refine qa 5 ?_;refine qw #[tT,tT,tT,tT,tT,tT,tT,fF,fF,fF,fF] rfl (aC.cE dY rfl) ?_;rintro _ _ _ ⟨_,⟨pj,cj,rfl,rfl,rfl⟩,rfl⟩;refine⟨⟨zX,zE⟩,cC.re zC ?_⟩;refine qa 7 ?_;refine qw #[tT,tT,tT,tT,tT,tT,tT,tT,fF,fF,fF] rfl (aC.cE nV rfl) ?_;rintro _ _ _ ⟨_,⟨rfl,rfl,rfl⟩,rfl⟩;refine⟨⟨zX,zE⟩,cC.re zC ?_⟩;refine qp 8 #[tT,tT,tT,tT,tT,tT,tT,tT,tT,fF,fF] rfl (Rd.bl (fun _ _=>ad) rfl rfl rfl) ?_;refine qa 9 ?_;refine qw #[tT,tT,tT,tT,tT,tT,tT,tT,tT,tT,fF] rfl aC.bx ?_;rintro _ _ _ ⟨Ii,rfl,rfl,rfl⟩;refine⟨⟨zX,zE⟩,cC.re zC ?_⟩;refine qp 10 #[tT,tT,tT,tT,tT,tT,tT,tT,tT,tT,tT] rfl Rd.BO ?_;refine cC.nil rfl ?_;refine DA.bE ⟨zK,((Ii,(db,g22)),(pj,cj)),_,zM,?_,rfl,rfl⟩;exact zE
 rintro⟨⟨Ii,db,g22⟩,pj,cj⟩ δ _ _ ⟨rfl,rfl⟩;dsimp only[eb,List.foldl];refine b3 ?_;refine bq ?_;refine az.eS (aw.fy (e:=2) (size:=1) (aw.refl _)) ?_;refine az.eS (aw.e9 (Θ:=[au g22 _ 168,bn 2 1 (.slice none 0 0) 0 []]) zD (bY.mk (out:=[]) (wrong:=false) rfl rfl rfl) (aw.refl _)) ?_;refine az.qM (R:=bn 2 1 (.slice pj inp.length cj) _ _) zL dp aU ?_;rintro lB ⟨⟩ QQ fc;have Oo:=mF rfl QQ;refine zw rfl (aC.cE (wk lB Ii db g22 _ q pj (ak p).length cq cj nc inp al.new s0 hG0 Oo (by omega)) rfl) ?_;rintro _ LB _ ⟨_,⟨g4,RQ,RU,RV,RW,rfl,oW,RX,rfl⟩,rfl⟩;refine az.cl ?_;rw[Gt];refine aW ?_;exact ao.ret (aG.two rfl rfl rfl) zE ⟨Ii,db,g22,q,cq,rfl,(bT.trans fc).trans oW,Ie.mono (fc.trans oW) (fun _ _ h=>h),⟨g4,RQ,RU,al.new,s0,RV,RW,pj,cj,Gt,rfl,hG0,RX,Oo.mono oW,rfl⟩⟩
end Go.Proofs.YtgeoiflbjcehcaaGreatDoor
