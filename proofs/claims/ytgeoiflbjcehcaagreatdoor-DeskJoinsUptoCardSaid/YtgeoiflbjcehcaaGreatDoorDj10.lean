import Derived.Test.YtgeoiflbjcehcaaGreatDoorDj9
import Derived.Laws.Strings2
import Derived.Lib.ParseIntBTie
import Derived.Laws.Concat
set_option maxHeartbeats 4000000
set_option maxRecDepth 2000
set_option linter.unusedVariables false
set_option linter.unusedSimpArgs false
namespace Go.Proofs.YtgeoiflbjcehcaaGreatDoor
open Go X
section
variable {P:Program} {σ f:PH} {Γ:List HP} {h h':Heap}
theorem X.Holds.grown (x:Holds σ Γ f h) (hb:∀k,k<h.size→h'[k]? =h[k]?):Holds σ Γ f h':=by
 obtain⟨m,a,b,c,d,e⟩:=x;(have hl:∀{n:PH},n.le h→n.le h':=fun hn k o e=>by rw[hb k (hn.lt e)];exact hn k o e);exact⟨m,a,hl b,hl c,hl d,e⟩
theorem X.ae.below {fid:FuncId} {vs:Array Value} {R:Value→Prop} (he:Enters P fid) (hc:∀w:World,σ.le w.heap→Calls P fid vs w (fun e w'=>∃v,e=.returned v∧R v∧RowKit.Below w.heap.size w w')):ae P fid vs σ [] (aE fun v ag ah=>R v∧σ=ag∧ah=[]):=by
 refine⟨he,fun fr h hh=>⟨he,fun w hw=>?_⟩⟩;subst hw;refine(hc w hh.wN).mono ?_;rintro e w' ⟨v,rfl,hr,hb⟩;exact⟨⟨hb.os,hb.tape,hb.output⟩,σ,[],⟨hr,rfl,rfl⟩,hh.grown hb.block⟩
end
theorem X.ae.X1 {P:Program} {f:FuncId} {vs:Array Value} {σ:PH} {bp:List HP} {α:Sort _} {φ:α→PH→Prop} {Q:Value→Prop} (he:Enters P f) (ho:∀m,Sat bp m→∃x,φ x m) (mono:∀x m m',φ x m→m.sub m'→φ x m')
 (k:∀ag x,φ x ag→σ.sub ag→ae P f vs ag [] (aE fun v vr xl=>Q v∧ag=vr∧xl=[])):ae P f vs σ bp (aE fun v vr xl=>Q v∧σ=vr∧xl=bp):=by
 refine⟨he,fun fr h hh=>?_⟩;obtain⟨m,r,a,b,c,d,e,q⟩:=hh;have hd:σ.mO m:=d.symm;have h1:Holds (σ.or m) [] fr h:=⟨PH.none,trivial,PH.none_le h,PH.sa b a,c,(PH.cK _).symm,(PH.cK _).symm,PH.fv q e⟩;obtain⟨x,hx⟩:=ho m r;refine((k (σ.or m) x (mono x _ _ hx (PH.r9 hd)) (PH.r8 _ _)).2 fr h h1).mono ?_;rintro e' h' ⟨vr,xl,hr,je⟩
 cases e' with
 |returned v=>
  obtain⟨hq,rfl,rfl⟩:=hr;obtain⟨m',-,-,c1,c2,-,-,c3⟩:=je;exact⟨σ,bp,⟨hq,rfl,rfl⟩,m,r,(PH.r9 hd).le c1,(PH.r8 _ _).le c1,c2,d,e,q⟩
 |panicked _=>exact hr.elim
 |outgrown=>exact hr.elim
theorem X.aG.EU {P:Program} {ρ:Env} {σ:PH} {Γ:List HP} {fn:Func} {t1 t3:Tmp} {T1:TypeId} {g1 o1:Nat} {v1 v3:Value} (hf:fn.results=#[.cell t1 T1,.tmp t3]) (h1:ρ t1=.pointer (some ⟨g1,o1,Option.none⟩)) (h3:ρ t3=v3)
 (l1:∀h,Ho σ Γ h→Ld P h T1 g1 o1 v1):aG P fn ρ σ Γ (.tuple #[v1,v3]):=fun h hh w a hw he=>by
 have e1:=he.get t1;rw[h1] at e1;simp at e1;have e3:=he.get t3;rw[h3] at e3;simp at e3;simp[results,hf,e1,e3,asAddr,l1 h hh w hw]
theorem X.aG.SH {P:Program} {ρ:Env} {σ:PH} {Γ:List HP} {fn:Func} {t1 t3:Tmp} {T1:TypeId} {g1 o1:Nat} {v1 v3:Value} (hf:fn.results=#[.tmp t3,.cell t1 T1]) (h1:ρ t1=.pointer (some ⟨g1,o1,Option.none⟩)) (h3:ρ t3=v3)
 (l1:∀h,Ho σ Γ h→Ld P h T1 g1 o1 v1):aG P fn ρ σ Γ (.tuple #[v3,v1]):=fun h hh w a hw he=>by
 have e1:=he.get t1;rw[h1] at e1;simp at e1;have e3:=he.get t3;rw[h3] at e3;simp at e3;simp[results,hf,e1,e3,asAddr,l1 h hh w hw]
def rP (σ:PH):Prop:=∀w:World,σ.le w.heap→Lib.TabIs Tryz.prog w "internal/strconv.uint64pow10" .u64 Lib.pow10Tab
def lp (σ:PH):Prop:=∃e1 e2,cz σ 1 0 [e1]∧(e1=.nilIface∨∃te pe,e1=.iface te pe)∧cz σ 2 0 [e2]∧(e2=.nilIface∨∃te pe,e2=.iface te pe)
theorem rP.mono {σ ag:PH} (h:rP σ) (s:σ.sub ag):rP ag:=fun w hw=>h w (s.le hw)
theorem lp.mono {σ ag:PH} (h:lp σ) (s:σ.sub ag):lp ag:=by
 obtain⟨e1,e2,h1,h2,h3,h4⟩:=h;exact⟨e1,e2,h1.mono s,h2,h3.mono s,h4⟩
def eI (n:Int):ByteArray:=⟨(Lib.itoa n).toArray⟩
theorem sy (w:World) (q:Nat) (os:Array Obj):RowKit.Below w.heap.size w (Sort.grow (w.drewN q) os):=
 ⟨rfl,rfl,rfl,by first|(simp[Sort.grow];done)|(simp[Sort.grow];omega),fun i hi=>by
  show ((w.drewN q).heap++os)[i]? =_;rw[Array.getElem?_append_left (by show i<w.heap.size;omega)]
  rfl⟩
theorem vz (σ:PH) (n:Int) (h0:-9223372036854775808≤n) (h1:n≤9223372036854775807) (hT:rP σ):
 ae Tryz.prog 39 #[i64 n,i64 10] σ [] (aE fun v ag ah=>v=.string (eI n)∧σ=ag∧ah=[]):=by
 (refine ae.below (enters Tryz.func39 rfl rfl) fun w hw=>?_;refine(Tryz.strconv_FormatInt_10 n h0 h1 w (hT w hw)).mono ?_);rintro e w' ⟨rfl,k,os,rfl⟩;exact⟨_,rfl,rfl,sy w k os⟩
theorem xE (w:World) (e:TypeId) (s:ByteArray):RowKit.Below w.heap.size w (Lib.bytesWorld w e s):=by
 refine⟨rfl,rfl,rfl,?_,fun k hk=>Lib.bytesWorld_at_old w e s k hk⟩;simp[Lib.bytesWorld,World.freeze,World.alloc,World.drew,-World.alloc_eq,-World.drew_eq]
def UJ (s:ByteArray) (v:Value):Prop:=(∃n,Lib.parseIntB 64 s.data.toList=.ok n∧v=.tuple #[i64 n,.nilIface])∨((∀n,Lib.parseIntB 64 s.data.toList≠.ok n)∧∃n a,v=.tuple #[i64 n,.iface 156 (.pointer (some a))])
theorem xF {σ:PH} {w:World} (hw:σ.le w.heap) {g:Nat} {v:Value} (h:cz σ g 0 [v]):w.cell? ⟨g,0,none⟩=some v:=by
 obtain⟨l,T,fr,a,b⟩:=h.row hw
 have h0:l[0]? =some v:=by
  have:=congrArg (·[0]?) b;simpa using this
 simp[World.cell?,a,h0]
theorem BW (σ:PH) (s:ByteArray) (hs:s.size≤100000000) (hE:lp σ):
 ae Tryz.prog 38 #[.string s,i64 10,i64 64] σ [] (aE fun v ag ah=>UJ s v∧σ=ag∧ah=[]):=by
 obtain⟨e1,e2,r1,q1,r2,q2⟩:=hE;(refine ae.below (enters Tryz.func38 rfl rfl) fun w hw=>?_);cases h:Lib.parseIntB 64 s.data.toList
 ·rename_i n;refine(Tryz.strconv_ParseInt_10_at64_ok s (by omega) n h w).mono ?_;rintro e w' ⟨rfl,Iv⟩;refine⟨_,rfl,.inl ⟨n,h,rfl⟩,?_⟩;rcases Iv with rfl|⟨t,rfl⟩
  ·exact .refl _ _
  ·exact xE w _ t
 ·refine(Tryz.strconv_ParseInt_10_at64_syntax s (by omega) h e1 w (xF hw r1) q1).mono ?_;rintro e w' ⟨N,rfl,-,-,hb⟩;exact⟨_,rfl,.inr ⟨fun n=>(by rw[h];intro x;cases x),_,_,rfl⟩,hb⟩
 ·refine(Tryz.strconv_ParseInt_10_at64_range s (by omega) h e2 w (xF hw r2) q2).mono ?_;rintro e w' ⟨N,rfl,-,-,hb⟩;exact⟨_,rfl,.inr ⟨fun n=>(by rw[h];intro x;cases x),_,_,rfl⟩,hb⟩
def gP (s:ByteArray):Option Int:=match Lib.parseIntB 64 s.data.toList with
 |.ok n=>if eI n=s then some n else none
 |_=>none
theorem lL:∃ms,Tryz.prog.underlying 87=some (.interface ms):=by
 obtain⟨dd,ii,zz,e1,e2,-⟩:=aD (P:=Tryz.prog) (T:=87) (ad rfl);(cases dd<;>simp[kindOf,Pa] at e2);exact⟨_,e1⟩
theorem mn {s:ByteArray} {n:Int} (h:Lib.parseIntB 64 s.data.toList=.ok n):gP s=if eI n=s then some n else none:=by rw[gP,h]
theorem nq {s:ByteArray} (h:∀n,Lib.parseIntB 64 s.data.toList≠.ok n):gP s=none:=by
 rw[gP];split
 ·rename_i n hn;exact absurd hn (h n)
 ·rfl
theorem iP {n:Int} {l:List UInt8} (h:Lib.parseIntB 64 l=.ok n):-9223372036854775808≤n∧n≤9223372036854775807:=by
 have:=Lib.parseIntB_bounds (B:=64) h;(have e:((2^(64-1):Nat):Int)=9223372036854775808:=by decide);rw[e] at this;omega
section
variable {P:Program} {ρ:Env} {S:Heap→Prop} {ty:TypeId}
theorem X.Rd.lM {T:TypeId} {x y z:Operand} {r:Ty} {s:ByteArray} {i j:Int} (hT:av P T=some r) (hk:r.k=.string) (hx:ev ρ x=.string s) (hy:ev ρ y=i64 i) (hz:ev ρ z=i64 j) (h:0≤i∧i≤j∧j≤s.size):Rd P ρ S (.slice T x (some y) (some z) none) ty (.string (s.extract i.toNat j.toNat)):=by
 (refine .pure fun d pos af gd w=>?_);obtain⟨dd,ii,zz,e1,e2,-⟩:=aD hT;rw[hk] at e2;(cases dd<;>simp[kindOf] at e2);have:=run_slice_string (P:=P) w T s .i64 .i64 i j e1 h.1 h.2.1 h.2.2;have h2:=run_sliceAt_string (P:=P) w T (.string s) (some (i64 i)) (some (i64 j)) none e1;rw[this] at h2;simp[execOp,hx,hy,hz,h2]
theorem X.Rd.FF {T:TypeId} {x y z:Operand} {r:Ty} {s t:ByteArray} {i j:Int} (hT:av P T=some r) (hk:r.k=.string) (hx:ev ρ x=.string s) (hy:ev ρ y=i64 i) (hz:ev ρ z=i64 j) (h:0≤i∧i≤j∧j≤s.size) (ht:s.extract i.toNat j.toNat=t):Rd P ρ S (.slice T x (some y) (some z) none) ty (.string t):=ht▸Rd.lM hT hk hx hy hz h
theorem X.Rd.nr {T T':TypeId} {x y:Operand} {a b:ByteArray} (hx:ev ρ x=.string a) (hy:ev ρ y=.string b) (h:a.size+b.size≤9223372036854775807):Rd P ρ S (.binOp .add T x y T') ty (.string (a++b)):=by
 (refine .pure fun d pos af gd w=>?_);simp only[execOp,hx,hy,binOp,Sem.run_bind];have:=run_string_add_sum (P:=P) w a b h;simp[eqGuard,this]
end
def gk (c:Nat):Bool:=decide (97≤c∧c≤122)
def fK (c:Nat):Bool:=decide (48≤c∧c≤57)
def et (c:Nat):Bool:=decide (c=32∨c=9∨c=10∨c=13)
def xG (p:Nat→Bool) (s:ByteArray):Nat→Nat→Nat
 |0,_=>0
 |f+1,i=>if i<s.size∧p (bc s i)=true then xG p s f (i+1)+1 else 0
def eY (p:Nat→Bool) (s:ByteArray) (i:Nat):Nat:=xG p s (s.size-i) i
theorem vA (p:Nat→Bool) (s:ByteArray) (i:Nat):eY p s i=if i<s.size∧p (bc s i)=true then eY p s (i+1)+1 else 0:=by
 unfold eY;by_cases h:i<s.size
 ·obtain⟨k,hk⟩:∃k,s.size-i=k+1:=⟨s.size-i-1,by omega⟩;rw[hk,xG,show s.size-(i+1)=k by omega]
 ·rw[show s.size-i=0 by omega,if_neg (fun q=>h q.1)];rfl
theorem BX (p:Nat→Bool) (s:ByteArray):∀(f i:Nat),xG p s f i≤f
 |0,_=>Nat.le_refl _
 |f+1,i=>by
  rw[xG];split
  ·have:=BX p s f (i+1);omega
  ·omega
theorem jD (p:Nat→Bool) (s:ByteArray) {i:Nat} (h:i≤s.size):i+eY p s i≤s.size:=by
 have:=BX p s (s.size-i) i;unfold eY;omega
theorem FG {p:Nat→Bool} {s:ByteArray} {i:Nat} (h:¬(i<s.size∧p (bc s i)=true)):eY p s i=0:=by rw[vA,if_neg h]
section
variable {P:Program} {ρ:Env} {S:Heap→Prop} {ty:TypeId}
theorem X.Rd.N8 {T:TypeId} {x y:Operand} {r:Ty} {s:ByteArray} {j:Int} {n:Nat} {kk:IntKind} (hT:av P T=some r) (hk:r.k=.string) (hx:ev ρ x=.string s) (hy:ev ρ y=.int kk j) (hn:j=n) (hi:n<s.size):Rd P ρ S (.index T x y) ty (.int .u8 (bc s n)):=by
 subst hn;exact Rd.dS hT hk hx hy hi
end
theorem xH (σ:PH) (c:Nat) (_:c<256):ae Tryz.prog 201 #[.int .u8 c] σ [] (aE fun v ag ah=>v=.bool (gk c)∧σ=ag∧ah=[]):=by
 by_cases h1:97≤c
 ·refine dF Tryz.func201 ?_;refine dE ?_;refine b8 rfl rfl ⟨?_,rfl,rfl⟩;exact congrArg Value.bool (decide_eq_decide.2 (by omega))
 ·refine dF Tryz.func201 ?_;refine dE ?_;refine b8 rfl rfl ⟨?_,rfl,rfl⟩;exact congrArg Value.bool (decide_eq_false (by omega)).symm
theorem BY (σ:PH) (c:Nat) (_:c<256):ae Tryz.prog 202 #[.int .u8 c] σ [] (aE fun v ag ah=>v=.bool (fK c)∧σ=ag∧ah=[]):=by
 by_cases h1:48≤c
 ·refine dF Tryz.func202 ?_;refine dE ?_;refine b8 rfl rfl ⟨?_,rfl,rfl⟩;exact congrArg Value.bool (decide_eq_decide.2 (by omega))
 ·refine dF Tryz.func202 ?_;refine dE ?_;refine b8 rfl rfl ⟨?_,rfl,rfl⟩;exact congrArg Value.bool (decide_eq_false (by omega)).symm
theorem BZ (σ:PH) (c:Nat) (_:c<256):ae Tryz.prog 175 #[.int .u8 c] σ [] (aE fun v ag ah=>v=.bool (et c)∧σ=ag∧ah=[]):=by
 by_cases h1:c=32
 ·subst h1;refine dF Tryz.func175 ?_;refine Kt ?_;exact b8 rfl rfl ⟨rfl,rfl,rfl⟩
 by_cases h2:c=9
 ·subst h2;refine dF Tryz.func175 ?_;refine Kt ?_;exact b8 rfl rfl ⟨rfl,rfl,rfl⟩
 by_cases h3:c=10
 ·subst h3;refine dF Tryz.func175 ?_;refine Kt ?_;exact b8 rfl rfl ⟨rfl,rfl,rfl⟩
 refine dF Tryz.func175 ?_;refine Kt ?_;refine b8 rfl rfl ⟨?_,rfl,rfl⟩;exact congrArg Value.bool (decide_eq_decide.2 (by omega))
def X2 (f:FuncId) (p:Nat→Bool):Prop:=∀(σ:PH) (c:Nat),c<256→ae Tryz.prog f #[.int .u8 c] σ [] (aE fun v ag ah=>v=.bool (p c)∧σ=ag∧ah=[])
theorem B0 (σ:PH) (s:ByteArray) (i:Nat) (f:FuncId) (p:Nat→Bool) (hp:X2 f p) (hi:i≤s.size) (hs:s.size≤100000000):
 ae Tryz.prog 174 #[.string s,i64 i,.func (.func f) #[] #[]] σ [] (aE fun v ag ah=>v=i64 (eY p s i)∧σ=ag∧ah=[]):=by
 (refine ob Tryz.func174 ?_;refine bH ?_;refine XA.gen [(0,_),(1,_),(2,_),(6,_),(7,_)] jN fun δ=>?_);dsimp only[List.foldl];refine XA.loop [(7,24)] (fun k:Nat=>[(7,i64 k)]) (fun k ag ah=>σ=ag∧i+k≤s.size∧eY p s i=eY p s (i+k)+k∧ah=[]) (fun k=>s.size-(i+k)) 0 (by exact⟨rfl,trivial⟩) (Δ0:=_) ?_ (⟨rfl,hi,rfl,rfl⟩) ?_
 ·exact zE
 rintro k δ _ _ ⟨rfl,hk,bF,rfl⟩;dsimp only[eb,List.foldl];have hk:i+k≤s.size:=hk;have bF:eY p s i=eY p s (i+k)+k:=bF;by_cases aT:i+k<s.size
 ·have hc:=hp σ (bc s (i+k)) (pN _ _);rw[vA p s (i+k)] at bF
  cases hq:p (bc s (i+k)) with
  |true=>
   rw[hq] at hc;rw[if_pos ⟨aT,hq⟩] at bF;refine cr ?_;(first|refine az.wanted rfl rfl ?_|refine az.wq rfl rfl ?_);refine zO rfl (Rd.N8 (n:=i+k) (ad rfl) rfl rfl rfl (by omega) aT) ?_;(first|refine az.wanted rfl rfl ?_|refine az.wq rfl rfl ?_);refine zw rfl (aC.cV (first:=[]) (cap:=[]) rfl (hc) rfl) ?_;rintro _ _ _ ⟨_,⟨rfl,rfl,rfl⟩,rfl⟩;refine az.cl ?_;refine bq ?_;refine cg ?_;refine⟨cF,k+1,_,zM,?_,⟨rfl,by show i+(k+1)≤s.size;omega,by show eY p s i=eY p s (i+(k+1))+(k+1);rw[show i+k+1=i+(k+1) by omega] at bF;omega,rfl⟩,(by omega)⟩
   ·exact zE
  |false=>
   rw[hq] at hc;rw[if_neg (fun x=>by rw[hq] at x;exact Bool.noConfusion x.2)] at bF;refine cr ?_;(first|refine az.wanted rfl rfl ?_|refine az.wq rfl rfl ?_);refine zO rfl (Rd.N8 (n:=i+k) (ad rfl) rfl rfl rfl (by omega) aT) ?_;(first|refine az.wanted rfl rfl ?_|refine az.wq rfl rfl ?_);refine zw rfl (aC.cV (first:=[]) (cap:=[]) rfl (hc) rfl) ?_;rintro _ _ _ ⟨_,⟨rfl,rfl,rfl⟩,rfl⟩;refine az.cl ?_;refine bq ?_;refine eP ?_;rw[Nat.zero_add] at bF;rw[bF];exact b8 rfl rfl ⟨rfl,rfl,rfl⟩
 ·rw[FG (fun x=>aT x.1),Nat.zero_add] at bF;refine cr ?_;(first|refine zH ?_);(first|refine zH ?_);refine bq ?_;refine lz ?_;refine bH ?_;rw[bF];exact b8 rfl rfl ⟨rfl,rfl,rfl⟩
structure Tk where
 at_:Nat
 text:ByteArray
 num:Bool
 n:Int
def lq (s:ByteArray) (i:Nat):Option Tk:=
 if bc s i=40∨bc s i=41 then some ⟨i,s.extract i (i+1),false,0⟩
 else if gk (bc s i)=true then some ⟨i,s.extract i (i+eY gk s i),false,0⟩
 else if fK (bc s i)=true∨bc s i=45 then
  (gP (s.extract i (i+1+eY fK s (i+1)))).map fun n=>⟨i,s.extract i (i+1+eY fK s (i+1)),true,n⟩
 else none
def Qz (t:Tk):List Value:=[i64 t.at_,.string t.text,.bool t.num,i64 t.n]
def QA (o:Option Tk):Value:=match o with
 |some t=>.tuple #[.agg (Qz t).toArray,i64 0]
 |none=>.tuple #[.agg #[i64 0,.string ByteArray.empty,.bool false,i64 0],i64 7]
theorem KG (σ:PH) (s:ByteArray) (i:Nat) (hi:i<s.size) (hs:s.size≤100000000) (hT:rP σ) (hE:lp σ):
 ae Tryz.prog 176 #[.string s,i64 i] σ [] (aE fun v ag ah=>v=QA (lq s i)∧σ=ag∧ah=[]):=by
 have hb:=pN s i;by_cases h1:bc s i=40
 ·(have e:lq s i=some ⟨i,s.extract i (i+1),false,0⟩:=by rw[lq,if_pos (.inl h1)]);rw[e];refine bS Tryz.func176 ?_;refine aN ?_;refine cR (fun g4=>?_) (ad rfl);refine bt ?_;refine zO rfl (Rd.dS (ad rfl) rfl rfl rfl (by first|omega|decide|(simp;omega))) ?_;refine ic ?_;refine mQ ?_;refine bt ?_;refine zO rfl (Rd.lM (ad rfl) rfl rfl rfl rfl (by omega)) ?_;refine bC ?_;exact ao.ret (aG.EU rfl rfl rfl (Ld.bN (ad rfl) rfl zL rfl (by first|exact bJ (by first|rfl|assumption|(refine(aj _).trans ?_;assumption)|(simp[*];(first|done|fail)))|assumption|exact aI (by first|rfl|assumption|(refine(aj _).trans ?_;assumption)|(simp[*];(first|done|fail)))|(conv=>lhs;simp only[List.drop_succ_cons,List.drop_zero,List.take_succ_cons,List.take_zero])) (by first|rfl|assumption|(refine(aj _).trans ?_;assumption)|(simp[*];(first|done|fail))))) (aw.nil _) ⟨rfl,rfl,rfl⟩
 by_cases h2:bc s i=41
 ·(have e:lq s i=some ⟨i,s.extract i (i+1),false,0⟩:=by rw[lq,if_pos (.inr h2)]);rw[e];refine bS Tryz.func176 ?_;refine aN ?_;refine cR (fun g4=>?_) (ad rfl);refine bt ?_;refine zO rfl (Rd.dS (ad rfl) rfl rfl rfl (by first|omega|decide|(simp;omega))) ?_;refine ic ?_;refine mQ ?_;refine bt ?_;refine zO rfl (Rd.lM (ad rfl) rfl rfl rfl rfl (by omega)) ?_;refine bC ?_;exact ao.ret (aG.EU rfl rfl rfl (Ld.bN (ad rfl) rfl zL rfl (by first|exact bJ (by first|rfl|assumption|(refine(aj _).trans ?_;assumption)|(simp[*];(first|done|fail)))|assumption|exact aI (by first|rfl|assumption|(refine(aj _).trans ?_;assumption)|(simp[*];(first|done|fail)))|(conv=>lhs;simp only[List.drop_succ_cons,List.drop_zero,List.take_succ_cons,List.take_zero])) (by first|rfl|assumption|(refine(aj _).trans ?_;assumption)|(simp[*];(first|done|fail))))) (aw.nil _) ⟨rfl,rfl,rfl⟩
 (have vB:¬(bc s i=40∨bc s i=41):=by omega);have Dv:=xH σ (bc s i) hb;have Dw:=jD gk s (i:=i) (by omega);have acQ:=jD fK s (i:=i+1) (by omega);have Dx:=BY σ (bc s i) hb;have rC:=B0 σ s i 201 gk xH (by omega) hs;have pI:=B0 σ s (i+1) 202 fK BY (by omega) hs;refine bS Tryz.func176 ?_;refine aN ?_;refine cR (fun g4=>?_) (ad rfl);refine bt ?_;refine zO rfl (Rd.dS (ad rfl) rfl rfl rfl (by first|omega|decide|(simp;omega))) ?_;refine ic ?_;refine lz ?_;refine bq ?_
 cases hl:gk (bc s i) with
 |true=>
  (have e:lq s i=some ⟨i,s.extract i (i+eY gk s i),false,0⟩:=by rw[lq,if_neg vB,if_pos hl]);rw[e];rw[hl] at Dv;refine yC (Dv) ?_;refine bq ?_;refine a8 ?_;refine yC (rC) ?_;refine b3 ?_;refine zO rfl (Rd.lM (ad rfl) rfl rfl rfl rfl (by omega)) ?_;refine bC ?_;exact ao.ret (aG.EU rfl rfl rfl (Ld.bN (ad rfl) rfl zL rfl (by first|exact bJ (by first|rfl|assumption|(refine(aj _).trans ?_;assumption)|(simp[*];(first|done|fail)))|assumption|exact aI (by first|rfl|assumption|(refine(aj _).trans ?_;assumption)|(simp[*];(first|done|fail)))|(conv=>lhs;simp only[List.drop_succ_cons,List.drop_zero,List.take_succ_cons,List.take_zero])) (by first|rfl|assumption|(refine(aj _).trans ?_;assumption)|(simp[*];(first|done|fail))))) (aw.nil _) ⟨rfl,rfl,rfl⟩
 |false=>
  (have pJ:¬gk (bc s i)=true:=by rw[hl];exact Bool.noConfusion);rw[hl] at Dv;by_cases hd:fK (bc s i)=true∨bc s i=45
  ·(have e:lq s i=(gP (s.extract i (i+1+eY fK s (i+1)))).map fun n=>⟨i,s.extract i (i+1+eY fK s (i+1)),true,n⟩:=by rw[lq,if_neg vB,if_neg pJ,if_pos hd]);obtain⟨tx,X3⟩:∃tx,tx=s.extract i (i+1+eY fK s (i+1)):=⟨_,rfl⟩;(have UK:s.extract (i:Int).toNat (((i:Int)+1)+(eY fK s (i+1):Nat)).toNat=tx:=by rw[X3];congr 1<;>omega);rw[←X3] at e;rw[e];(have htz:tx.size≤100000000:=by rw[X3,ByteArray.size_extract];omega);have UL:=BW σ tx htz hE
   cases hq:fK (bc s i) with
   |true=>
    rw[hq] at Dx;refine yC (Dv) ?_;refine bq ?_;refine bM ?_;refine yC (Dx) ?_;refine bC ?_;refine eP ?_;refine yC (pI) ?_;refine b3 ?_;refine zO rfl (Rd.FF (ad rfl) rfl rfl rfl rfl (by omega) UK) ?_;refine aO ?_;refine zw rfl (aC.cE (UL) rfl) ?_;rintro v _ _ ⟨_,⟨vC,rfl,rfl⟩,rfl⟩;refine az.cl ?_;rcases vC with ⟨n,hn,rfl⟩|⟨xd,n,a,rfl⟩
    ·obtain⟨uz,As⟩:=iP hn;rw[mn hn];refine cg ?_;refine zO rfl (Rd.sw lL.choose_spec rfl) ?_;refine aN ?_;(first|refine az.wanted rfl rfl ?_|refine az.wq rfl rfl ?_);refine yC (vz σ n uz As hT) ?_;refine b3 ?_;(first|(refine zG ?_;refine zO rfl (Rd.neqs rfl rfl) ?_)|refine zH ?_);refine bq ?_;by_cases hq:eI n=tx
     ·(have QB:¬(eI n≠tx):=fun h=>h hq);rw[if_pos hq];refine XA.aR rfl (by first|rfl|exact decide_eq_false QB) ?_;refine eP ?_;exact ao.ret (aG.EU rfl rfl rfl (Ld.bN (ad rfl) rfl zL rfl (by first|exact bJ (by first|rfl|assumption|(refine(aj _).trans ?_;assumption)|(simp[*];(first|done|fail)))|assumption|exact aI (by first|rfl|assumption|(refine(aj _).trans ?_;assumption)|(simp[*];(first|done|fail)))|(conv=>lhs;simp only[List.drop_succ_cons,List.drop_zero,List.take_succ_cons,List.take_zero])) (by first|rfl|assumption|(refine(aj _).trans ?_;assumption)|(simp[*];(first|done|fail))))) (aw.nil _) ⟨rfl,rfl,rfl⟩
     ·rw[if_neg hq];refine XA.bG rfl (by first|rfl|exact decide_eq_true hq) ?_;refine a8 ?_;exact ao.ret (aG.EU rfl rfl rfl (Ld.bN (ad rfl) rfl zL rfl (by first|exact bJ (by first|rfl|assumption|(refine(aj _).trans ?_;assumption)|(simp[*];(first|done|fail)))|assumption|exact aI (by first|rfl|assumption|(refine(aj _).trans ?_;assumption)|(simp[*];(first|done|fail)))|(conv=>lhs;simp only[List.drop_succ_cons,List.drop_zero,List.take_succ_cons,List.take_zero])) (by first|rfl|assumption|(refine(aj _).trans ?_;assumption)|(simp[*];(first|done|fail))))) (aw.nil _) ⟨rfl,rfl,rfl⟩
    ·rw[nq xd];refine cg ?_;refine zO rfl (Rd.sv lL.choose_spec rfl) ?_;refine aN ?_;(first|refine zH ?_);refine b3 ?_;(first|(refine zG ?_;refine zO rfl (Rd.neqs rfl rfl) ?_)|refine zH ?_);refine bq ?_;refine aW ?_;exact ao.ret (aG.EU rfl rfl rfl (Ld.bN (ad rfl) rfl zL rfl (by first|exact bJ (by first|rfl|assumption|(refine(aj _).trans ?_;assumption)|(simp[*];(first|done|fail)))|assumption|exact aI (by first|rfl|assumption|(refine(aj _).trans ?_;assumption)|(simp[*];(first|done|fail)))|(conv=>lhs;simp only[List.drop_succ_cons,List.drop_zero,List.take_succ_cons,List.take_zero])) (by first|rfl|assumption|(refine(aj _).trans ?_;assumption)|(simp[*];(first|done|fail))))) (aw.nil _) ⟨rfl,rfl,rfl⟩
   |false=>
    have h45:bc s i=45:=hd.resolve_left (by rw[hq];exact Bool.noConfusion);(have X4:¬((bc s i:Int)≠45):=by omega);rw[hq] at Dx;refine yC (Dv) ?_;refine bq ?_;refine bM ?_;refine yC (Dx) ?_;refine bC ?_;refine XA.aR rfl (by first|rfl|exact decide_eq_false X4) ?_;refine bH ?_;refine yC (pI) ?_;refine b3 ?_;refine zO rfl (Rd.FF (ad rfl) rfl rfl rfl rfl (by omega) UK) ?_;refine aO ?_;refine zw rfl (aC.cE (UL) rfl) ?_;rintro v _ _ ⟨_,⟨vC,rfl,rfl⟩,rfl⟩;refine az.cl ?_;rcases vC with ⟨n,hn,rfl⟩|⟨xd,n,a,rfl⟩
    ·obtain⟨uz,As⟩:=iP hn;rw[mn hn];refine cg ?_;refine zO rfl (Rd.sw lL.choose_spec rfl) ?_;refine aN ?_;(first|refine az.wanted rfl rfl ?_|refine az.wq rfl rfl ?_);refine yC (vz σ n uz As hT) ?_;refine b3 ?_;(first|(refine zG ?_;refine zO rfl (Rd.neqs rfl rfl) ?_)|refine zH ?_);refine bq ?_;by_cases hq:eI n=tx
     ·(have QB:¬(eI n≠tx):=fun h=>h hq);rw[if_pos hq];refine XA.aR rfl (by first|rfl|exact decide_eq_false QB) ?_;refine eP ?_;exact ao.ret (aG.EU rfl rfl rfl (Ld.bN (ad rfl) rfl zL rfl (by first|exact bJ (by first|rfl|assumption|(refine(aj _).trans ?_;assumption)|(simp[*];(first|done|fail)))|assumption|exact aI (by first|rfl|assumption|(refine(aj _).trans ?_;assumption)|(simp[*];(first|done|fail)))|(conv=>lhs;simp only[List.drop_succ_cons,List.drop_zero,List.take_succ_cons,List.take_zero])) (by first|rfl|assumption|(refine(aj _).trans ?_;assumption)|(simp[*];(first|done|fail))))) (aw.nil _) ⟨rfl,rfl,rfl⟩
     ·rw[if_neg hq];refine XA.bG rfl (by first|rfl|exact decide_eq_true hq) ?_;refine a8 ?_;exact ao.ret (aG.EU rfl rfl rfl (Ld.bN (ad rfl) rfl zL rfl (by first|exact bJ (by first|rfl|assumption|(refine(aj _).trans ?_;assumption)|(simp[*];(first|done|fail)))|assumption|exact aI (by first|rfl|assumption|(refine(aj _).trans ?_;assumption)|(simp[*];(first|done|fail)))|(conv=>lhs;simp only[List.drop_succ_cons,List.drop_zero,List.take_succ_cons,List.take_zero])) (by first|rfl|assumption|(refine(aj _).trans ?_;assumption)|(simp[*];(first|done|fail))))) (aw.nil _) ⟨rfl,rfl,rfl⟩
    ·rw[nq xd];refine cg ?_;refine zO rfl (Rd.sv lL.choose_spec rfl) ?_;refine aN ?_;(first|refine zH ?_);refine b3 ?_;(first|(refine zG ?_;refine zO rfl (Rd.neqs rfl rfl) ?_)|refine zH ?_);refine bq ?_;refine aW ?_;exact ao.ret (aG.EU rfl rfl rfl (Ld.bN (ad rfl) rfl zL rfl (by first|exact bJ (by first|rfl|assumption|(refine(aj _).trans ?_;assumption)|(simp[*];(first|done|fail)))|assumption|exact aI (by first|rfl|assumption|(refine(aj _).trans ?_;assumption)|(simp[*];(first|done|fail)))|(conv=>lhs;simp only[List.drop_succ_cons,List.drop_zero,List.take_succ_cons,List.take_zero])) (by first|rfl|assumption|(refine(aj _).trans ?_;assumption)|(simp[*];(first|done|fail))))) (aw.nil _) ⟨rfl,rfl,rfl⟩
  ·have e:lq s i=none:=by rw[lq,if_neg vB,if_neg pJ,if_neg hd]
   have hq:fK (bc s i)=false:=by
    cases h:fK (bc s i) with
    |true=>exact absurd (.inl h) hd
    |false=>rfl
   (have h45:(bc s i:Int)≠45:=fun h=>hd (.inr (by omega)));rw[hq] at Dx;rw[e];refine yC (Dv) ?_;refine bq ?_;refine bM ?_;refine yC (Dx) ?_;refine bC ?_;refine XA.bG rfl (by first|rfl|exact decide_eq_true h45) ?_;refine aW ?_;exact ao.ret (aG.EU rfl rfl rfl (Ld.bN (ad rfl) rfl zL rfl (by first|exact bJ (by first|rfl|assumption|(refine(aj _).trans ?_;assumption)|(simp[*];(first|done|fail)))|assumption|exact aI (by first|rfl|assumption|(refine(aj _).trans ?_;assumption)|(simp[*];(first|done|fail)))|(conv=>lhs;simp only[List.drop_succ_cons,List.drop_zero,List.take_succ_cons,List.take_zero])) (by first|rfl|assumption|(refine(aj _).trans ?_;assumption)|(simp[*];(first|done|fail))))) (aw.nil _) ⟨rfl,rfl,rfl⟩
def ie (s:ByteArray):Nat→Nat→List Tk→Except Nat (List Tk)
 |0,_,acc=>.ok acc
 |f+1,i,acc=>if i<s.size then match lq s i with
  |some t=>ie s f (i+t.text.size+eY et s (i+t.text.size)) (acc++[t])
  |none=>.error i
  else .ok acc
abbrev uc (α:Type):=Except (Int×Int) α
def xI {α:Type}:uc α→Int|.error e=>e.1|.ok _=>0
def KH {α:Type}:uc α→Int|.error e=>e.2|.ok _=>0
def okL {α:Type}:uc (List α)→List α|.error _=>[]|.ok l=>l
def N9:Except Nat (List Tk)→uc (List Tk)
 |.ok l=>.ok l
 |.error i=>.error (7,(i:Int))
def fC (s:ByteArray):uc (List Tk):=if 6000<s.size then .error (3,6000) else N9 (ie s (s.size+1) (eY et s 0) [])
theorem pR {s:ByteArray} {i:Nat} {t:Tk} (hi:i<s.size) (h:lq s i=some t):t.at_=i∧1≤t.text.size∧i+t.text.size≤s.size:=by
 have hl:=jD gk s (i:=i) (by omega);have hd:=jD fK s (i:=i+1) (by omega);rw[lq] at h;split at h
 ·cases h;refine⟨rfl,?_,?_⟩<;>simp only[ByteArray.size_extract]<;>omega
 ·split at h
  ·rename_i hq;(have h1:eY gk s i=eY gk s (i+1)+1:=by rw[vA,if_pos ⟨hi,hq⟩]);cases h;refine⟨rfl,?_,?_⟩<;>simp only[ByteArray.size_extract]<;>omega
  ·split at h
   ·rw[Option.map_eq_some_iff] at h;obtain⟨n,-,rfl⟩:=h;refine⟨rfl,?_,?_⟩<;>simp only[ByteArray.size_extract]<;>omega
   ·cases h
structure KI (s:ByteArray) (t:Tk):Prop where
 at_:t.at_<s.size
 size:1≤t.text.size∧t.text.size≤s.size
 num:aF t.n
 word:t.num=false→t.n=0
theorem KJ {s:ByteArray} {i:Nat} {t:Tk} (hi:i<s.size) (h:lq s i=some t):KI s t:=by
 obtain⟨h1,h2,h3⟩:=pR hi h;have z:aF 0:=⟨by decide,by decide⟩;refine⟨by omega,⟨h2,by omega⟩,?_,?_⟩
 ·rw[lq] at h;split at h
  ·cases h;exact z
  ·split at h
   ·cases h;exact z
   ·split at h
    ·rw[Option.map_eq_some_iff] at h;obtain⟨n,hn,rfl⟩:=h;rw[gP] at hn;split at hn
     ·rename_i m hm;split at hn
      ·cases hn;exact iP hm
      ·cases hn
     ·cases hn
    ·cases h
 ·intro vC;rw[lq] at h;split at h
  ·cases h;rfl
  ·split at h
   ·cases h;rfl
   ·split at h
    ·rw[Option.map_eq_some_iff] at h;obtain⟨n,hn,rfl⟩:=h;cases vC
    ·cases h
theorem xJ {s:ByteArray}:∀(f i:Nat) (acc l:List Tk),ie s f i acc=.ok l→(∀t∈acc,KI s t)→∀t∈l,KI s t
 |0,i,acc,l,h,ha=>by cases h;exact ha
 |f+1,i,acc,l,h,ha=>by
  rw[ie] at h;split at h
  ·rename_i hi;split at h
   ·rename_i t ht;refine xJ f _ _ l h (fun x hx=>?_);rcases List.mem_append.1 hx with hx|hx
    ·exact ha x hx
    ·rw[List.mem_singleton.1 hx];exact KJ hi ht
   ·cases h
  ·cases h;exact ha
theorem oy {s:ByteArray} {l:List Tk} (h:fC s=.ok l):s.size≤6000∧∀t∈l,KI s t:=by
 rw[fC] at h;split at h
 ·cases h
 ·cases hl:ie s (s.size+1) (eY et s 0) [] with
  |ok l'=>
   rw[hl] at h;cases h;exact⟨by omega,xJ _ _ _ _ hl (fun t ht=>by cases ht)⟩
  |error i=>rw[hl] at h;cases h
def iC:RT Tk:=fun _ cs t=>cs=Qz t
def KL (l:List Tk):List Value:=(l.map Qz).flatten
theorem Dy (l:List Tk) (t:Tk):KL (l++[t])=KL l++Qz t:=by simp[KL]
theorem KM (σ:PH) (l:List Tk):cA 4 iC σ (l.map Qz) l:=
 ⟨by simp,fun r hr=>by obtain⟨i,-,rfl⟩:=List.mem_map.1 hr;rfl,fun k r x hr hx=>by rw[List.getElem?_map,hx] at hr;simpa[iC] using hr.symm⟩
theorem QC (σ:PH) (s:ByteArray) (hs:s.size≤100000000) (hT:rP σ) (hE:lp σ):
 ae Tryz.prog 143 #[.string s] σ [] (aE fun v ag ah=>∃sl,v=.tuple #[sl,.agg #[i64 (xI (fC s)),i64 (KH (fC s))]]∧bO 4 iC ag sl (okL (fC s))∧σ.sub ag∧ah=[]):=by
 by_cases h6:6000<s.size
 ·(have e:fC s=.error (3,6000):=by rw[fC,if_pos h6]);rw[e];refine dF Tryz.func143 ?_;refine bq ?_;refine cR (fun g3=>?_) (ad rfl);refine aW ?_;refine mQ ?_;refine a8 ?_;exact ao.ret (aG.SH rfl rfl rfl (Ld.bN (ad rfl) rfl zL rfl (by first|exact bJ (by first|rfl|assumption|(refine(aj _).trans ?_;assumption)|(simp[*];(first|done|fail)))|assumption|exact aI (by first|rfl|assumption|(refine(aj _).trans ?_;assumption)|(simp[*];(first|done|fail)))|(conv=>lhs;simp only[List.drop_succ_cons,List.drop_zero,List.take_succ_cons,List.take_zero])) (by first|rfl|assumption|(refine(aj _).trans ?_;assumption)|(simp[*];(first|done|fail))))) (aw.nil _) ⟨_,rfl,bO.nil _ _ _,.refl _,rfl⟩
 have h0:=jD et s (i:=0) (by omega);have QD:=B0 σ s 0 175 et BZ (by omega) hs;obtain⟨R,hR⟩:∃R,ie s (s.size+1) (eY et s 0) []=R:=⟨_,rfl⟩;(have hP:fC s=N9 R:=by rw[fC,if_neg h6,hR]);refine dF Tryz.func143 ?_;refine bq ?_;refine cR (fun g3=>?_) (ad rfl);(refine aW ?_;refine lz ?_;refine cg ?_;refine yC (QD) ?_;refine bM ?_;refine XA.eS (aw.fy (e:=257) (size:=4) (aw.refl _)) ?_;refine XA.gen [(0,_),(2,_),(3,_),(4,_),(5,_)] jN fun δ=>?_);dsimp only[List.foldl];refine XA.loop [(2,2),(4,7),(14,42)] (fun x:(Nat×(Nat×List Tk))×(Option Addr×Nat)=>[(5,i64 x.1.1),(4,.slice x.2.1 x.1.2.1 x.2.2)]) (fun x ag ah=>σ=ag∧x.1.1≤s.size∧x.1.2.1≤x.1.1∧x.1.2.2.length=x.1.2.1∧(∃f,s.size<x.1.1+f∧R=ie s f x.1.1 x.1.2.2)∧ah=[au g3 [i64 0,i64 0] 34,bn 257 4 (.slice x.2.1 x.1.2.1 x.2.2) x.1.2.1 (KL x.1.2.2)]) (fun x=>s.size-x.1.1) ((eY et s 0,(0,[])),(none,0)) (by exact⟨rfl,rfl,trivial⟩) (Δ0:=_) ?_ (⟨rfl,by simpa using h0,Nat.zero_le _,rfl,⟨s.size+1,by simp only;omega,hR.symm⟩,rfl⟩) ?_
 ·exact zE
 rintro⟨⟨i,n,acc⟩,p,c⟩ δ _ _ ⟨rfl,hi,hn,eR,⟨f,hf,KN⟩,rfl⟩;dsimp only[eb,List.foldl];simp only at hi hn eR hf KN;refine a8 ?_;refine XA.bI rfl (fun aT=>?_) (fun aT=>?_)
 ·(have aT:i<s.size:=by omega);have gG:=KG σ s i aT hs hT hE;obtain⟨f,rfl⟩:∃f',f=f'+1:=⟨f-1,by omega⟩;rw[ie,if_pos aT] at KN;refine bC ?_
  cases ho:lq s i with
  |none=>
   rw[ho] at gG KN;dsimp only[QA] at gG;simp only at KN;subst KN;rw[hP];refine yC (gG) ?_;refine bq ?_;refine cR (fun g6=>?_) (ad rfl);refine cg ?_;refine dE ?_;exact ao.ret (aG.SH rfl rfl rfl (Ld.bN (ad rfl) rfl zL rfl (by first|exact bJ (by first|rfl|assumption|(refine(aj _).trans ?_;assumption)|(simp[*];(first|done|fail)))|assumption|exact aI (by first|rfl|assumption|(refine(aj _).trans ?_;assumption)|(simp[*];(first|done|fail)))|(conv=>lhs;simp only[List.drop_succ_cons,List.drop_zero,List.take_succ_cons,List.take_zero])) (by first|rfl|assumption|(refine(aj _).trans ?_;assumption)|(simp[*];(first|done|fail))))) (aw.nil _) ⟨_,rfl,bO.nil _ _ _,.refl _,rfl⟩
  |some t=>
   obtain⟨KO,Fb,KB⟩:=pR aT ho;rw[ho] at gG KN;dsimp only[QA,Qz] at gG;simp only at KN;have hle:=jD et s (i:=i+t.text.size) KB;have hbl:=B0 σ s (i+t.text.size) 175 et BZ KB hs;refine yC (gG) ?_;refine bq ?_;refine cR (fun g6=>?_) (ad rfl);refine cg ?_;refine bt ?_;refine zw rfl (aC.qO (ad rfl) rfl (ad rfl)) ?_;rintro _ _ _ ⟨wP,rfl,rfl,rfl⟩;refine zw rfl (aC.tS (ad rfl) rfl (ad rfl) rfl rfl rfl) ?_;rintro _ _ _ ⟨p37,c37,rfl,rfl,rfl⟩;refine dE ?_;refine yC (hbl) ?_;refine bM ?_;refine⟨cF,((i+t.text.size+eY et s (i+t.text.size),(n+1,acc++[t])),(p37,c37)),_,zM,?_,⟨rfl,hle,by show n+1≤i+t.text.size+eY et s (i+t.text.size);omega,by show (acc++[t]).length=n+1;rw[List.length_append,eR];rfl,⟨f,by show s.size<i+t.text.size+eY et s (i+t.text.size)+f;omega,KN⟩,rfl⟩,(by show s.size-(i+t.text.size+eY et s (i+t.text.size))<s.size-i;omega)⟩
   ·rw[Dy];exact zE
 have hRe:R=.ok acc:=by
  rw[KN]
  cases f with
  |zero=>rfl
  |succ f=>rw[ie,if_neg (by omega)]
 refine dJ ?_;refine DA.qM (R:=bn 257 4 (.slice p n c) _ _) zL dp aU ?_;rintro dQ ⟨⟩ vD bQ;rw[hP,hRe];exact ao.ret (aG.SH rfl rfl rfl (Ld.bN (ad rfl) rfl zL rfl (by first|exact bJ (by first|rfl|assumption|(refine(aj _).trans ?_;assumption)|(simp[*];(first|done|fail)))|assumption|exact aI (by first|rfl|assumption|(refine(aj _).trans ?_;assumption)|(simp[*];(first|done|fail)))|(conv=>lhs;simp only[List.drop_succ_cons,List.drop_zero,List.take_succ_cons,List.take_zero])) (by first|rfl|assumption|(refine(aj _).trans ?_;assumption)|(simp[*];(first|done|fail))))) (aw.nil _) ⟨_,rfl,(KM dQ acc).H4 eR.symm vD,bQ,rfl⟩
def bW (e:Int) (l:List Tk) (code:Int):Int×Int:=match l with
 |t::_=>(code,t.at_)
 |[]=>(if code=5 then 6 else code,e)
def lA (w:ByteArray):List Tk→Bool
 |t::_=>!t.num&&decide (t.text=w)
 |[]=>false
def gI (x:Int×Int):List PanicEntry:=[{v:=.iface 209 (.agg #[i64 x.1,i64 x.2]),recovered:=false}]
theorem X.Rd.ns {P:Program} {ρ:Env} {S:Heap→Prop} {ty:TypeId} {T:TypeId} {x y:Operand} {r re:Ty} {e len cap:Nat} {a:Option Addr} {kk:IntKind} (hT:av P T=some r) (hk:r.k=.slice e) (hE:av P e=some re) (bQ:re.size=4) (hx:ev ρ x=.slice a len cap) (hy:ev ρ y=.int kk 1) (hl:1≤len):Rd P ρ S (.slice T x (some y) none none) ty (.slice (if cap=1 then a else a.map (·.add 4)) (len-1) (cap-1)):=by
 have h:=Rd.j0 (P:=P) (ρ:=ρ) (S:=S) (ty:=ty) (lo:=some y) (hi:=none) (mx:=none) (l:=1) (hh:=len) (m:=cap) hT hk hE hx (fun w=>by
  have hb:=fun c w=>lC (P:=P) (y:=len) (c:=c) (kk:=kk) (i:=1) (by decide) (by omega) w
  simp[Instr.sliceBounds,hy,hb])
 rw[bQ] at h;exact h
theorem X.Rd.QE {P:Program} {ρ:Env} {S:Heap→Prop} {ty T:TypeId} {x:Operand} {v:Value} {r:Ty} {fs:List (TypeId×Nat)} (hT:av P T=some r) (hk:r.k=.struct fs) (hx:ev ρ x=v):Rd P ρ S (.makeInterface T x) ty (.iface T v):=by
 (refine .pure fun d pos af g w=>?_);obtain⟨dd,i,z,e1,e2,-⟩:=aD hT;rw[hk] at e2;(cases dd<;>simp[kindOf] at e2);simp[execOp,Instr.makeInterface,run_underlying e1,hx]
theorem sA {α:Type} {R:RT α} {σ:PH} {p:Option Addr} {c:Nat} {t:α} {r:List α} (h:bO 4 R σ (.slice p (t::r).length c) (t::r)):bO 4 R σ (.slice (if c=1 then p else p.map (·.add 4)) ((t::r).length-1) (c-1)) r:=by
 obtain⟨p',c',rows,h1,h2,h3,h4,h5,h6,h7⟩:=h;simp only[Value.slice.injEq] at h1;obtain⟨rfl,-,rfl⟩:=h1;obtain⟨g,o,rfl,hr⟩:=h7 (by simp)
 match rows,h4 with
 |row::rows,h4=>
  have hl:=h5 row (by simp);simp only[List.length_cons] at h2 h4;refine⟨_,_,rows,by rw[List.length_cons,Nat.add_sub_cancel],by omega,by omega,by omega,fun q hq=>h5 q (by simp[hq]),fun i q x a b=>h6 (i+1) q x (by simpa using a) (by simpa using b),fun hp=>?_⟩;refine⟨g,o+4,by rw[if_neg (by omega),Option.map_some,addr_add],?_⟩;refine hr.sub (j:=4) ?_;rw[List.flatten_cons,←hl,List.drop_left,List.take_of_length_le (Nat.le_refl _)]
theorem j7 {σ:PH} {p:Option Addr} {c:Nat} {t:Tk} {r:List Tk} (h:bO 4 iC σ (.slice p (t::r).length c) (t::r)):∃g o,p=some ⟨g,o,none⟩∧cz σ g o [i64 t.at_]∧cz σ g (o+1) [.string t.text]∧cz σ g (o+2) [.bool t.num]∧cz σ g (o+3) [i64 t.n]:=by
 obtain⟨g,o,row,rfl,hr,-,bL⟩:=h.at (k:=0) rfl;have hr:row=Qz t:=hr;subst hr;rw[Nat.zero_mul,Nat.add_zero] at bL;exact⟨g,o,rfl,bL.sub (j:=0) rfl,bL.sub (j:=1) rfl,bL.sub (j:=2) rfl,bL.sub (j:=3) rfl⟩
section
variable (σ:PH) (b:Nat) (p:Option Addr) (n c:Nat) (e:Int) (vs:Value)
theorem lN (l:List Tk) (code:Int) (hl:bO 4 iC σ (.slice p l.length c) l):
 ae Tryz.prog 204 #[ptr b,i64 code] σ [au b [.slice p l.length c,i64 e,vs] 213] (jP fun ch ag ah=>ch=gI (bW e l code)∧σ=ag∧ah=[au b [.slice p l.length c,i64 e,vs] 213]):=by
 cases l with
 |cons t r=>
  obtain⟨g,o,rfl,h0,h1,h2,h3⟩:=j7 hl;(have rB:(0:Int)<((t::r).length:Nat):=by rw[List.length_cons];omega);refine bS Tryz.func204 ?_;refine tX ?_;refine XA.bG rfl (by first|rfl|exact decide_eq_true rB) ?_;refine cr ?_;refine zO rfl (X.Rd.QE (ad rfl) rfl rfl) ?_;refine az.throw rfl rfl ?_;(repeat (first|refine DA.ax ?_|refine DA.ay ?_));exact ao.panic zE ⟨rfl,rfl,rfl⟩
 |nil=>
  by_cases q:code=5
  ·subst q;refine bS Tryz.func204 ?_;refine tX ?_;refine bt ?_;refine a8 ?_;refine zO rfl (X.Rd.QE (ad rfl) rfl rfl) ?_;refine az.throw rfl rfl ?_;(repeat (first|refine DA.ax ?_|refine DA.ay ?_));exact ao.panic zE ⟨rfl,rfl,rfl⟩
  ·(have hf:bW e [] code=(code,e):=by rw[bW,if_neg q]);rw[hf];refine bS Tryz.func204 ?_;refine tX ?_;refine bt ?_;refine XA.aR rfl (by first|rfl|exact decide_eq_false q) ?_;refine aO ?_;refine zO rfl (X.Rd.QE (ad rfl) rfl rfl) ?_;refine az.throw rfl rfl ?_;(repeat (first|refine DA.ax ?_|refine DA.ay ?_));exact ao.panic zE ⟨rfl,rfl,rfl⟩
theorem FH (l:List Tk) (w:ByteArray) (hl:bO 4 iC σ (.slice p l.length c) l):
 ae Tryz.prog 203 #[ptr b,.string w] σ [au b [.slice p l.length c,i64 e,vs] 213] (aE fun v ag ah=>v=.bool (lA w l)∧σ=ag∧ah=[au b [.slice p l.length c,i64 e,vs] 213]):=by
 cases l with
 |cons t r=>
  obtain⟨g,o,rfl,h0,h1,h2,h3⟩:=j7 hl;(have rB:(0:Int)<((t::r).length:Nat):=by rw[List.length_cons];omega);have aT:(0:Int)≤0∧(0:Int)<((t::r).length:Nat):=⟨Int.le_refl _,rB⟩;obtain⟨ta,tt,tn,tv⟩:=t
  cases tn with
  |true=>
   refine bS Tryz.func203 ?_;refine Qp ?_;(first|(refine zG ?_;refine zO rfl (Rd.eE rfl rfl) ?_)|refine zH ?_);refine b9 ?_;exact b8 rfl rfl ⟨rfl,rfl,rfl⟩
  |false=>
   refine bS Tryz.func203 ?_;refine Qp ?_;(first|(refine zG ?_;refine zO rfl (Rd.eE rfl rfl) ?_)|refine zH ?_);refine b9 ?_;exact b8 rfl rfl ⟨rfl,rfl,rfl⟩
 |nil=>
  refine bS Tryz.func203 ?_;refine Qp ?_;(first|(refine zG ?_;refine zO rfl (Rd.eE rfl rfl) ?_)|refine zH ?_);refine b9 ?_;exact b8 rfl rfl ⟨rfl,rfl,rfl⟩
end
def QF:List ByteArray:=[⟨#[]⟩,⟨#[110,117,109]⟩,⟨#[118,97,114]⟩,⟨#[103,101,116]⟩,⟨#[97,100,100]⟩,⟨#[115,117,98]⟩,⟨#[109,117,108]⟩,⟨#[108,101,115,115]⟩,⟨#[115,97,109,101]⟩]
def QG:List ByteArray:=[⟨#[]⟩,⟨#[115,101,116]⟩,⟨#[112,117,116]⟩,⟨#[112,114,105,110,116]⟩,⟨#[114,101,97,100]⟩,⟨#[119,104,105,108,101]⟩,⟨#[105,102]⟩,⟨#[99,111,109,109,105,116]⟩]
def gQ (k:Int):ByteArray:=if 1≤k∧k≤8 then QF.getD k.toNat ByteArray.empty else ByteArray.empty
def gm (k:Int):ByteArray:=if 1≤k∧k≤7 then QG.getD k.toNat ByteArray.empty else ByteArray.empty
theorem FI (σ:PH) (k:Int):ae Tryz.prog 230 #[i64 k] σ [] (aE fun v ag ah=>v=.string (gQ k)∧σ=ag∧ah=[]):=by
 by_cases hr:1≤k∧k≤8
 ·(have hp:¬partsOf k<0:=by rw[partsOf];split;(decide);split;(decide);rw[if_pos (by omega)];decide);have tY:k=1∨k=2∨k=3∨k=4∨k=5∨k=6∨k=7∨k=8:=by omega
  have H3:(List.toArray [Value.string ⟨#[]⟩,.string ⟨#[110,117,109]⟩,.string ⟨#[118,97,114]⟩,.string ⟨#[103,101,116]⟩,.string ⟨#[97,100,100]⟩,.string ⟨#[115,117,98]⟩,.string ⟨#[109,117,108]⟩,.string ⟨#[108,101,115,115]⟩,.string ⟨#[115,97,109,101]⟩])[k.toNat]? =some (.string (gQ k)):=by
   rcases tY with rfl|rfl|rfl|rfl|rfl|rfl|rfl|rfl<;>rfl
  refine dF Tryz.func230 ?_;refine a8 ?_;refine yC (kG σ k) ?_;refine bq ?_;refine XA.aR rfl (by first|rfl|exact decide_eq_false hp) ?_;refine bM ?_;refine zO rfl (Rd.vq (cs:=[Value.string ⟨#[]⟩,.string ⟨#[110,117,109]⟩,.string ⟨#[118,97,114]⟩,.string ⟨#[103,101,116]⟩,.string ⟨#[97,100,100]⟩,.string ⟨#[115,117,98]⟩,.string ⟨#[109,117,108]⟩,.string ⟨#[108,101,115,115]⟩,.string ⟨#[115,97,109,101]⟩]) (fun _ _=>ad) rfl rfl rfl rfl (by kernel_rfl)) ?_;refine b3 ?_;refine zO rfl (by apply Rd.nX;exact ad rfl;rfl;exact ad rfl;rfl;rfl;rfl;rfl;exact(by omega);exact H3) ?_;refine bM ?_;exact ao.ret (aG.one rfl rfl) (aw.refl _) ⟨rfl,rfl,rfl⟩
 ·(have hp:partsOf k<0:=by rw[partsOf,if_neg (by omega),if_neg (by omega),if_neg (by omega)];decide);(have hw:gQ k=ByteArray.empty:=by rw[gQ,if_neg hr]);rw[hw];refine dF Tryz.func230 ?_;refine a8 ?_;refine yC (kG σ k) ?_;refine bq ?_;refine XA.bG rfl (by first|rfl|exact decide_eq_true hp) ?_;refine bt ?_;exact ao.ret (aG.one rfl rfl) (aw.refl _) ⟨rfl,rfl,rfl⟩
theorem FJ (σ:PH) (k:Int):ae Tryz.prog 208 #[i64 k] σ [] (aE fun v ag ah=>v=.string (gm k)∧σ=ag∧ah=[]):=by
 by_cases h1:k<1
 ·(have hw:gm k=ByteArray.empty:=by rw[gm,if_neg (by omega)]);rw[hw];refine dF Tryz.func208 ?_;refine ic ?_;refine XA.bG rfl (by first|rfl|exact decide_eq_true h1) ?_;refine bt ?_;exact ao.ret (aG.one rfl rfl) (aw.refl _) ⟨rfl,rfl,rfl⟩
 by_cases h7:k>7
 ·(have hw:gm k=ByteArray.empty:=by rw[gm,if_neg (by omega)]);rw[hw];refine dF Tryz.func208 ?_;refine ic ?_;refine XA.bG rfl (by first|rfl|exact decide_eq_true h7) ?_;refine bt ?_;exact ao.ret (aG.one rfl rfl) (aw.refl _) ⟨rfl,rfl,rfl⟩
 have tY:k=1∨k=2∨k=3∨k=4∨k=5∨k=6∨k=7:=by omega
 have H3:(List.toArray [Value.string ⟨#[]⟩,.string ⟨#[115,101,116]⟩,.string ⟨#[112,117,116]⟩,.string ⟨#[112,114,105,110,116]⟩,.string ⟨#[114,101,97,100]⟩,.string ⟨#[119,104,105,108,101]⟩,.string ⟨#[105,102]⟩,.string ⟨#[99,111,109,109,105,116]⟩])[k.toNat]? =some (.string (gm k)):=by
  rcases tY with rfl|rfl|rfl|rfl|rfl|rfl|rfl<;>rfl
 refine dF Tryz.func208 ?_;refine ic ?_;refine XA.aR rfl (by first|rfl|exact decide_eq_false h7) ?_;refine bM ?_;refine zO rfl (Rd.vq (cs:=[Value.string ⟨#[]⟩,.string ⟨#[115,101,116]⟩,.string ⟨#[112,117,116]⟩,.string ⟨#[112,114,105,110,116]⟩,.string ⟨#[114,101,97,100]⟩,.string ⟨#[119,104,105,108,101]⟩,.string ⟨#[105,102]⟩,.string ⟨#[99,111,109,109,105,116]⟩]) (fun _ _=>ad) rfl rfl rfl rfl (by kernel_rfl)) ?_;refine b3 ?_;refine zO rfl (by apply Rd.nX;exact ad rfl;rfl;exact ad rfl;rfl;rfl;rfl;rfl;exact(by omega);exact H3) ?_;refine bM ?_;exact ao.ret (aG.one rfl rfl) (aw.refl _) ⟨rfl,rfl,rfl⟩
section
variable (σ:PH) (b:Nat) (p:Option Addr) (n c:Nat) (e:Int) (vs:Value)
theorem vE (t:Tk) (r:List Tk) (w:ByteArray) (hl:bO 4 iC σ (.slice p (t::r).length c) (t::r)) (h:lA w (t::r)=true):
 ae Tryz.prog 177 #[ptr b,.string w] σ [au b [.slice p (t::r).length c,i64 e,vs] 213] (aE fun v ag ah=>v=.bool true∧∃p' c',bO 4 iC σ (.slice p' r.length c') r∧σ=ag∧ah=[au b [.slice p' r.length c',i64 e,vs] 213]):=by
 have hp:=FH σ b p c e vs (t::r) w hl;rw[h] at hp;refine bS Tryz.func177 ?_;refine a8 ?_;refine yC (hp) ?_;refine a8 ?_;refine bt ?_;refine zO rfl (X.Rd.ns (ad rfl) rfl (ad rfl) rfl rfl rfl (by simp)) ?_;refine bH ?_;exact b8 rfl rfl ⟨rfl,_,_,sA hl,rfl,rfl⟩
theorem xK (l:List Tk) (w:ByteArray) (hl:bO 4 iC σ (.slice p l.length c) l) (h:lA w l=false):
 ae Tryz.prog 177 #[ptr b,.string w] σ [au b [.slice p l.length c,i64 e,vs] 213] (aE fun v ag ah=>v=.bool false∧σ=ag∧ah=[au b [.slice p l.length c,i64 e,vs] 213]):=by
 have hp:=FH σ b p c e vs l w hl;rw[h] at hp;refine bS Tryz.func177 ?_;refine a8 ?_;refine yC (hp) ?_;refine a8 ?_;refine aW ?_;exact b8 rfl rfl ⟨rfl,rfl,rfl⟩
theorem eT (t:Tk) (r:List Tk) (w:ByteArray) (hl:bO 4 iC σ (.slice p (t::r).length c) (t::r)) (h:lA w (t::r)=true):
 ae Tryz.prog 206 #[ptr b,.string w] σ [au b [.slice p (t::r).length c,i64 e,vs] 213] (aE fun v ag ah=>v=.tuple #[]∧∃p' c',bO 4 iC σ (.slice p' r.length c') r∧σ=ag∧ah=[au b [.slice p' r.length c',i64 e,vs] 213]):=by
 refine bS Tryz.func206 ?_;refine bM ?_;refine zw rfl (aC.cE (vE σ b p c e vs t r w hl h) rfl) ?_;rintro _ _ _ ⟨_,⟨rfl,p',c',pJ,rfl,rfl⟩,rfl⟩;refine az.cl ?_;refine bq ?_;refine aN ?_;exact fU rfl ⟨rfl,p',c',pJ,rfl,rfl⟩
theorem dV (l:List Tk) (w:ByteArray) (hl:bO 4 iC σ (.slice p l.length c) l) (h:lA w l=false):
 ae Tryz.prog 206 #[ptr b,.string w] σ [au b [.slice p l.length c,i64 e,vs] 213] (jP fun ch ag ah=>ch=gI (bW e l 5)∧σ=ag∧ah=[au b [.slice p l.length c,i64 e,vs] 213]):=by
 refine bS Tryz.func206 ?_;refine bM ?_;refine yC (xK σ b p c e vs l w hl h) ?_;refine bq ?_;refine bq ?_;refine az.die rfl (lN σ b p c e vs l 5 hl) rfl ?_;rintro _ _ _ ⟨rfl,rfl,rfl⟩;refine DA.cl ?_;(repeat (first|refine DA.ax ?_|refine DA.ay ?_));exact ao.panic zE ⟨rfl,rfl,rfl⟩
theorem B1 (m:Int) (v:List Value) (h:m≤12):
 ae Tryz.prog 205 #[ptr b,i64 m] σ [au b v 213] (aE fun v' ag ah=>v'=.tuple #[]∧σ=ag∧ah=[au b v 213]):=by
 refine bS Tryz.func205 ?_;refine aO ?_;refine lz ?_;refine b3 ?_;exact fU rfl ⟨rfl,rfl,rfl⟩
theorem xL (m:Int) (l:List Tk) (hl:bO 4 iC σ (.slice p l.length c) l) (h:¬m≤12):
 ae Tryz.prog 205 #[ptr b,i64 m] σ [au b [.slice p l.length c,i64 e,vs] 213] (jP fun ch ag ah=>ch=gI (bW e l 4)∧σ=ag∧ah=[au b [.slice p l.length c,i64 e,vs] 213]):=by
 refine bS Tryz.func205 ?_;refine aO ?_;refine mQ ?_;refine aN ?_;refine az.die rfl (lN σ b p c e vs l 4 hl) rfl ?_;rintro _ _ _ ⟨rfl,rfl,rfl⟩;refine DA.cl ?_;(repeat (first|refine DA.ax ?_|refine DA.ay ?_));exact ao.panic zE ⟨rfl,rfl,rfl⟩
theorem vF (t:Tk) (r:List Tk) (hl:bO 4 iC σ (.slice p (t::r).length c) (t::r)) (h:t.num=true):
 ae Tryz.prog 179 #[ptr b] σ [au b [.slice p (t::r).length c,i64 e,vs] 213] (aE fun v ag ah=>v=i64 t.n∧∃p' c',bO 4 iC σ (.slice p' r.length c') r∧σ=ag∧ah=[au b [.slice p' r.length c',i64 e,vs] 213]):=by
 obtain⟨g,o,rfl,h0,h1,h2,h3⟩:=j7 hl;(have fW:¬(((t::r).length:Nat):Int)=0:=by rw[List.length_cons];omega);rw[h] at h2;refine dF Tryz.func179 ?_;refine Qo ?_;refine oa ?_;refine zO rfl (X.Rd.ns (ad rfl) rfl (ad rfl) rfl rfl rfl (by simp)) ?_;refine bH ?_;exact b8 rfl rfl ⟨rfl,_,_,sA hl,rfl,rfl⟩
end
end Go.Proofs.YtgeoiflbjcehcaaGreatDoor
