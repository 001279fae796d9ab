import Derived.Test.YtgeoiflbjcehcaaGreatDoorDd4
import Derived.ChangeArms
import Derived.Test.YtgeoiflbjcehcaaGreatDoorRows
import Derived.LoopN
import Derived.Laws.Pointers
import Derived.Laws.Strings
import Derived.Laws.StructEq
import Derived.Laws.Small
set_option maxHeartbeats 4000000
set_option maxRecDepth 2000
set_option linter.unusedVariables false
set_option linter.unusedSimpArgs false
namespace Go.Proofs.YtgeoiflbjcehcaaGreatDoor
open Go X
namespace X
abbrev RT (α:Type):=PH→List Value→α→Prop
structure Dec {α:Type} (P:Program) (t:TypeId) (R:RT α):Prop where
 out:∀{H:Type} {enc:TypeId×Value→H} {w:World} {fuel:Nat} {cs:List Value} {x:DataW H×List MemPlace},DataW.trod enc P w 0 (fun _=>true) true fuel t cs=some x→∃y,R (ie w.heap) cs y
variable {P:Program} {t e:TypeId}
theorem C2 {H:Type} {enc:TypeId×Value→H} {w:World} {base:Nat} {spare:Nat→Bool} {held:Bool} {fuel:Nat} {cs:List Value} {x:DataW H×List MemPlace} (h:DataW.trod enc P w base spare held fuel t cs=some x):∃k,fuel=k+1:=by
 cases fuel with
 |zero=>simp[DataW.trod] at h
 |succ k=>exact⟨k,rfl⟩
def WX:RT Bool:=fun _ cs b=>cs=[.bool b]
def pw:RT ByteArray:=fun _ cs s=>cs=[.string s]∧s.size≤maxLen
theorem xh {r:Ty} (hT:aX P t=some r):∃d,P.underlying t=some d∧kindOf d=r.k∧P.cellsOf t=r.size:=by
 obtain⟨d,i,z,e1,e2,e3,e4,-⟩:=aF hT;exact⟨d,e1,e2,by simp[Program.cellsOf,e3,e4]⟩
theorem Dec.bool {r:Ty} (hT:aX P t=some r) (hk:r.k=.bool):Dec P t WX:=⟨fun {H enc w fuel cs x} h=>by
 obtain⟨d,e1,e2,-⟩:=xh hT;rw[hk] at e2;(cases d<;>simp[kindOf] at e2);obtain⟨n,rfl⟩:=C2 h;unfold DataW.trod at h;rw[e1] at h;dsimp only at h;split at h
 all_goals first|exact⟨_,rfl⟩|(simp_all;done)⟩
theorem Dec.str {r:Ty} (hT:aX P t=some r) (hk:r.k=.string):Dec P t pw:=⟨fun {H enc w fuel cs x} h=>by
 obtain⟨d,e1,e2,-⟩:=xh hT;rw[hk] at e2;(cases d<;>simp[kindOf] at e2);obtain⟨n,rfl⟩:=C2 h;unfold DataW.trod at h;rw[e1] at h;dsimp only at h;split at h
 all_goals first|(split at h;exact⟨_,rfl,by assumption⟩;cases h;done)|(simp_all;done)⟩
theorem Bn {w:World} {g o:Nat} {vs:List Value} (ix:0<vs.length) (hc:∀k,k<vs.length→w.cell? ⟨g,o+k,none⟩=vs[k]?):Row w.heap g o vs:=by
 have h0:=hc 0 ix
 have key:∃c T fr,w.heap[g]? =some (.cells c T fr):=by
  unfold World.cell? at h0;split at h0
  ·exact⟨_,_,_,by assumption⟩
  ·rw[b9 ix] at h0;cases h0
 obtain⟨c,T,fr,hg⟩:=key;refine⟨c,T,fr,hg,?_⟩
 have hk:∀k,k<vs.length→c.toList[o+k]? =vs[k]? :=fun k hk=>by
  have:=hc k hk;simp[World.cell?,hg] at this;simpa using this
 apply List.ext_getElem?;intro k;rcases Nat.lt_or_ge k vs.length with hl|hl
 ·rw[List.getElem?_take,aq hl,List.getElem?_drop,hk k hl]
 ·rw[List.getElem?_eq_none hl,List.getElem?_eq_none (by simp;omega)]
theorem vz {α:Type} {s:Nat}:∀{rows:List (List α)},(∀r∈rows,r.length=s)→∀i j,i<rows.length→j<s→rows.flatten[i*s+j]? =(rows[i]?).bind (·[j]?)
 |[],_,i,_,hi,_=>by simp at hi
 |r::rows,hr,0,j,_,hj=>by
  have:=hr r (by simp);simp[List.getElem?_append_left (show j<r.length by omega)]
 |r::rows,hr,i+1,j,hi,hj=>by
  have h1:=hr r (by simp);have h2:=vz (rows:=rows) (fun r' ny=>hr r' (List.mem_cons_of_mem _ ny)) i j (by simpa using hi) hj;simp only[List.flatten_cons];rw[List.getElem?_append_right (by rw[h1,Nat.succ_mul];omega),h1,show (i+1)*s+j-s=i*s+j by rw[Nat.succ_mul];omega,h2];simp
theorem mN {α:Type} {s:Nat}:∀{rows:List (List α)},(∀r∈rows,r.length=s)→rows.flatten.length=rows.length*s
 |[],_=>by simp
 |r::rows,hr=>by
  have h:=mN (rows:=rows) (fun r' ny=>hr r' (List.mem_cons_of_mem _ ny));rw[List.flatten_cons,bq,h,hr r (by simp),bF,Nat.succ_mul];omega
def bV {α:Type} (s:Nat) (R:RT α) (σ:PH) (v:Value) (xs:List α):Prop:=
 ∃(p:Option Addr) (c:Nat) (rows:List (List Value)),v=.slice p xs.length c∧xs.length≤c∧c≤maxLen∧rows.length=xs.length∧(∀row∈rows,row.length=s)∧(∀(i:Nat) (row:List Value) (x:α),rows[i]? =some row→xs[i]? =some x→R σ row x)∧(0<xs.length→∃g o,p=some ⟨g,o,none⟩∧cH σ g o rows.flatten)
theorem bV.shape {α:Type} {s:Nat} {R:RT α} {σ:PH} {v:Value} {xs:List α} (h:bV s R σ v xs):∃p c,v=.slice p xs.length c∧xs.length≤c∧c≤maxLen:=by
 obtain⟨p,c,rows,h1,h2,h3,-⟩:=h;exact⟨p,c,h1,h2,h3⟩
theorem bV.at {α:Type} {s n c:Nat} {R:RT α} {σ:PH} {p:Option Addr} {xs:List α} (h:bV s R σ (.slice p n c) xs) {k:Nat} {x:α} (hk:xs[k]? =some x):∃g o row,p=some ⟨g,o,none⟩∧R σ row x∧row.length=s∧cH σ g (o+k*s) row:=by
 obtain⟨p',c',rows,h1,h2,h3,h4,h5,h6,h7⟩:=h;simp only[Value.slice.injEq] at h1;obtain⟨rfl,rfl,rfl⟩:=h1;have aV:=(List.getElem?_eq_some_iff.1 hk).1;obtain⟨g,o,rfl,hr⟩:=h7 (by omega);have hrk:rows[k]? =some rows[k]:=b9 (by omega);have hl:=h5 _ (fg hrk);refine⟨g,o,rows[k],rfl,h6 k _ x hrk hk,hl,hr.sub (j:=k*s) ?_⟩
 have key:∀(rows:List (List Value)),(∀row∈rows,row.length=s)→∀(k:Nat) (row:List Value),rows[k]? =some row→(rows.flatten.drop (k*s)).take row.length=row:=by
  intro rows hr k row hk;have:=pC (fun r:List Value=>r) s rows hr k row hk;simpa[List.flatMap] using this
 exact key rows h5 k _ hrk
def rSl {α:Type} (s:Nat) (R:RT α):RT (List α):=fun σ cs xs=>∃v,cs=[v]∧bV s R σ v xs
theorem Fw {α:Type} {s len cap:Nat} {R:RT α} {w:World} {a:Addr} (I3:0<s) (hle:len≤cap) (Bo:cap≤maxLen) (bG:∀i,i<len→∃row,row.length=s∧(∀j,j<s→w.cell? ((a.add (i*s)).add j)=row[j]?)∧∃y,R (ie w.heap) row y):
 ∃y,rSl s R (ie w.heap) [.slice (some a) len cap] y:=by
 obtain⟨rows,ys,E5,WY,Vo⟩:∃(rows:List (List Value)) (ys:List α),rows.length=len∧ys.length=len∧∀i,i<len→∃row y,rows[i]? =some row∧ys[i]? =some y∧row.length=s∧(∀j,j<s→w.cell? ((a.add (i*s)).add j)=row[j]?)∧R (ie w.heap) row y:=by
  induction len with
  |zero=>exact⟨[],[],rfl,rfl,fun i hi=>absurd hi (Nat.not_lt_zero _)⟩
  |succ n ih=>
   obtain⟨rows,ys,h1,h2,h3⟩:=ih (by omega) (fun i hi=>bG i (by omega));obtain⟨row,r1,r2,y,r3⟩:=bG n (by omega);refine⟨rows++[row],ys++[y],by simp[h1],by simp[h2],fun i hi=>?_⟩;rcases Nat.lt_or_ge i n with hl|hl
   ·obtain⟨C3,y',q1,q2,q3⟩:=h3 i hl;exact⟨C3,y',by rw[List.getElem?_append_left (by omega)];exact q1,by rw[List.getElem?_append_left (by omega)];exact q2,q3⟩
   ·(have:i=n:=by omega);subst this;exact⟨row,y,by rw[List.getElem?_append_right (by omega),h1];simp,by rw[List.getElem?_append_right (by omega),h2];simp,r1,r2,r3⟩
 have bu:∀row∈rows,row.length=s:=fun row hm=>by
  obtain⟨i,hi,rfl⟩:=List.mem_iff_getElem.1 hm;obtain⟨C3,y,q1,-,q3,-⟩:=Vo i (by omega);rw[b9 hi] at q1;simp only[Option.some.injEq] at q1;rw[q1];exact q3
 refine⟨ys,_,rfl,some a,cap,rows,by rw[WY],by omega,Bo,by omega,bu,fun i row y q1 q2=>?_,fun uB=>?_⟩
 ·obtain⟨C3,y',p1,p2,-,-,p5⟩:=Vo i (by rw[←E5];exact(List.getElem?_eq_some_iff.1 q1).1);rw[q1] at p1;rw[q2] at p2;simp only[Option.some.injEq] at p1 p2;subst p1;subst p2;exact p5
 ·rw[WY] at uB
  have hsp:a.spot=none:=by
   obtain⟨row,y,q1,-,q3,q4,-⟩:=Vo 0 uB;have:=q4 0 I3;rw[Nat.zero_mul] at this;simp only[Addr.add,if_true] at this;rw[b9 (by omega)] at this;unfold World.cell? at this;split at this
   ·cases hq:a.spot with
    |none=>rfl
    |some z=>rw[hq] at this;simp at this
   ·cases this
  obtain⟨g,o,sp⟩:=a;simp only at hsp;subst hsp;refine⟨g,o,rfl,cH.of (Bn (by rw[mN bu,E5];exact Nat.mul_pos uB I3) fun k hk=>?_)⟩;rw[mN bu,E5] at hk;have hi:k/s<len:=Nat.div_lt_of_lt_mul (by rw[Nat.mul_comm];exact hk);have hj:k%s<s:=Nat.mod_lt _ I3;obtain⟨row,y,q1,-,q3,q4,-⟩:=Vo (k/s) hi;have h1:=q4 (k%s) hj;rw[addr_add,addr_add] at h1;(have hdm:k/s*s+k%s=k:=by rw[Nat.mul_comm];exact Nat.div_add_mod k s);rw[show o+k/s*s+k%s=o+k by omega] at h1;rw[h1];have:=vz bu (k/s) (k%s) (by omega) hj;rw[hdm] at this;rw[this,q1];rfl
theorem Dec.slice {α:Type} {r re:Ty} {s:Nat} {R:RT α} (hT:aX P t=some r) (hk:r.k=.slice e) (hE:aX P e=some re) (hs:re.size=s) (I3:0<s) (hd:Dec P e R):Dec P t (rSl s R):=⟨fun {H enc w fuel cs x} h=>by
 obtain⟨d,e1,e2,-⟩:=xh hT;obtain⟨d',-,-,e3⟩:=xh hE;rw[hk] at e2;(cases d<;>simp[kindOf] at e2);subst e2;obtain⟨rfl,-⟩|⟨a,len,cap,elems,rest,n,rfl,rfl,-,-,hle,Bo,hlen,Om,-,-⟩:=DataW.trod_slice e1 h
 ·exact⟨[],_,rfl,none,0,[],rfl,bX _,by simp[maxLen],rfl,by simp,by simp,by simp⟩
 ·rw[e3,hs] at Om
  have bG:∀i,i<len→∃row,row.length=s∧(∀j,j<s→w.cell? ((a.add (i*s)).add j)=row[j]?)∧∃y,R (ie w.heap) row y:=fun i hi=>by
   have hy:=Om i hi;rw[b9 (by omega)] at hy;simp only[Option.bind_eq_some_iff] at hy;obtain⟨row,h1,h2⟩:=hy;obtain⟨-,h3,h4⟩:=World.cells?_some h1;exact⟨row,h3,h4,hd.out h2⟩
  exact Fw I3 hle Bo bG⟩
theorem bV.mono {α:Type} {s:Nat} {R:RT α} {σ aj:PH} {v:Value} {xs:List α} (hs:σ.sub aj) (hR:∀cs x,R σ cs x→R aj cs x) (h:bV s R σ v xs):bV s R aj v xs:=by
 obtain⟨p,c,rows,h1,h2,h3,h4,h5,h6,h7⟩:=h;exact⟨p,c,rows,h1,h2,h3,h4,h5,fun i row x a b=>hR _ _ (h6 i row x a b),fun hp=>by obtain⟨g,o,e,r⟩:=h7 hp;exact⟨g,o,e,r.mono hs⟩⟩
theorem bV.nil {α:Type} (s:Nat) (R:RT α) (σ:PH):bV s R σ (.slice none 0 0) []:=⟨none,0,[],rfl,bX _,by simp[maxLen],rfl,by simp,by simp,by simp⟩
theorem C4 {fid:FuncId} {args:Array Value} {h:Heap} (hc:ah P fid args (ie h) [] (aA fun v aj _=>v=.bool true∧(ie h).sub aj)):js P fid args h (Ret fun v h'=>v=.bool true∧Ext h h'):=by
 have hh:Holds (ie h) [] PH.none h:=⟨PH.none,trivial,PH.none_le h,z8 h,PH.none_le h,(PH.ez _).symm,PH.ez _,PH.ez _⟩;refine js.mono (hc.2 PH.none h hh) ?_;rintro e h' ⟨aj,al,hr,kR⟩
 cases e with
 |returned v=>
  obtain⟨rfl,hs⟩:=hr;have hle:=hs.le kR.Fu;refine⟨rfl,?_,fun k hk=>?_⟩
  ·rcases Nat.lt_or_ge h'.size h.size with hl|hl
   ·have:=hle.lt (k:=h'.size) (o:=h[h'.size]) (by simp[ie,hl]);omega
   ·exact hl
  ·rw[Array.getElem?_eq_getElem hk];exact hle k _ (by simp[ie,hk])
 |panicked c=>exact hr
 |outgrown=>exact hr
end X
end Go.Proofs.YtgeoiflbjcehcaaGreatDoor
namespace Go.Proofs.YtgeoiflbjcehcaaGreatDoor
open Go X Go.ChangeShapes Go.WideShapes Go.ChangeAt Go.RowKit
theorem Tryz.own:ownKnob Tryz.prog.godebug=none:=by kernel_rfl
theorem Tryz.laidOut:laidOutB Tryz.prog=true:=by kernel_rfl
namespace X
end X
end Go.Proofs.YtgeoiflbjcehcaaGreatDoor
namespace Go.Proofs.YtgeoiflbjcehcaaGreatDoor
namespace X
open Go
variable {P:Program} {N:Nat} {ρ:Env} {σ:PH} {Γ al:List HP} {K:KA}
structure nr (P:Program) (N n:Nat) (c:Code) (ρ:Env) (σ:PH) (Γ:List HP) (K:KA):Prop where
 out:∀f h,Holds σ Γ f h→∀(w0:World) (a:Act) (w:World),gC w0 w→w.heap=h→e9 N a ρ→Code.rounds P c (ph w0 a.defers N (KF f K)) n a w
theorem XA.ij {c:Code} (n:Nat) (hx:nr P N n c ρ σ Γ K):XA P N (.loop c) ρ σ Γ K:=⟨fun f h hh=>⟨fun w0 a w hs hw he=>wp_loop_rounds n (hx.out f h hh w0 a w hs hw he)⟩⟩
theorem nr.succ {n:Nat} {c:Code} (hx:XA P N c ρ σ Γ (qZ (fun ρ σ Γ=>nr P N n c ρ σ Γ K) K)):nr P N (n+1) c ρ σ Γ K:=by
 refine⟨fun f h hh w0 a w hs hw he=>?_⟩;refine wp_mono ((hx.out f h hh).out w0 a w hs hw he) ?_;rintro e a' w' ⟨h1,h2,er,h3,aj,al,hk,kR⟩
 cases e with
 |normal=>have:=hk.out f w'.heap kR w0 a' w' h2 rfl h3;rw[h1] at this;exact this
 |_=>exact⟨h1,h2,er,h3,aj,al,hk,kR⟩
theorem aB.five {fn:Func} {t1 t2 t3 t4 t5:Tmp} {v1 v2 v3 v4 v5:Value} (hf:fn.results=#[.tmp t1,.tmp t2,.tmp t3,.tmp t4,.tmp t5]) (h1:ρ t1=v1) (h2:ρ t2=v2) (h3:ρ t3=v3) (h4:ρ t4=v4) (h5:ρ t5=v5):aB P fn ρ σ Γ (.tuple #[v1,v2,v3,v4,v5]):=fun _ _ w a _ he=>by
 have k1:=he.get t1;have k2:=he.get t2;have k3:=he.get t3;have k4:=he.get t4;have k5:=he.get t5;simp[results,hf];rw[←h1,←h2,←h3,←h4,←h5];simp at k1 k2 k3 k4 k5;simp[k1,k2,k3,k4,k5]
theorem Rd.aav {S:Heap→Prop} {ty T T':TypeId} {x y:Operand} {kk:IntKind} {a b c:Int} (hx:ev ρ x=.int kk a) (hy:ev ρ y=.int kk b) (hc:kk.wrap (a-b)=c):Rd P ρ S (.binOp .sub T x y T') ty (.int kk c):=hc▸Rd.sub hx hy
theorem Rd.lE {S:Heap→Prop} {ty T T' e:TypeId} {x:Operand} {r:Ty} {a:Option Addr} (hT:aX P T=some r) (hk:r.k=.pointer e) (hx:ev ρ x=.pointer a):Rd P ρ S (.binOp .neq T x (.const (.pointer none)) T') ty (.bool (!a.isNone)):=by
 (refine .pure fun d pos af gd w=>?_);obtain⟨dd,i,z,e1,e2,-⟩:=aF hT;rw[hk] at e2;(cases dd<;>simp[kindOf] at e2);rw[e2] at e1;(have hp:P.underlying T=some (.pointer (P.pointee T)):=by simp[Program.pointee,e1]);have h1:=run_equal_pointer_nil (P:=P) w T a hp;simp only[execOp,eqGuard,hx,ev,binOp,Sem.run_bind];simp[h1]
def a7 (σ:PH) (v:Value) (xs:List Int):Prop:=∃(p:Option Addr) (c:Nat),v=.slice p xs.length c∧xs.length≤c∧c≤maxLen∧(0<xs.length→∃g o,p=some ⟨g,o,none⟩∧cH σ g o (ints xs))
theorem a7.mono {aj:PH} (s:σ.sub aj) {v:Value} {xs:List Int} (h:a7 σ v xs):a7 aj v xs:=by
 obtain⟨p,c,h1,h2,h3,h4⟩:=h;exact⟨p,c,h1,h2,h3,fun hp=>by obtain⟨g,o,e,r⟩:=h4 hp;exact⟨g,o,e,r.mono s⟩⟩
theorem a7.nil (σ:PH):a7 σ (.slice none 0 0) []:=⟨none,0,rfl,bX _,by simp[maxLen],by simp⟩
theorem a7.at {p:Option Addr} {n c:Nat} {xs:List Int} (h:a7 σ (.slice p n c) xs) {k:Nat} {x:Int} (hk:xs[k]? =some x):∃g o,p=some ⟨g,o,none⟩∧cH σ g (o+k*1) [i64 x]:=by
 obtain⟨p',c',h1,h2,h3,h4⟩:=h;simp only[Value.slice.injEq] at h1;obtain⟨rfl,rfl,rfl⟩:=h1;have aV:=(List.getElem?_eq_some_iff.1 hk).1;obtain⟨g,o,rfl,hr⟩:=h4 (by omega);refine⟨g,o,rfl,?_⟩;rw[Nat.mul_one];refine hr.sub (j:=k) ?_;obtain⟨h5,h6⟩:=List.getElem?_eq_some_iff.1 hk
 have:(ints xs).drop k=i64 x::(ints xs).drop (k+1):=by
  rw[List.drop_eq_getElem_cons (by simpa using h5)];simp[ints,h6]
 rw[this];rfl
theorem a7.tail {p:Option Addr} {n c:Nat} {x:Int} {xs:List Int} (h:a7 σ (.slice p n c) (x::xs)):a7 σ (.slice (if c=1 then p else p.map (·.add (1*1))) (n-1) (c-1)) xs:=by
 obtain⟨p',c',h1,h2,h3,h4⟩:=h;simp only[Value.slice.injEq,bF] at h1 h2 h4;obtain⟨rfl,rfl,rfl⟩:=h1;refine⟨_,_,by rw[Nat.add_sub_cancel],by omega,by omega,fun hp=>?_⟩;obtain⟨g,o,rfl,hr⟩:=h4 (by omega);rw[ag (by omega)];exact⟨g,o+1,by simp[addr_add],hr.sub (j:=1) (by simp[ints];rw[List.take_of_length_le (by simp)])⟩
theorem a7.shape {v:Value} {xs:List Int} (h:a7 σ v xs):∃p c,v=.slice p xs.length c∧xs.length≤c∧c≤maxLen:=by
 obtain⟨p,c,h1,h2,h3,h4⟩:=h;exact⟨p,c,h1,h2,h3⟩
theorem Ab {e n:Nat} {v:Value} {xs:List Int} {m:PH} (h:aS e 1 v n (ints xs) m):a7 m v xs:=by
 obtain⟨h1,⟨rfl,rfl⟩|⟨g,cap,rfl,cur,h3,h4,h5,h6,h7⟩⟩:=h
 ·(have:xs=[]:=by(have h1:(ints xs).length=0:=by simpa using h1);(simpa using h1));subst this;exact a7.nil _
 ·(have hn:xs.length=n:=by simpa using h1);subst hn;exact⟨_,_,rfl,h4,h5,fun _=>⟨g,0,rfl,cH.K0 h3 (by simpa using h7)⟩⟩
theorem Rd.uC {S:Heap→Prop} {ty:TypeId} {T:TypeId} {x y:Operand} {r re:Ty} {e len cap:Nat} {a:Option Addr} {kk:IntKind} (hT:aX P T=some r) (hk:r.k=.slice e) (hE:aX P e=some re) (bz:re.size=1) (hx:ev ρ x=.slice a len cap) (hy:ev ρ y=.int kk 1) (hl:1≤len):Rd P ρ S (.slice T x (some y) none none) ty (.slice (if cap=1 then a else a.map (·.add (1*1))) (len-1) (cap-1)):=by
 have h:=Rd.qx (P:=P) (ρ:=ρ) (S:=S) (ty:=ty) (lo:=some y) (hi:=none) (mx:=none) (l:=1) (hh:=len) (m:=cap) hT hk hE hx (fun w=>by
  have hb:=fun c w=>sP (P:=P) (y:=len) (c:=c) (kk:=kk) (i:=1) (by decide) (by omega) w
  simp[Instr.sliceBounds,hy,hb])
 rw[bz] at h;exact h
theorem ax.og {T e:TypeId} {x y:Operand} {ty:TypeId} {r re:Ty} {n m c g o:Nat} {p0:Option Addr} {xs news:List Value} (hT:aX P T=some r) (hk:r.k=.slice e) (hE:aX P e=some re) (hz:re.zero.length=re.size)
 (hs:ev ρ x=.slice p0 n n) (hy:ev ρ y=.slice (some ⟨g,o,none⟩) m c) (hx:∀j u,xs[j]? =some u→∃g0 o0,p0=some ⟨g0,o0,none⟩∧sQ (Ho σ Γ) g0 (o0+j) u) (hp:p0=none→n=0) (O6:xs.length=n*re.size) (bG:At (Ho σ Γ) g o news)
 (hl:news.length=m*re.size) (h1:dT news) (hm:0<m) (ze:n+m≤maxLen) (hb:(n+m)*re.bytes≤140737488355328):
 ax P ρ σ Γ (.call {callee:=.builtin .append,args:=#[x,y],argTypes:=#[T,T]}) ty (fun v' aj Δ=>∃p c,v'=.slice p (n+m) c∧σ=aj∧Δ=aS e re.size (.slice p (n+m) c) (n+m) (xs++news)::Γ) ig:=
 ⟨fun f h hh=>⟨fun d pos af gd a w next Q' he hw hn Sv=>by
  have h4:Holds σ (aS e re.size (.slice none 0 0) 0 []::Γ) f h:=hh.eX (ar.dU (ar.refl _))
  exact(Wr.og hT hk hE hz (fun j u hu=>by obtain⟨g0,o0,e0,hc⟩:=hx j u hu;exact⟨g0,o0,e0,hc.out h hh.ho⟩) hp O6 hs (bG.out h hh.ho) hy hl h1 hm ze hb).out d pos af gd a w next Q' he hw (fun v' w' sm q=>by
   obtain⟨p,c,rfl⟩:=q.1.shape
   exact hn _ w' sm ⟨σ,_,⟨p,c,rfl,rfl,rfl⟩,h4.app .head (q.1.V7 (fun g _ hg=>.inr hg)) q.2⟩) (fun _ _ _ q=>q.elim)⟩⟩
theorem ax.Jb {T e:TypeId} {x y:Operand} {ty:TypeId} {r re:Ty} {m c g o:Nat} {news:List Value} (hT:aX P T=some r) (hk:r.k=.slice e) (hE:aX P e=some re) (hz:re.zero.length=re.size)
 (hs:ev ρ x=.slice none 0 0) (hy:ev ρ y=.slice (some ⟨g,o,none⟩) m c) (bG:At (Ho σ Γ) g o news)
 (hl:news.length=m*re.size) (h1:dT news) (hm:0<m) (ze:m≤maxLen) (hb:m*re.bytes≤140737488355328):
 ax P ρ σ Γ (.call {callee:=.builtin .append,args:=#[x,y],argTypes:=#[T,T]}) ty (fun v' aj Δ=>∃p c,v'=.slice p m c∧σ=aj∧Δ=aS e re.size (.slice p m c) m news::Γ) ig:=by
 have h:=ax.og (P:=P) (ρ:=ρ) (σ:=σ) (Γ:=Γ) (ty:=ty) (p0:=none) (n:=0) (xs:=[]) hT hk hE hz hs hy (fun j u h=>by simp at h) (fun _=>rfl) (by simp) bG hl h1 hm (by omega) (by simpa using hb);simpa only[Nat.zero_add,List.nil_append] using h
theorem Bp {g:Nat} {l:List Value} {T:TypeId}:∀m,aw g l T m→∃_:Unit,cH m g 0 l:=fun m h=>⟨(),cH.K0 h (by simp)⟩
theorem oh {g:Nat} {l:List Value}:∀(_:Unit) (m m':PH),cH m g 0 l→m.sub m'→cH m' g 0 l:=fun _ _ _ h s=>h.mono s
theorem xi {α:Type} {l:List α} {k:Nat} {x:α} (h:l[k]? =some x):l.drop k=x::l.drop (k+1):=by
 obtain⟨h1,h2⟩:=List.getElem?_eq_some_iff.1 h;rw[List.drop_eq_getElem_cons h1,h2]
theorem Ac {α:Type} {l:List α} {k:Nat} {x:α} (hk:l[k]? =some x):l.take (k+1)=l.take k++[x]:=by rw[List.take_add_one,hk];rfl
theorem k6 (rows:List (List Value)) (r:List Value):(rows++[r]).flatten=rows.flatten++r:=by simp
theorem Rd.om {S:Heap→Prop} {T e:TypeId} {x y:Operand} {ty:TypeId} {r re:Ty} {n c c':Nat} {p q:Option Addr} (hT:aX P T=some r) (hk:r.k=.slice e) (hE:aX P e=some re) (hx:ev ρ x=.slice p n c) (hy:ev ρ y=.slice q 0 c') (CV:n≤c):
 Rd P ρ S (.call {callee:=.builtin .append,args:=#[x,y],argTypes:=#[T,T]}) ty (.slice p n c):=by
 (refine .pure fun d pos af gd w=>?_);obtain⟨dd,i,z,e1,e2,-⟩:=aF hT;obtain⟨wW,i',z',sA,rI,mH,oa,-⟩:=aF hE;rw[hk] at e2;(cases dd<;>simp[kindOf] at e2);rw[e2] at e1;(have hl:∀w':World,(Builtin.lenOf (.slice q 0 c')).run P w'=.ok 0 w':=fun w'=>by simp[Builtin.lenOf]);(have hf:(Builtin.firstCells i'.size 0 (.slice q 0 c')).run P w=.ok #[] w:=by cases q<;>simp[Builtin.firstCells,loadCells,loadCellsFrom]);(have h:(Builtin.append_ #[T,T] ty #[.slice p n c,.slice q 0 c']).run P w=.ok (.slice p n c) w:=by cases p<;>simp[Builtin.append_,run_underlying e1,sizeOf,typeInfo,mH,hl,CV,hf,storeCells]);simp only[execOp,resolve,invoke,builtin,Sem.run_bind,Sem.run_pure,Result.andThen_ok,List.map_toArray,List.map_cons,List.map_nil,hx,hy,h]
theorem cm {e size n c:Nat} {p:Option Addr} {xs:List Value}:∀m,aS e size (.slice p n c) n xs m→∃_:Unit,n≤c∧c≤maxLen∧xs.length=n*size∧(0<n→∃g o,p=some ⟨g,o,none⟩∧cH m g o xs):=by
 rintro m ⟨h1,⟨h2,rfl⟩|⟨g,cap,h2,cur,h3,h4,h5,h6,h7⟩⟩
 ·simp only[Value.slice.injEq] at h2;obtain⟨rfl,-,rfl⟩:=h2;exact⟨(),bX _,by simp[maxLen],h1,fun h=>absurd h (Nat.lt_irrefl _)⟩
 ·simp only[Value.slice.injEq] at h2;obtain⟨rfl,-,rfl⟩:=h2;exact⟨(),h4,h5,h1,fun _=>⟨g,0,rfl,cH.K0 h3 (by rw[h1];simpa using h7)⟩⟩
theorem aH {n c k:Nat} {p:Option Addr} {xs:List Value}:∀(_:Unit) (m m':PH),(n≤c∧c≤maxLen∧xs.length=k∧(0<n→∃g o,p=some ⟨g,o,none⟩∧cH m g o xs))→m.sub m'→(n≤c∧c≤maxLen∧xs.length=k∧(0<n→∃g o,p=some ⟨g,o,none⟩∧cH m' g o xs)):=
 fun _ _ _ ⟨h1,h2,h3,h4⟩ s=>⟨h1,h2,h3,fun h=>by obtain⟨g,o,e,r⟩:=h4 h;exact⟨g,o,e,r.mono s⟩⟩
structure cN {α:Type} (s:Nat) (R:RT α) (σ:PH) (rows:List (List Value)) (xs:List α):Prop where
 len:rows.length=xs.length
 size:∀row∈rows,row.length=s
 row:∀(i:Nat) (row:List Value) (x:α),rows[i]? =some row→xs[i]? =some x→R σ row x
theorem cN.nil {α:Type} (s:Nat) (R:RT α) (σ:PH):cN s R σ [] []:=⟨rfl,by simp,by simp⟩
theorem cN.mono {α:Type} {s:Nat} {R:RT α} {σ aj:PH} {rows:List (List Value)} {xs:List α} (h:cN s R σ rows xs) (hR:∀cs x,R σ cs x→R aj cs x):cN s R aj rows xs:=⟨h.len,h.size,fun i row x a b=>hR _ _ (h.row i row x a b)⟩
theorem cN.snoc {α:Type} {s:Nat} {R:RT α} {σ:PH} {rows:List (List Value)} {xs:List α} (h:cN s R σ rows xs) {row:List Value} {x:α} (hl:row.length=s) (hr:R σ row x):cN s R σ (rows++[row]) (xs++[x]):=by
 refine⟨by simp[h.len],fun r hm=>?_,fun i r y a b=>?_⟩
 ·simp only[List.mem_append,List.mem_singleton] at hm;rcases hm with hm|rfl
  ·exact h.size r hm
  ·exact hl
 ·rcases Nat.lt_or_ge i rows.length with hi|hi
  ·rw[List.getElem?_append_left hi] at a;rw[List.getElem?_append_left (by rw[←h.len];exact hi)] at b;exact h.row i r y a b
  ·rw[List.getElem?_append_right hi] at a;rw[List.getElem?_append_right (by rw[←h.len];exact hi),←h.len] at b
   cases hq:i-rows.length with
   |zero=>rw[hq] at a b;simp at a b;subst a;subst b;exact hr
   |succ q=>rw[hq] at a;simp at a
theorem cN.Cx {α:Type} {s n c k:Nat} {R:RT α} {σ:PH} {rows:List (List Value)} {xs:List α} {p:Option Addr} (h:cN s R σ rows xs) (hn:n=xs.length) (hf:n≤c∧c≤maxLen∧rows.flatten.length=k∧(0<n→∃g o,p=some ⟨g,o,none⟩∧cH σ g o rows.flatten)):bV s R σ (.slice p n c) xs:=by
 subst hn;exact⟨p,c,rows,rfl,hf.1,hf.2.1,h.len,h.size,h.row,hf.2.2.2⟩
end X
end Go.Proofs.YtgeoiflbjcehcaaGreatDoor
namespace Go.Proofs.YtgeoiflbjcehcaaGreatDoor
open Go X
inductive Ex where
 |mk (op v n:Int) (l:List Ex)
inductive St where
 |mk (op v:Int) (e f:Ex) (body dn:List St)
structure Va where
 name:ByteArray
 size:Int
 deriving DecidableEq
structure Pr where
 vars:List Va
 body:List St
namespace Ex
def op:Ex→Int|.mk o _ _ _=>o
def v:Ex→Int|.mk _ v _ _=>v
def n:Ex→Int|.mk _ _ n _=>n
def l:Ex→List Ex|.mk _ _ _ l=>l
theorem ind {P:Ex→Prop} (h:∀op v n l,(∀x∈l,P x)→P (.mk op v n l)):∀x,P x
 |.mk op v n l=>h op v n l (fun x _=>ind h x)
end Ex
namespace St
def op:St→Int|.mk o _ _ _ _ _=>o
def v:St→Int|.mk _ v _ _ _ _=>v
def e:St→Ex|.mk _ _ e _ _ _=>e
def f:St→Ex|.mk _ _ _ f _ _=>f
def body:St→List St|.mk _ _ _ _ b _=>b
def dn:St→List St|.mk _ _ _ _ _ l=>l
theorem ind {P:St→Prop} (h:∀op v e f body dn,(∀x∈body,P x)→(∀x∈dn,P x)→P (.mk op v e f body dn)):∀x,P x
 |.mk op v e f body dn=>h op v e f body dn (fun x _=>ind h x) (fun x _=>ind h x)
end St
def aG (n:Int):Prop:=-9223372036854775808≤n∧n≤9223372036854775807
inductive dL (σ:PH):List Value→Ex→Prop
 |mk {op v n:Int} {l:List Ex} {p:Option Addr} {c:Nat} (rows:List (List Value)) (ho:aG op) (hv:aG v) (hn:aG n) (h1:l.length≤c) (h2:c≤maxLen) (h3:rows.length=l.length) (h4:∀row∈rows,row.length=4)
  (h5:∀(i:Nat) (row:List Value) (x:Ex),rows[i]? =some row→l[i]? =some x→dL σ row x) (h6:0<l.length→∃g o,p=some ⟨g,o,none⟩∧cH σ g o rows.flatten):
  dL σ [i64 op,i64 v,i64 n,.slice p l.length c] (.mk op v n l)
inductive dF (σ:PH):List Value→St→Prop
 |mk {op v:Int} {e f:Ex} {body dn:List St} {ce cf:List Value} {p q:Option Addr} {c d:Nat} (rows xj:List (List Value)) (ho:aG op) (hv:aG v) (he:dL σ ce e) (hf:dL σ cf f)
  (h1:body.length≤c) (h2:c≤maxLen) (h3:rows.length=body.length) (h4:∀row∈rows,row.length=12)
  (h5:∀(i:Nat) (row:List Value) (x:St),rows[i]? =some row→body[i]? =some x→dF σ row x) (h6:0<body.length→∃g o,p=some ⟨g,o,none⟩∧cH σ g o rows.flatten)
  (g1:dn.length≤d) (g2:d≤maxLen) (g3:xj.length=dn.length) (g4:∀row∈xj,row.length=12)
  (g5:∀(i:Nat) (row:List Value) (x:St),xj[i]? =some row→dn[i]? =some x→dF σ row x) (g6:0<dn.length→∃g o,q=some ⟨g,o,none⟩∧cH σ g o xj.flatten):
  dF σ (i64 op::i64 v::(ce++cf++[.slice p body.length c,.slice q dn.length d])) (.mk op v e f body dn)
theorem dL.inv {σ:PH} {cs:List Value} {x:Ex} (h:dL σ cs x):∃p c,cs=[i64 x.op,i64 x.v,i64 x.n,.slice p x.l.length c]∧aG x.op∧aG x.v∧aG x.n∧bV 4 dL σ (.slice p x.l.length c) x.l:=by
 cases h with
 |mk rows ho hv hn h1 h2 h3 h4 h5 h6=>exact⟨_,_,rfl,ho,hv,hn,_,_,rows,rfl,h1,h2,h3,h4,h5,h6⟩
theorem dL.of {σ:PH} {op v n:Int} {l:List Ex} {sl:Value} (ho:aG op) (hv:aG v) (hn:aG n) (h:bV 4 dL σ sl l):dL σ [i64 op,i64 v,i64 n,sl] (.mk op v n l):=by
 obtain⟨p,c,rows,rfl,h1,h2,h3,h4,h5,h6⟩:=h;exact .mk rows ho hv hn h1 h2 h3 h4 h5 h6
theorem dL.len {σ:PH} {cs:List Value} {x:Ex} (h:dL σ cs x):cs.length=4:=by cases h;rfl
theorem dF.inv {σ:PH} {cs:List Value} {x:St} (h:dF σ cs x):∃ce cf p c q d,cs=i64 x.op::i64 x.v::(ce++cf++[.slice p x.body.length c,.slice q x.dn.length d])∧aG x.op∧aG x.v∧dL σ ce x.e∧dL σ cf x.f∧bV 12 dF σ (.slice p x.body.length c) x.body∧bV 12 dF σ (.slice q x.dn.length d) x.dn:=by
 cases h with
 |mk rows xj ho hv he hf h1 h2 h3 h4 h5 h6 g1 g2 g3 g4 g5 g6=>exact⟨_,_,_,_,_,_,rfl,ho,hv,he,hf,⟨_,_,rows,rfl,h1,h2,h3,h4,h5,h6⟩,⟨_,_,xj,rfl,g1,g2,g3,g4,g5,g6⟩⟩
theorem dF.of {σ:PH} {op v:Int} {e f:Ex} {ce cf:List Value} {body dn:List St} {sb se:Value} (ho:aG op) (hv:aG v) (he:dL σ ce e) (hf:dL σ cf f) (hb:bV 12 dF σ sb body) (hl:bV 12 dF σ se dn):
 dF σ (i64 op::i64 v::(ce++cf++[sb,se])) (.mk op v e f body dn):=by
 obtain⟨p,c,rows,rfl,h1,h2,h3,h4,h5,h6⟩:=hb;obtain⟨q,d,xj,rfl,g1,g2,g3,g4,g5,g6⟩:=hl;exact .mk rows xj ho hv he hf h1 h2 h3 h4 h5 h6 g1 g2 g3 g4 g5 g6
theorem dF.len {σ:PH} {cs:List Value} {x:St} (h:dF σ cs x):cs.length=12:=by
 obtain⟨ce,cf,p,c,q,d,rfl,-,-,he,hf,-⟩:=h.inv;simp[he.len,hf.len]
theorem dL.dT {σ:PH} {cs:List Value} {x:Ex} (h:dL σ cs x):X.dT cs:=by
 obtain⟨p,c,rfl,-⟩:=h.inv;exact kz rfl
theorem dF.Ad {σ:PH} {cs:List Value} {x:St} (h:dF σ cs x):∃pe de pf df p c q d,cs=[i64 x.op,i64 x.v,i64 x.e.op,i64 x.e.v,i64 x.e.n,.slice pe x.e.l.length de,i64 x.f.op,i64 x.f.v,i64 x.f.n,.slice pf x.f.l.length df,.slice p x.body.length c,.slice q x.dn.length d]∧
 aG x.op∧aG x.v∧dL σ [i64 x.e.op,i64 x.e.v,i64 x.e.n,.slice pe x.e.l.length de] x.e∧dL σ [i64 x.f.op,i64 x.f.v,i64 x.f.n,.slice pf x.f.l.length df] x.f∧bV 12 dF σ (.slice p x.body.length c) x.body∧bV 12 dF σ (.slice q x.dn.length d) x.dn:=by
 obtain⟨ce,cf,p,c,q,d,rfl,h1,h2,h3,h4,h5,h6⟩:=h.inv;obtain⟨pe,de,rfl,-⟩:=h3.inv;obtain⟨pf,df,rfl,-⟩:=h4.inv;exact⟨pe,de,pf,df,p,c,q,d,rfl,h1,h2,h3,h4,h5,h6⟩
theorem dF.dT {σ:PH} {cs:List Value} {x:St} (h:dF σ cs x):X.dT cs:=by
 obtain⟨pe,de,pf,df,p,c,q,d,rfl,-⟩:=h.Ad;exact kz rfl
theorem dL.mono {σ aj:PH} (s:σ.sub aj) {cs:List Value} {x:Ex} (h:dL σ cs x):dL aj cs x:=by
 induction h with
 |mk rows ho hv hn h1 h2 h3 h4 h5 h6 ih=>exact .mk rows ho hv hn h1 h2 h3 h4 ih (fun hp=>by obtain⟨g,o,e,r⟩:=h6 hp;exact⟨g,o,e,r.mono s⟩)
theorem dF.mono {σ aj:PH} (s:σ.sub aj) {cs:List Value} {x:St} (h:dF σ cs x):dF aj cs x:=by
 induction h with
 |mk rows xj ho hv he hf h1 h2 h3 h4 h5 h6 g1 g2 g3 g4 g5 g6 ih jh=>
  exact .mk rows xj ho hv (he.mono s) (hf.mono s) h1 h2 h3 h4 ih (fun hp=>by obtain⟨g,o,e,r⟩:=h6 hp;exact⟨g,o,e,r.mono s⟩) g1 g2 g3 g4 jh (fun hp=>by obtain⟨g,o,e,r⟩:=g6 hp;exact⟨g,o,e,r.mono s⟩)
namespace X
structure aaw {α:Type} (n:Nat) (P:Program) (t:TypeId) (R:RT α):Prop where
 out:∀{H:Type} {enc:TypeId×Value→H} {w:World} {fuel:Nat} {cs:List Value} {x:DataW H×List MemPlace},fuel≤n→DataW.trod enc P w 0 (fun _=>true) true fuel t cs=some x→∃y,R (ie w.heap) cs y
variable {P:Program} {t e:TypeId} {α:Type}
theorem Dec.n {R:RT α} (h:Dec P t R) (n:Nat):aaw n P t R:=⟨fun _ hx=>h.out hx⟩
theorem Fx {r:Ty} (hT:aX P t=some r):P.cellsOf t=r.size:=by obtain⟨d,-,-,e3⟩:=xh hT;exact e3
theorem WZ {α:Type}:∀{l:List α},l.length=2→∃a b,l=[a,b]
 |[a,b],_=>⟨a,b,rfl⟩
end X
open X
def sB:RT Va:=fun _ cs v=>cs=[.string v.name,i64 v.size]∧aG v.size∧v.name.size≤maxLen
def gT (σ:PH) (cs:List Value) (p:Pr):Prop:=∃vs bs,cs=[vs,bs]∧bV 2 sB σ vs p.vars∧bV 12 dF σ bs p.body
theorem gT.mono {σ aj:PH} (s:σ.sub aj) {cs:List Value} {p:Pr} (h:gT σ cs p):gT aj cs p:=by
 obtain⟨vs,bs,rfl,h1,h2⟩:=h;exact⟨vs,bs,rfl,h1.mono s (fun _ _ h=>h),h2.mono s (fun _ _ h=>h.mono s)⟩
end Go.Proofs.YtgeoiflbjcehcaaGreatDoor
namespace Go.Proofs.YtgeoiflbjcehcaaGreatDoor
namespace X
open Go
variable {P:Program} {ρ:Env} {S:Heap→Prop} {ty:TypeId}
def aJ (s:ByteArray) (i:Nat):Nat:=if h:i<s.size then (s[i]'h).toNat else 0
theorem jv (s:ByteArray) (i:Nat):aJ s i<256:=by
 unfold aJ;split
 ·exact UInt8.toNat_lt _
 ·decide
theorem Rd.bh {T:TypeId} {x y:Operand} {r:Ty} {s:ByteArray} {i:Nat} {kk:IntKind} (hT:aX P T=some r) (hk:r.k=.string) (hx:ev ρ x=.string s) (hy:ev ρ y=.int kk i) (hi:i<s.size):Rd P ρ S (.index T x y) ty (.int .u8 (aJ s i)):=by
 (refine .pure fun d pos af gd w=>?_);obtain⟨dd,ii,z,e1,e2,-⟩:=aF hT;rw[hk] at e2;(cases dd<;>simp[kindOf] at e2);have h:=run_index_string (P:=P) w T s kk i e1;rw[dif_pos ⟨by omega,by omega⟩] at h;simp only[execOp,hx,hy,Sem.run_bind,h,Result.andThen_ok,Sem.run_pure,aJ,hi,dif_pos,Int.toNat_natCast]
theorem La (a b:ByteArray):(a.toList==b.toList)=decide (a=b):=by
 rw[ByteArray.toList_eq,ByteArray.toList_eq];obtain⟨⟨x⟩⟩:=a;obtain⟨⟨y⟩⟩:=b;by_cases h:x=y
 ·subst h;simp
 ·simp[h]
theorem Rd.fE {T T':TypeId} {x y:Operand} {a b:ByteArray} (hx:ev ρ x=.string a) (hy:ev ρ y=.string b):Rd P ρ S (.binOp .eql T x y T') ty (.bool (decide (a=b))):=by
 (refine .pure fun d pos af gd w=>?_);simp only[execOp,eqGuard,hx,hy,binOp,Op.stringOp,Sem.run_bind,La];simp
theorem Rd.neqs {T T':TypeId} {x y:Operand} {a b:ByteArray} (hx:ev ρ x=.string a) (hy:ev ρ y=.string b):Rd P ρ S (.binOp .neq T x y T') ty (.bool (decide (a≠b))):=by
 (refine .pure fun d pos af gd w=>?_);simp only[execOp,eqGuard,hx,hy,binOp,Op.stringOp,Sem.run_bind,La];by_cases h:a=b<;>simp[h]
theorem Rd.max2 {x y:Operand} {a b:Int} {mE:Array TypeId} (hx:ev ρ x=i64 a) (hy:ev ρ y=i64 b):Rd P ρ S (.call {callee:=.builtin .max,args:=#[x,y],argTypes:=mE}) ty (i64 (if b>a then b else a)):=by
 (refine .pure fun d pos af gd w=>?_);simp[execOp,resolve,invoke,builtin,hx,hy,run_max_int2]
theorem Rd.min2 {x y:Operand} {a b:Int} {mE:Array TypeId} (hx:ev ρ x=i64 a) (hy:ev ρ y=i64 b):Rd P ρ S (.call {callee:=.builtin .min,args:=#[x,y],argTypes:=mE}) ty (i64 (if b<a then b else a)):=by
 (refine .pure fun d pos af gd w=>?_);simp[execOp,resolve,invoke,builtin,hx,hy,run_min_int2]
def Zc (v:Va):Value:=.agg [.string v.name,i64 v.size].toArray
end X
namespace X
open Go
section
variable {P:Program} {N:Nat} {ρ:Env} {σ:PH} {Γ:List HP} {K:KA} {all:Array Oper} {rest:List Oper} {o:Oper} {d:Option Nat} {ty T T':TypeId} {pos:String} {af:Array Edge} {g:Nat×Bool} {x y z:Operand} {n:Nat} {b:BinOp} {u:UnOp} {c:Call} {a:Array (Nat×Operand)}
theorem aax (h:az P N all (o::rest) ρ σ Γ K):az P N all (o::rest) ρ σ Γ K:=h
theorem aMv (h:az P N all (⟨d,.move x,ty,pos,af,none⟩::rest) ρ σ Γ K):az P N all (⟨d,.move x,ty,pos,af,none⟩::rest) ρ σ Γ K:=h
theorem aFa (h:az P N all (⟨d,.fieldAddr T x n,ty,pos,af,none⟩::rest) ρ σ Γ K):az P N all (⟨d,.fieldAddr T x n,ty,pos,af,none⟩::rest) ρ σ Γ K:=h
theorem aLd (h:az P N all (⟨d,.load T x,ty,pos,af,none⟩::rest) ρ σ Γ K):az P N all (⟨d,.load T x,ty,pos,af,none⟩::rest) ρ σ Γ K:=h
theorem aIx (h:az P N all (⟨d,.indexAddr T x y,ty,pos,af,none⟩::rest) ρ σ Γ K):az P N all (⟨d,.indexAddr T x y,ty,pos,af,none⟩::rest) ρ σ Γ K:=h
theorem aNc (h:az P N all (⟨d,.nilCheck x,ty,pos,af,none⟩::rest) ρ σ Γ K):az P N all (⟨d,.nilCheck x,ty,pos,af,none⟩::rest) ρ σ Γ K:=h
theorem aAs (h:az P N all (⟨d,.assign x,ty,pos,af,none⟩::rest) ρ σ Γ K):az P N all (⟨d,.assign x,ty,pos,af,none⟩::rest) ρ σ Γ K:=h
theorem aSt (h:az P N all (⟨d,.store T x y,ty,pos,af,none⟩::rest) ρ σ Γ K):az P N all (⟨d,.store T x y,ty,pos,af,none⟩::rest) ρ σ Γ K:=h
theorem aPk (h:az P N all (⟨d,.pick x y z,ty,pos,af,none⟩::rest) ρ σ Γ K):az P N all (⟨d,.pick x y z,ty,pos,af,none⟩::rest) ρ σ Γ K:=h
theorem aBo (h:az P N all (⟨d,.binOp b T x y T',ty,pos,af,none⟩::rest) ρ σ Γ K):az P N all (⟨d,.binOp b T x y T',ty,pos,af,none⟩::rest) ρ σ Γ K:=h
theorem aB1 (h:az P N all (⟨d,.binOp .eql T x y T',ty,pos,af,none⟩::rest) ρ σ Γ K):az P N all (⟨d,.binOp .eql T x y T',ty,pos,af,none⟩::rest) ρ σ Γ K:=h
theorem aB2 (h:az P N all (⟨d,.binOp .neq T x y T',ty,pos,af,none⟩::rest) ρ σ Γ K):az P N all (⟨d,.binOp .neq T x y T',ty,pos,af,none⟩::rest) ρ σ Γ K:=h
theorem aB3 (h:az P N all (⟨d,.binOp .lss T x y T',ty,pos,af,none⟩::rest) ρ σ Γ K):az P N all (⟨d,.binOp .lss T x y T',ty,pos,af,none⟩::rest) ρ σ Γ K:=h
theorem aB4 (h:az P N all (⟨d,.binOp .gtr T x y T',ty,pos,af,none⟩::rest) ρ σ Γ K):az P N all (⟨d,.binOp .gtr T x y T',ty,pos,af,none⟩::rest) ρ σ Γ K:=h
theorem aB5 (h:az P N all (⟨d,.binOp .add T x y T',ty,pos,af,none⟩::rest) ρ σ Γ K):az P N all (⟨d,.binOp .add T x y T',ty,pos,af,none⟩::rest) ρ σ Γ K:=h
theorem aUn (h:az P N all (⟨d,.unOp u T x,ty,pos,af,none⟩::rest) ρ σ Γ K):az P N all (⟨d,.unOp u T x,ty,pos,af,none⟩::rest) ρ σ Γ K:=h
theorem aEx (h:az P N all (⟨d,.extract x n,ty,pos,af,none⟩::rest) ρ σ Γ K):az P N all (⟨d,.extract x n,ty,pos,af,none⟩::rest) ρ σ Γ K:=h
theorem aCv (h:az P N all (⟨d,.convert T T' x,ty,pos,af,none⟩::rest) ρ σ Γ K):az P N all (⟨d,.convert T T' x,ty,pos,af,none⟩::rest) ρ σ Γ K:=h
theorem aBd (h:az P N all (⟨d,.build T a,ty,pos,af,none⟩::rest) ρ σ Γ K):az P N all (⟨d,.build T a,ty,pos,af,none⟩::rest) ρ σ Γ K:=h
theorem aCl (h:az P N all (⟨d,.call c,ty,pos,af,none⟩::rest) ρ σ Γ K):az P N all (⟨d,.call c,ty,pos,af,none⟩::rest) ρ σ Γ K:=h
theorem aGd {op:Op} (h:az P N all (⟨d,op,ty,pos,af,some g⟩::rest) ρ σ Γ K):az P N all (⟨d,op,ty,pos,af,some g⟩::rest) ρ σ Γ K:=h
theorem zst {al:List HP} {op:Op} (hr:ax P ρ σ Γ op ty (fun v' aj Δ=>v'=undef∧σ=aj∧Δ=al) ig) (k:az P N all rest (jz ρ d undef) σ al K) (hd:gu N d=true:=by exact rfl):az P N all (⟨d,op,ty,pos,af,none⟩::rest) ρ σ Γ K:=
 az.fw hd hr (fun _ _ _ ⟨a,b,c⟩=>by subst a;subst b;subst c;exact k)
end
theorem aay {P:Program} {N:Nat} {ρ:Env} {σ:PH} {Γ:List HP} {K:KA} {c:Operand} {y z:Code} (h:XA P N (.cond c y z) ρ σ Γ K):XA P N (.cond c y z) ρ σ Γ K:=h
structure KK (B:Prop):Prop where
 out:B
theorem zq0 {A B:Prop} (k:B) (h:KK B→A:=by
 (intro k
  first
  |(apply aMv;exact zA rfl k.out)
  |(apply aFa;exact zV rfl rfl k.out)
  |(apply aLd;first|exact zB rfl rfl (ae rfl) rfl k.out|exact zO rfl (Rd.Bl rfl) k.out)
  |(apply aNc;exact zO rfl (Rd.nilCheck rfl) k.out)
  |(apply aAs;exact zO rfl Rd.CZ k.out)
  |(apply aIx;first|exact zO rfl (Rd.K8 rfl rfl) k.out|exact zO rfl (Rd.ixA rfl rfl) k.out)
  |(apply aSt;exact zst (ax.st (ae rfl) rfl) k.out)
  |(apply aBo;first
   |(apply aB1;exact zO rfl (Rd.eql rfl rfl) k.out)
   |(apply aB2;exact zO rfl (Rd.neq rfl rfl) k.out)
   |(apply aB3;exact zO rfl (Rd.lss rfl rfl) k.out)
   |(apply aB4;exact zO rfl (Rd.gtr rfl rfl) k.out)
   |(apply aB5;exact zO rfl zI k.out)
   |exact zO rfl (Rd.leq rfl rfl) k.out
   |exact zO rfl (Rd.geq rfl rfl) k.out
   |exact zO rfl (by first|exact Rd.sbi rfl rfl|exact Rd.sub rfl rfl) k.out)
  |(apply aPk;exact zO rfl zP k.out)
  |(apply aCl;first|exact zO rfl (Rd.CP (ae rfl) rfl rfl) k.out|exact zO rfl (Rd.uv (ae rfl) rfl rfl) k.out)
  |(apply aUn;exact zO rfl zJ k.out)
  |(apply aEx;exact zO rfl (Rd.extract rfl rfl) k.out)
  |(apply aCv;exact zO rfl (Rd.cvI (ae rfl) (ae rfl) rfl rfl) k.out)
  |(apply aBd;exact zO rfl (Rd.bl (fun _ _=>ae) rfl rfl rfl) k.out))):A:=h ⟨k⟩
def SC:Nat→Nat→Nat→List (Nat×Kd)
 |_,0,_=>[]
 |i,n+1,c=>(i,match c%3 with|0=>.pu|1=>.rd|_=>.wr)::SC (i+1) n (c/3)
section
variable {P:Program} {N:Nat} {ρ:Env} {σ:PH} {Γ:List HP} {K:KA} {ops:Array Oper} {da:PH} {b6:List HP} {z:List Nat} {pl:List (Nat×Kd)}
structure nA (P:Program) (N:Nat) (ops:Array Oper) (da:PH) (b6:List HP) (z:List Nat) (i:Nat) (kd:Kd) (o:Oper) (pl:List (Nat×Kd)) (ρ:Env) (σ:PH) (Γ:List HP) (K:KA):Prop where
 out:ops[i]? =some o→aP P N ops da b6 z ((i,kd)::pl) ρ σ Γ K
theorem et {id:Nat} (n c:Nat) (z:List Nat) (en:ar Γ b6) (hx:aP P N ops σ b6 z (SC 0 n c) ρ σ Γ K) (hm:P.follows .mixedOrders=true:=by kernel_rfl) (hv:(eh ops z (SC 0 n c) ops.size (Array.replicate ops.size false)&&Region.noSelect ops)=true:=by kernel_rfl):XA P N (.region id ops true) ρ σ Γ K:=XA.draw hm _ _ z _ hv (PH.sub.refl _) en hx
theorem aaz {q:Nat×Kd} (h:aP P N ops da b6 z (q::pl) ρ σ Γ K):aP P N ops da b6 z (q::pl) ρ σ Γ K:=h
theorem atB {i:Nat} {kd:Kd} {o:Oper} (h:nA P N ops da b6 z i kd o pl ρ σ Γ K) (hi:ops[i]? =some o):aP P N ops da b6 z ((i,kd)::pl) ρ σ Γ K:=h.out hi
section
variable {i d:Nat} {op:Op} {ty:TypeId} {pos:String} {af:Array Edge} {g:Option (Nat×Bool)} {v:Value}
theorem zh (hr:Rd P ρ (fun _=>True) op ty v) (k:aP P N ops da b6 z pl (dO ρ d v) σ Γ K) (hd:Nat.blt d N=true:=by exact rfl) (hg:Gd ops ρ g true:=by first|exact Gd.free|exact Gd.Ol rfl rfl rfl|(apply Gd.Oj;rfl;rfl;exact(by first|exact(rfl:decide _=true)|exact(rfl:decide _=false)|(refine aM ?_;assumption)|(refine aE ?_;assumption)|(refine aM ?_;omega)|(refine aE ?_;omega));rfl)):nA P N ops da b6 z i .pu ⟨some d,op,ty,pos,af,g⟩ pl ρ σ Γ K:=⟨fun hi=>aP.pu hi hd hg hr k⟩
theorem zpd (hr:Rd P ρ (Ho da b6) op ty v) (k:aP P N ops da b6 z pl (dO ρ d v) σ Γ K) (hd:Nat.blt d N=true:=by exact rfl) (hg:Gd ops ρ g true:=by first|exact Gd.free|exact Gd.Ol rfl rfl rfl|(apply Gd.Oj;rfl;rfl;exact(by first|exact(rfl:decide _=true)|exact(rfl:decide _=false)|(refine aM ?_;assumption)|(refine aE ?_;assumption)|(refine aM ?_;omega)|(refine aE ?_;omega));rfl)):nA P N ops da b6 z i .rd ⟨some d,op,ty,pos,af,g⟩ pl ρ σ Γ K:=⟨fun hi=>aP.rd hi hd hg hr k⟩
theorem zpo (k:aP P N ops da b6 z pl (dO ρ d undef) σ Γ K) (hd:Nat.blt d N=true:=by exact rfl) (hg:Gd ops ρ g false:=by first|exact Gd.Ol rfl rfl rfl|exact Gd.un rfl rfl|(apply Gd.Oj;rfl;rfl;exact(by first|exact(rfl:decide _=true)|exact(rfl:decide _=false)|(refine aM ?_;assumption)|(refine aE ?_;assumption)|(refine aM ?_;omega)|(refine aE ?_;omega));rfl)):nA P N ops da b6 z i .pu ⟨some d,op,ty,pos,af,g⟩ pl ρ σ Γ K:=⟨fun hi=>aP.wZ hi hd hg k⟩
theorem zpq (k:aP P N ops da b6 z pl (dO ρ d undef) σ Γ K) (hd:Nat.blt d N=true:=by exact rfl) (hg:Gd ops ρ g false:=by first|exact Gd.Ol rfl rfl rfl|exact Gd.un rfl rfl|(apply Gd.Oj;rfl;rfl;exact(by first|exact(rfl:decide _=true)|exact(rfl:decide _=false)|(refine aM ?_;assumption)|(refine aE ?_;assumption)|(refine aM ?_;omega)|(refine aE ?_;omega));rfl)):nA P N ops da b6 z i .rd ⟨some d,op,ty,pos,af,g⟩ pl ρ σ Γ K:=⟨fun hi=>aP.off hi hd hg k⟩
end
section
variable {i:Nat} {kd:Kd} {d:Option Nat} {ty T T':TypeId} {pos:String} {af:Array Edge} {g:Option (Nat×Bool)} {x y w:Operand} {n:Nat} {b:BinOp} {u:UnOp} {c:Call} {a:Array (Nat×Operand)}
theorem pMv (h:nA P N ops da b6 z i kd ⟨d,.move x,ty,pos,af,g⟩ pl ρ σ Γ K):nA P N ops da b6 z i kd ⟨d,.move x,ty,pos,af,g⟩ pl ρ σ Γ K:=h
theorem pFa (h:nA P N ops da b6 z i kd ⟨d,.fieldAddr T x n,ty,pos,af,g⟩ pl ρ σ Γ K):nA P N ops da b6 z i kd ⟨d,.fieldAddr T x n,ty,pos,af,g⟩ pl ρ σ Γ K:=h
theorem pLd (h:nA P N ops da b6 z i kd ⟨d,.load T x,ty,pos,af,g⟩ pl ρ σ Γ K):nA P N ops da b6 z i kd ⟨d,.load T x,ty,pos,af,g⟩ pl ρ σ Γ K:=h
theorem pIx (h:nA P N ops da b6 z i kd ⟨d,.indexAddr T x y,ty,pos,af,g⟩ pl ρ σ Γ K):nA P N ops da b6 z i kd ⟨d,.indexAddr T x y,ty,pos,af,g⟩ pl ρ σ Γ K:=h
theorem pNc (h:nA P N ops da b6 z i kd ⟨d,.nilCheck x,ty,pos,af,g⟩ pl ρ σ Γ K):nA P N ops da b6 z i kd ⟨d,.nilCheck x,ty,pos,af,g⟩ pl ρ σ Γ K:=h
theorem pAs (h:nA P N ops da b6 z i kd ⟨d,.assign x,ty,pos,af,g⟩ pl ρ σ Γ K):nA P N ops da b6 z i kd ⟨d,.assign x,ty,pos,af,g⟩ pl ρ σ Γ K:=h
theorem pPk (h:nA P N ops da b6 z i kd ⟨d,.pick x y w,ty,pos,af,g⟩ pl ρ σ Γ K):nA P N ops da b6 z i kd ⟨d,.pick x y w,ty,pos,af,g⟩ pl ρ σ Γ K:=h
theorem pBo (h:nA P N ops da b6 z i kd ⟨d,.binOp b T x y T',ty,pos,af,g⟩ pl ρ σ Γ K):nA P N ops da b6 z i kd ⟨d,.binOp b T x y T',ty,pos,af,g⟩ pl ρ σ Γ K:=h
theorem pUn (h:nA P N ops da b6 z i kd ⟨d,.unOp u T x,ty,pos,af,g⟩ pl ρ σ Γ K):nA P N ops da b6 z i kd ⟨d,.unOp u T x,ty,pos,af,g⟩ pl ρ σ Γ K:=h
theorem pEx (h:nA P N ops da b6 z i kd ⟨d,.extract x n,ty,pos,af,g⟩ pl ρ σ Γ K):nA P N ops da b6 z i kd ⟨d,.extract x n,ty,pos,af,g⟩ pl ρ σ Γ K:=h
theorem pCv (h:nA P N ops da b6 z i kd ⟨d,.convert T T' x,ty,pos,af,g⟩ pl ρ σ Γ K):nA P N ops da b6 z i kd ⟨d,.convert T T' x,ty,pos,af,g⟩ pl ρ σ Γ K:=h
theorem pBd (h:nA P N ops da b6 z i kd ⟨d,.build T a,ty,pos,af,g⟩ pl ρ σ Γ K):nA P N ops da b6 z i kd ⟨d,.build T a,ty,pos,af,g⟩ pl ρ σ Γ K:=h
theorem pCl (h:nA P N ops da b6 z i kd ⟨d,.call c,ty,pos,af,g⟩ pl ρ σ Γ K):nA P N ops da b6 z i kd ⟨d,.call c,ty,pos,af,g⟩ pl ρ σ Γ K:=h
theorem pB1 (h:nA P N ops da b6 z i kd ⟨d,.binOp .eql T x y T',ty,pos,af,g⟩ pl ρ σ Γ K):nA P N ops da b6 z i kd ⟨d,.binOp .eql T x y T',ty,pos,af,g⟩ pl ρ σ Γ K:=h
theorem pB2 (h:nA P N ops da b6 z i kd ⟨d,.binOp .neq T x y T',ty,pos,af,g⟩ pl ρ σ Γ K):nA P N ops da b6 z i kd ⟨d,.binOp .neq T x y T',ty,pos,af,g⟩ pl ρ σ Γ K:=h
theorem pB3 (h:nA P N ops da b6 z i kd ⟨d,.binOp .lss T x y T',ty,pos,af,g⟩ pl ρ σ Γ K):nA P N ops da b6 z i kd ⟨d,.binOp .lss T x y T',ty,pos,af,g⟩ pl ρ σ Γ K:=h
theorem pB4 (h:nA P N ops da b6 z i kd ⟨d,.binOp .gtr T x y T',ty,pos,af,g⟩ pl ρ σ Γ K):nA P N ops da b6 z i kd ⟨d,.binOp .gtr T x y T',ty,pos,af,g⟩ pl ρ σ Γ K:=h
theorem pB5 (h:nA P N ops da b6 z i kd ⟨d,.binOp .add T x y T',ty,pos,af,g⟩ pl ρ σ Γ K):nA P N ops da b6 z i kd ⟨d,.binOp .add T x y T',ty,pos,af,g⟩ pl ρ σ Γ K:=h
end
end
theorem zp0 {A B:Prop} (k:B) (h:KK B→A:=by
 (intro k
  first
  |(apply pMv;exact zh Rd.mv k.out)
  |(apply pFa;exact zh (Rd.fA rfl) k.out)
  |(apply pLd;first|exact zpd (Rd.yZ rfl (ae rfl) rfl) k.out|exact zpd (Rd.Bl rfl) k.out)
  |(apply pNc;exact zh (Rd.nilCheck rfl) k.out)
  |(apply pAs;exact zh Rd.CZ k.out)
  |(apply pIx;first|exact zh (Rd.K8 rfl rfl) k.out|exact zh (Rd.ixA rfl rfl) k.out)
  |(apply pBo;first
   |(apply pB1;exact zh (Rd.eql rfl rfl) k.out)
   |(apply pB2;exact zh (Rd.neq rfl rfl) k.out)
   |(apply pB3;exact zh (Rd.lss rfl rfl) k.out)
   |(apply pB4;exact zh (Rd.gtr rfl rfl) k.out)
   |(apply pB5;exact zh zI k.out)
   |exact zh (Rd.leq rfl rfl) k.out
   |exact zh (Rd.geq rfl rfl) k.out
   |exact zh (by first|exact Rd.sbi rfl rfl|exact Rd.sub rfl rfl) k.out)
  |(apply pPk;exact zh zP k.out)
  |(apply pCl;first|exact zh (Rd.CP (ae rfl) rfl rfl) k.out|exact zh (Rd.uv (ae rfl) rfl rfl) k.out)
  |(apply pUn;exact zh zJ k.out)
  |(apply pEx;exact zh (Rd.extract rfl rfl) k.out)
  |(apply pCv;exact zh (Rd.cvI (ae rfl) (ae rfl) rfl rfl) k.out)
  |(apply pBd;exact zh (Rd.bl (fun _ _=>ae) rfl rfl rfl) k.out)
  |exact zpo k.out
  |exact zpq k.out)):A:=h ⟨k⟩
theorem bS {A B:Prop} (k:B) (h:KK B→A:=by
 (intro k
  first
  |(apply aax;first|(apply aGd;first|(refine zG ?_;exact zq0 k.out)|exact zH k.out)|exact zq0 k.out)
  |(with_reducible apply DA.bI;exact k.out)
  |(apply XA.seq;exact k.out)
  |(apply aaz;refine atB ?_ rfl;exact zp0 k.out)
  |(apply XA.region;exact k.out)
  |(apply az.nil;exact k.out)
  |(apply XA.skip;exact k.out)
  |(apply XA.block;exact k.out)
  |(with_reducible apply DA.wU;exact k.out)
  |(apply XA.exit;exact k.out)
  |(with_reducible apply DA.CM;exact k.out)
  |(with_reducible apply DA.CN;exact k.out)
  |(with_reducible apply DA.IZ;exact rfl;exact k.out)
  |(apply XA.ret;exact k.out)
  |(apply aP.nil;exact k.out)
  |(apply aay;first|exact XA.aY rfl rfl k.out|exact XA.aI rfl rfl k.out)
  |(with_reducible apply DA.Bf;exact k.out)
  |(with_reducible apply DA.G1;exact k.out))):A:=h ⟨k⟩
theorem aU {A B:Prop} (k:B) (h:KK B→A:=by(intro k;(iterate 2 (refine bS ?_));exact k.out)):A:=h ⟨k⟩
theorem cx {A B:Prop} (k:B) (h:KK B→A:=by(intro k;(iterate 3 (refine bS ?_));exact k.out)):A:=h ⟨k⟩
theorem bY {A B:Prop} (k:B) (h:KK B→A:=by(intro k;(iterate 4 (refine bS ?_));exact k.out)):A:=h ⟨k⟩
theorem dc {A B:Prop} (k:B) (h:KK B→A:=by(intro k;(iterate 5 (refine bS ?_));exact k.out)):A:=h ⟨k⟩
theorem a8 {A B:Prop} (k:B) (h:KK B→A:=by(intro k;(iterate 6 (refine bS ?_));exact k.out)):A:=h ⟨k⟩
theorem bg {A B:Prop} (k:B) (h:KK B→A:=by(intro k;(iterate 7 (refine bS ?_));exact k.out)):A:=h ⟨k⟩
theorem bJ {A B:Prop} (k:B) (h:KK B→A:=by(intro k;(iterate 8 (refine bS ?_));exact k.out)):A:=h ⟨k⟩
theorem bt {A B:Prop} (k:B) (h:KK B→A:=by(intro k;(iterate 9 (refine bS ?_));exact k.out)):A:=h ⟨k⟩
theorem aR {A B:Prop} (k:B) (h:KK B→A:=by(intro k;(iterate 10 (refine bS ?_));exact k.out)):A:=h ⟨k⟩
theorem cp {A B:Prop} (k:B) (h:KK B→A:=by(intro k;(iterate 11 (refine bS ?_));exact k.out)):A:=h ⟨k⟩
theorem bm {A B:Prop} (k:B) (h:KK B→A:=by(intro k;(iterate 12 (refine bS ?_));exact k.out)):A:=h ⟨k⟩
theorem dB {A B:Prop} (k:B) (h:KK B→A:=by(intro k;(iterate 13 (refine bS ?_));exact k.out)):A:=h ⟨k⟩
theorem eA {A B:Prop} (k:B) (h:KK B→A:=by(intro k;(iterate 14 (refine bS ?_));exact k.out)):A:=h ⟨k⟩
theorem dh {A B:Prop} (k:B) (h:KK B→A:=by(intro k;(iterate 15 (refine bS ?_));exact k.out)):A:=h ⟨k⟩
theorem dC {A B:Prop} (k:B) (h:KK B→A:=by(intro k;(iterate 16 (refine bS ?_));exact k.out)):A:=h ⟨k⟩
theorem dV {A B:Prop} (k:B) (h:KK B→A:=by(intro k;(iterate 17 (refine bS ?_));exact k.out)):A:=h ⟨k⟩
theorem lR {A B:Prop} (k:B) (h:KK B→A:=by(intro k;(iterate 18 (refine bS ?_));exact k.out)):A:=h ⟨k⟩
theorem iA {A B:Prop} (k:B) (h:KK B→A:=by(intro k;(iterate 19 (refine bS ?_));exact k.out)):A:=h ⟨k⟩
theorem mI {A B:Prop} (k:B) (h:KK B→A:=by(intro k;(iterate 20 (refine bS ?_));exact k.out)):A:=h ⟨k⟩
theorem ra {A B:Prop} (k:B) (h:KK B→A:=by(intro k;(iterate 21 (refine bS ?_));exact k.out)):A:=h ⟨k⟩
theorem px {A B:Prop} (k:B) (h:KK B→A:=by(intro k;(iterate 22 (refine bS ?_));exact k.out)):A:=h ⟨k⟩
theorem rM {A B:Prop} (k:B) (h:KK B→A:=by(intro k;(iterate 23 (refine bS ?_));exact k.out)):A:=h ⟨k⟩
theorem rb {A B:Prop} (k:B) (h:KK B→A:=by(intro k;(iterate 24 (refine bS ?_));exact k.out)):A:=h ⟨k⟩
theorem sT {A B:Prop} (k:B) (h:KK B→A:=by(intro k;(iterate 25 (refine bS ?_));exact k.out)):A:=h ⟨k⟩
theorem Jc {A B:Prop} (k:B) (h:KK B→A:=by(intro k;(iterate 26 (refine bS ?_));exact k.out)):A:=h ⟨k⟩
theorem zi {A B:Prop} (k:B) (h:KK B→A:=by(intro k;(iterate 27 (refine bS ?_));exact k.out)):A:=h ⟨k⟩
theorem nC {A B:Prop} (k:B) (h:KK B→A:=by(intro k;(iterate 28 (refine bS ?_));exact k.out)):A:=h ⟨k⟩
theorem C5 {A B:Prop} (k:B) (h:KK B→A:=by(intro k;(iterate 29 (refine bS ?_));exact k.out)):A:=h ⟨k⟩
theorem jZ {A B:Prop} (k:B) (h:KK B→A:=by(intro k;(iterate 30 (refine bS ?_));exact k.out)):A:=h ⟨k⟩
theorem xk {A B:Prop} (k:B) (h:KK B→A:=by(intro k;(iterate 31 (refine bS ?_));exact k.out)):A:=h ⟨k⟩
theorem Jd {A B:Prop} (k:B) (h:KK B→A:=by(intro k;(iterate 32 (refine bS ?_));exact k.out)):A:=h ⟨k⟩
theorem Je {A B:Prop} (k:B) (h:KK B→A:=by(intro k;(iterate 33 (refine bS ?_));exact k.out)):A:=h ⟨k⟩
theorem SD {A B:Prop} (k:B) (h:KK B→A:=by(intro k;(iterate 34 (refine bS ?_));exact k.out)):A:=h ⟨k⟩
theorem Lb {A B:Prop} (k:B) (h:KK B→A:=by(intro k;(iterate 35 (refine bS ?_));exact k.out)):A:=h ⟨k⟩
theorem Lc {A B:Prop} (k:B) (h:KK B→A:=by(intro k;(iterate 36 (refine bS ?_));exact k.out)):A:=h ⟨k⟩
theorem aaA {A B:Prop} (k:B) (h:KK B→A:=by(intro k;(iterate 37 (refine bS ?_));exact k.out)):A:=h ⟨k⟩
theorem W0 {A B:Prop} (k:B) (h:KK B→A:=by(intro k;(iterate 38 (refine bS ?_));exact k.out)):A:=h ⟨k⟩
theorem O7 {A B:Prop} (k:B) (h:KK B→A:=by(intro k;(iterate 39 (refine bS ?_));exact k.out)):A:=h ⟨k⟩
theorem Jf {A B:Prop} (k:B) (h:KK B→A:=by(intro k;(iterate 40 (refine bS ?_));exact k.out)):A:=h ⟨k⟩
theorem aaB {A B:Prop} (k:B) (h:KK B→A:=by(intro k;(iterate 41 (refine bS ?_));exact k.out)):A:=h ⟨k⟩
theorem O8 {A B:Prop} (k:B) (h:KK B→A:=by(intro k;(iterate 43 (refine bS ?_));exact k.out)):A:=h ⟨k⟩
theorem aaC {A B:Prop} (k:B) (h:KK B→A:=by(intro k;(iterate 44 (refine bS ?_));exact k.out)):A:=h ⟨k⟩
theorem aaD {A B:Prop} (k:B) (h:KK B→A:=by(intro k;(iterate 45 (refine bS ?_));exact k.out)):A:=h ⟨k⟩
theorem aaE {A B:Prop} (k:B) (h:KK B→A:=by(intro k;(iterate 46 (refine bS ?_));exact k.out)):A:=h ⟨k⟩
theorem W1 {A B:Prop} (k:B) (h:KK B→A:=by(intro k;(iterate 48 (refine bS ?_));exact k.out)):A:=h ⟨k⟩
theorem SE {A B:Prop} (k:B) (h:KK B→A:=by(intro k;(iterate 50 (refine bS ?_));exact k.out)):A:=h ⟨k⟩
theorem aaF {A B:Prop} (k:B) (h:KK B→A:=by(intro k;(iterate 51 (refine bS ?_));exact k.out)):A:=h ⟨k⟩
theorem aaG {A B:Prop} (k:B) (h:KK B→A:=by(intro k;(iterate 52 (refine bS ?_));exact k.out)):A:=h ⟨k⟩
theorem SF {A B:Prop} (k:B) (h:KK B→A:=by(intro k;(iterate 53 (refine bS ?_));exact k.out)):A:=h ⟨k⟩
theorem aaH {A B:Prop} (k:B) (h:KK B→A:=by(intro k;(iterate 55 (refine bS ?_));exact k.out)):A:=h ⟨k⟩
theorem W2 {A B:Prop} (k:B) (h:KK B→A:=by(intro k;(iterate 56 (refine bS ?_));exact k.out)):A:=h ⟨k⟩
theorem zj {A B:Prop} (k:B) (h:KK B→A:=by(intro k;(iterate 57 (refine bS ?_));exact k.out)):A:=h ⟨k⟩
theorem SG {A B:Prop} (k:B) (h:KK B→A:=by(intro k;(iterate 58 (refine bS ?_));exact k.out)):A:=h ⟨k⟩
theorem W3 {A B:Prop} (k:B) (h:KK B→A:=by(intro k;(iterate 59 (refine bS ?_));exact k.out)):A:=h ⟨k⟩
theorem W4 {A B:Prop} (k:B) (h:KK B→A:=by(intro k;(iterate 60 (refine bS ?_));exact k.out)):A:=h ⟨k⟩
theorem fL {A B:Prop} (k:B) (h:KK B→A:=by(intro k;(repeat (first|with_reducible apply DA.zZ|with_reducible apply DA.z6));exact k.out)):A:=h ⟨k⟩
theorem gX {A B:Prop} (k:B) (h:KK B→A:=by(intro k;first|exact az.cl k.out|exact XA.cl k.out|exact DA.cl k.out)):A:=h ⟨k⟩
theorem kS {P:Program} {N:Nat} {ρ:Env} {σ:PH} {Γ:List HP} {K:KA} {ops:Array Oper} {da:PH} {b6:List HP} {z:List Nat} {i:Nat} {pl:List (Nat×Kd)} {d:Option Nat} {al:List HP} {op:Op} {ty:TypeId} {pos:String} {af:Array Edge} (hi:ops[i]? =some ⟨d,op,ty,pos,af,none⟩) (hr:ax P ρ σ Γ op ty (fun v' aj Δ=>v'=undef∧σ=aj∧Δ=al) ig)
 (k:aP P N ops da b6 z pl (jz ρ d undef) σ al K) (hd:gu N d=true:=by exact rfl) (hz:(z.contains i&&late z pl)=true:=by kernel_rfl):aP P N ops da b6 z ((i,.wr)::pl) ρ σ Γ K:=
 aP.b7 hi hd Gd.free hz hr (fun _ _ _ ⟨a,b,c⟩=>by subst a;subst b;subst c;exact k)
section
variable {P:Program} {N:Nat} {ρ:Env} {σ:PH} {Γ:List HP} {K:KA} {all:Array Oper} {rest:List Oper} {d:Nat} {ty T:TypeId} {pos:String} {af:Array Edge} {x:Operand} {r:Ty}
theorem di (k:∀g,az P N all rest (jz ρ (some d) (.pointer (some ⟨g,0,none⟩))) σ (aw g r.zero T::Γ) K) (hT:aX P T=some r) (hd:gu N (some d)=true:=by exact rfl):az P N all (⟨some d,.alloc T,ty,pos,af,none⟩::rest) ρ σ Γ K:=
 az.fw hd (ax.alloc hT) (fun _ _ _ ⟨g,a,b,c⟩=>by subst a;subst b;subst c;exact k g)
theorem cP {v:Value} {l:List Value} (k:∀g,az P N all rest (jz ρ (some d) (.pointer (some ⟨g,0,none⟩))) σ (aw g l T::Γ) K) (hx:ev ρ x=v:=by with_reducible (conv=>lhs;whnf)) (hl:v.cells=l.toArray:=by first|exact lQ _|exact j8 _|rfl) (hd:gu N (some d)=true:=by exact rfl):az P N all (⟨some d,.box T x,ty,pos,af,none⟩::rest) ρ σ Γ K:=
 az.fw hd (ax.box hx hl) (fun _ _ _ ⟨g,a,b,c⟩=>by subst a;subst b;subst c;exact k g)
theorem bQ {L:List (Nat×Nat)} {er:Env} (h:iy L ρ er:=by(repeat (first|with_reducible exact iy.refl _ _|refine iy.dO ?_ rfl|refine iy.jz ?_ rfl|refine iy.VZ ?_|refine iy.Vk ?_ rfl));(first|done|fail)):iy L ρ er:=h
theorem iX {l:List (Nat×Value)} (h:Bi ρ l:=by(repeat (first|exact trivial|refine⟨(by with_reducible (conv=>lhs;whnf)),?_⟩));(first|done|fail)):Bi ρ l:=h
theorem iQ {c:Operand} {y z:Code} {b:Bool} (k:XA P N y ρ σ Γ K) (hc:ev ρ c=.bool b:=by exact rfl) (hb:b=true:=by first|rfl|exact aM (by omega)):XA P N (.cond c y z) ρ σ Γ K:=XA.aY hc hb k
theorem ik {c:Operand} {y z:Code} {b:Bool} (k:XA P N z ρ σ Γ K) (hc:ev ρ c=.bool b:=by exact rfl) (hb:b=false:=by first|rfl|exact aE (by omega)):XA P N (.cond c y z) ρ σ Γ K:=XA.aI hc hb k
theorem bC {fn:Func} {R:Ending→PH→List HP→Prop} {t:Tmp} {v:Value} {al:List HP} (hf:fn.results=#[.tmp t]) (hv:ρ t=v) (hR:R (.returned v) σ al) (he:ar Γ al:=by(repeat (first|exact ar.nil _|(apply ar.bB;focus (first|((repeat (first|with_reducible exact dm.head|apply dm.tail));done)|((repeat (first|exact dm.head|apply dm.tail));done)))|apply ar.dU|apply ar.rL));(first|done|fail)):DA (ao P fn R) .ret ρ σ Γ:=ao.ret (aB.one hf hv) he hR
theorem On {fn:Func} {R:Ending→PH→List HP→Prop} {al:List HP} (hf:fn.results=#[]) (hR:R (.returned (.tuple #[])) σ al) (he:ar Γ al:=by(repeat (first|exact ar.nil _|(apply ar.bB;focus (first|((repeat (first|with_reducible exact dm.head|apply dm.tail));done)|((repeat (first|exact dm.head|apply dm.tail));done)))|apply ar.dU|apply ar.rL));(first|done|fail)):DA (ao P fn R) .ret ρ σ Γ:=ao.ret (aB.none hf) he hR
theorem iN {fn:Func} {R:Ending→PH→List HP→Prop} {al:List HP} (hf:fn.results=#[]) (hR:R (.returned (.tuple #[])) σ al) (he:ar Γ al:=by(repeat (first|exact ar.nil _|(apply ar.bB;focus (first|((repeat (first|with_reducible exact dm.head|apply dm.tail));done)|((repeat (first|exact dm.head|apply dm.tail));done)))|apply ar.dU|apply ar.rL));(first|done|fail)):DA (ao P fn R) .normal ρ σ Γ:=ao.normal (aB.none hf) he hR
end
section
variable {P:Program} {σ:PH} {Γ:List HP} {f:FuncId} {fn:Func} {co:Code} {R:Ending→PH→List HP→Prop}
theorem zf0 (hf:P.funcs[f]? =some fn) (hx:XA P fn.ntmps co U σ Γ (ao P fn R)) (hb:fn.body=some co:=by exact rfl) (hn:eN fn=true:=by exact rfl) (hN:Nat.ble 0 fn.ntmps=true:=by exact rfl):ah P f #[] σ Γ R:=OZ hf hb hn hN hx
theorem cM {a:Value} (hf:P.funcs[f]? =some fn) (hx:XA P fn.ntmps co (dO U 0 a) σ Γ (ao P fn R)) (hb:fn.body=some co:=by exact rfl) (hn:eN fn=true:=by exact rfl) (hN:Nat.ble 1 fn.ntmps=true:=by exact rfl):ah P f #[a] σ Γ R:=O0 hf hb hn hN hx
theorem cw {a b:Value} (hf:P.funcs[f]? =some fn) (hx:XA P fn.ntmps co (dO (dO U 0 a) 1 b) σ Γ (ao P fn R)) (hb:fn.body=some co:=by exact rfl) (hn:eN fn=true:=by exact rfl) (hN:Nat.ble 2 fn.ntmps=true:=by exact rfl):ah P f #[a,b] σ Γ R:=O1 hf hb hn hN hx
theorem lS {a b c:Value} (hf:P.funcs[f]? =some fn) (hx:XA P fn.ntmps co (dO (dO (dO U 0 a) 1 b) 2 c) σ Γ (ao P fn R)) (hb:fn.body=some co:=by exact rfl) (hn:eN fn=true:=by exact rfl) (hN:Nat.ble 3 fn.ntmps=true:=by exact rfl):ah P f #[a,b,c] σ Γ R:=O2 hf hb hn hN hx
theorem Zd {a b c d:Value} (hf:P.funcs[f]? =some fn) (hx:XA P fn.ntmps co (dO (dO (dO (dO U 0 a) 1 b) 2 c) 3 d) σ Γ (ao P fn R)) (hb:fn.body=some co:=by exact rfl) (hn:eN fn=true:=by exact rfl) (hN:Nat.ble 4 fn.ntmps=true:=by exact rfl):ah P f #[a,b,c,d] σ Γ R:=O3 hf hb hn hN hx
end
theorem ad {A:Prop} (h:A:=by omega):A:=h
theorem au {A:Prop} (h:A:=by decide):A:=h
theorem cJ {A:Prop} (h:A:=by first|rfl|assumption|(refine(dz _).trans ?_;assumption)|(simp[*];(first|done|fail))):A:=h
theorem aC {A:Prop} (h:A:=by kernel_rfl):A:=h
theorem aZ {A:Prop} (h:A:=by simp):A:=h
theorem bP {A:Prop} (h:A:=by first|omega|(simp only[bF,bq,List.length_nil];omega)):A:=h
theorem cK {A:Prop} (h:A:=by first|exact K3 (by first|rfl|assumption|(refine(dz _).trans ?_;assumption)|(simp[*];(first|done|fail)))|assumption|exact sI (by first|rfl|assumption|(refine(dz _).trans ?_;assumption)|(simp[*];(first|done|fail)))|(conv=>lhs;simp only[List.drop_succ_cons,List.drop_zero,List.take_succ_cons,List.take_zero])):A:=h
theorem eb {A:Prop} (h:A:=by exact⟨rfl,trivial⟩):A:=h
theorem gD {A:Prop} (h:A:=by first|omega|decide|(simp;omega)):A:=h
theorem gF {A:Prop} (h:A:=by simp only;omega):A:=h
theorem kB {A:Prop} (h:A:=by simp only[maxLen];omega):A:=h
theorem mO {A:Prop} (h:A:=by exact⟨rfl,rfl,trivial⟩):A:=h
theorem nD {A:Prop} (h:A:=by first|omega|(simp only[bq,dZ];omega)):A:=h
theorem adT {A:Prop} (h:A:=by first|exact(rfl:decide _=true)|exact(rfl:decide _=false)|(refine aM ?_;assumption)|(refine aE ?_;assumption)|(refine aM ?_;omega)|(refine aE ?_;omega)):A:=h
theorem oZ {A:Prop} (h:A:=by(repeat (first|exact ar.refl _|(apply ar.bB;focus (first|((repeat (first|with_reducible exact dm.head|apply dm.tail));done)|((repeat (first|exact dm.head|apply dm.tail));done)))|apply ar.dU|(refine ar.trans ar.tail ?_)));done):A:=h
theorem adU {A:Prop} (h:A:=by first|rfl|assumption):A:=h
theorem rv {A:Prop} (h:A:=by simp only[];omega):A:=h
theorem sU {A:Prop} (h:A:=by simp;omega):A:=h
theorem sV {A:Prop} (h:A:=by simp[ints]):A:=h
theorem sW {A:Prop} (h:A:=by first|exact Gd.Ol rfl rfl rfl|exact Gd.un rfl rfl|(apply Gd.Oj;rfl;rfl;exact(by first|exact(rfl:decide _=true)|exact(rfl:decide _=false)|(refine aM ?_;assumption)|(refine aE ?_;assumption)|(refine aM ?_;omega)|(refine aE ?_;omega));rfl)):A:=h
theorem vA {A:Prop} (h:A:=by simp only[bq,dZ];omega):A:=h
theorem xl {A:Prop} (h:A:=by with_reducible (conv=>lhs;whnf)):A:=h
theorem C6 {A:Prop} (h:A:=by first|(exact sQ.aw zL (by first|rfl|assumption))|(exact sQ.Fu (by first|assumption))|(exact sQ.aS zL (by first|rfl|assumption))):A:=h
theorem adV {A:Prop} (h:A:=by first|assumption):A:=h
theorem C7 {A:Prop} (h:A:=by simp only[Int.natCast_add];omega):A:=h
theorem C8 {A:Prop} (h:A:=by rw[List.append_nil];exact ar.refl _):A:=h
theorem G6 {A:Prop} (h:A:=by rw[jX];omega):A:=h
theorem G7 {A:Prop} (h:A:=by rw[bF];omega):A:=h
theorem Le {A:Prop} (h:A:=by first|exact Rd.mli rfl rfl|exact Rd.mul rfl rfl):A:=h
theorem Lf {A:Prop} (h:A:=by first|exact Gd.free|exact Gd.Ol rfl rfl rfl|(apply Gd.Oj;rfl;rfl;exact(by first|exact(rfl:decide _=true)|exact(rfl:decide _=false)|(refine aM ?_;assumption)|(refine aE ?_;assumption)|(refine aM ?_;omega)|(refine aE ?_;omega));rfl)):A:=h
theorem Rc {A:Prop} (h:A:=by apply Rd.KV;exact ae rfl;rfl;exact ae rfl;rfl):A:=h
end X
end Go.Proofs.YtgeoiflbjcehcaaGreatDoor
