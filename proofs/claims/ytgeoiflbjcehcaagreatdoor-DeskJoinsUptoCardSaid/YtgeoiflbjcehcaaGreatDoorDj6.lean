import Derived.Test.YtgeoiflbjcehcaaGreatDoorDj5
import Derived.ProofKit
import Derived.ChangeArms
import Derived.Test.YtgeoiflbjcehcaaGreatDoorRows
set_option maxHeartbeats 4000000
set_option maxRecDepth 2000
set_option linter.unusedVariables false
set_option linter.unusedSimpArgs false
namespace Go.Proofs.YtgeoiflbjcehcaaGreatDoor
namespace X
open Go
variable {P:Program} {N:Nat} {ρ:Env} {h:Heap} {K:jb} {ops:Array Oper} {S:Heap→Prop} {z:List Nat}
def iG (z:List Nat) (ops:Array Oper) (listed:Array Bool):Bool:=(List.range ops.size).all fun i=>listed.getD i false||z.contains i
structure XQ (P:Program) (N:Nat) (ops:Array Oper) (S:Heap→Prop) (z:List Nat) (fuel:Nat) (listed:Array Bool) (ρ:Env) (h:Heap) (K:jb):Prop where
 out:∀(w0:World) (a:Act) (w:World),Region.noSelect ops=true→iB ops listed→ec w0 w→w.heap=h→da N a ρ→(iG z ops listed=true∨S h)→kB P ops (ll w0 a.defers N K) (fun w=>S w.heap) z fuel listed a w
structure NY (P:Program) (N:Nat) (ops:Array Oper) (S:Heap→Prop) (z:List Nat) (fuel:Nat) (listed:Array Bool) (i:Nat) (ρ:Env) (h:Heap) (K:jb):Prop where
 out:∀(w0:World) (a:Act) (w:World),Region.noSelect ops=true→iB ops listed→ec w0 w→w.heap=h→da N a ρ→(iG z ops listed=true∨S h)→wpOp P ops (ll w0 a.defers N K) i (fun a' w'=>(z.contains i=true∨(S w.heap→S w'.heap))∧kB P ops (ll w0 a.defers N K) (fun w=>S w.heap) z fuel (listed.setIfInBounds i true) a' w') a w
theorem XQ.nil {fuel:Nat} {listed:Array Bool} (hr:(Region.ready .any ops listed).isEmpty=true) (hk:K .normal ρ h):XQ P N ops S z fuel listed ρ h K:=by
 refine⟨fun w0 a w hs dY nR hh he hS=>?_⟩;(have hv:Region.ready .any ops listed=[]:=by simpa using hr);have hq:ll w0 a.defers N K .normal a w:=⟨rfl,nR,ρ,.of he,hh▸hk⟩
 cases fuel with
 |zero=>exact⟨hv,hq⟩
 |succ n=>exact⟨fun _=>hq,by rw[hv];intro i hi;cases hi⟩
theorem XQ.Ta {fuel i d:Nat} {listed aQ:Array Bool} {op:Op} {ty:TypeId} {pos:String} {af:Array Edge} {g:Option (Nat×Bool)} {v:Value} (hi:ops[i]? =some ⟨some d,op,ty,pos,af,g⟩) (hd:Nat.blt d N=true)
 (hv:(Region.free .any ops listed i&&(Region.ready .any ops listed).contains i&&rZ ops z i&&!iG z ops listed)=true) (hl:listed.setIfInBounds i true=aQ) (hy:∀a,da N a ρ→YieldsIf P ops (fun w=>S w.heap) ⟨some d,op,ty,pos,af,g⟩ v a) (k:XQ P N ops S z fuel aQ (cp ρ d v) h K):XQ P N ops S z (fuel+1) listed ρ h K:=by
 subst hl;refine⟨fun w0 a w hs dY nR hh he hS=>?_⟩;simp only[Bool.and_eq_true] at hv;have Fc:S h:=hS.resolve_left (by simpa using hv.2);have hk:=k.out w0 (a.put (some d) v) w hs (dY.set (by simpa using hv.1.1.2)) nR hh (he.put hd v) (.inr Fc);exact nZ hi (Region.noSelect_spec hs) (fun c a' w' hq=>hq) hv.1.2 fuel listed a w (Region.free_spec hi hv.1.1.1) (by simpa using hv.1.1.2) dY (hy a he) (by show S w.heap;rw[hh];exact Fc) hk
theorem XQ.pu {fuel i d:Nat} {listed aQ:Array Bool} {op:Op} {ty:TypeId} {pos:String} {af:Array Edge} {g:Option (Nat×Bool)} {v:Value} (hi:ops[i]? =some ⟨some d,op,ty,pos,af,g⟩) (hd:Nat.blt d N=true)
 (hv:(Region.free .any ops listed i&&(Region.ready .any ops listed).contains i&&(!iG z ops listed||iG z ops aQ))=true) (hl:listed.setIfInBounds i true=aQ) (hy:∀a,da N a ρ→YieldsIf P ops (fun _=>True) ⟨some d,op,ty,pos,af,g⟩ v a) (k:XQ P N ops S z fuel aQ (cp ρ d v) h K):XQ P N ops S z (fuel+1) listed ρ h K:=by
 subst hl;refine⟨fun w0 a w hs dY nR hh he hS=>?_⟩;simp only[Bool.and_eq_true] at hv;have hk:=k.out w0 (a.put (some d) v) w hs (dY.set (by simpa using hv.1.2)) nR hh (he.put hd v) (hS.imp (fun hl=>by have:=hv.2;rw[hl] at this;simpa using this) id);exact qL hi (Region.noSelect_spec hs) (fun c a' w' hq=>hq) fuel listed a w (Region.free_spec hi hv.1.1) (by simpa using hv.1.2) dY (hy a he) hk
theorem XQ.w1 {fuel i:Nat} {listed:Array Bool} (hr:(Region.ready .any ops listed==[i])=true) (k:NY P N ops S z fuel listed i ρ h K):XQ P N ops S z (fuel+1) listed ρ h K:=by
 (have j4:Region.ready .any ops listed=[i]:=by simpa using hr);refine⟨fun w0 a w hs dY nR hh he hS=>⟨fun e=>(by rw[j4] at e;cases e),fun j hj=>?_⟩⟩;rw[j4,List.mem_singleton] at hj;subst hj;exact k.out w0 a w hs dY nR hh he hS
theorem XQ.w2 {fuel i j:Nat} {listed:Array Bool} (hr:(Region.ready .any ops listed==[i,j])=true) (k1:NY P N ops S z fuel listed i ρ h K) (k2:NY P N ops S z fuel listed j ρ h K):XQ P N ops S z (fuel+1) listed ρ h K:=by
 (have j4:Region.ready .any ops listed=[i,j]:=by simpa using hr);refine⟨fun w0 a w hs dY nR hh he hS=>⟨fun e=>(by rw[j4] at e;cases e),fun q hq=>?_⟩⟩;rw[j4] at hq;simp only[List.mem_cons,List.not_mem_nil,or_false] at hq;rcases hq with rfl|rfl
 ·exact k1.out w0 a w hs dY nR hh he hS
 ·exact k2.out w0 a w hs dY nR hh he hS
theorem NY.wr {fuel i:Nat} {listed aQ:Array Bool} {d:Option Nat} {op:Op} {ty:TypeId} {pos:String} {af:Array Edge} {g:Option (Nat×Bool)} {R:Value→Heap→Prop} {pk:List PanicEntry→Heap→Prop}
 (hi:ops[i]? =some ⟨d,op,ty,pos,af,g⟩) (hd:ei N d=true) (hg:Gd ops ρ g true) (pI:(Region.ready .any ops listed).contains i=true) (hl:listed.setIfInBounds i true=aQ) (hr:Wr P ρ h op ty R pk)
 (k:∀v h',R v h'→((z.contains i=true∧iG z ops aQ=true)∨S h')∧XQ P N ops S z fuel aQ (fX ρ d v) h' K) (kp:∀c h',pk c h'→K (.panic c) ρ h'):NY P N ops S z fuel listed i ρ h K:=by
 subst hl;refine⟨fun w0 a w hs dY nR hh he hS=>?_⟩;unfold wpOp;simp only[hi,hg.wanted he,if_true];refine .inl (hr.out d pos af g a w _ _ he.eval hh (fun v w' h2 h3=>?_) (fun c w' h2 h3=>⟨rfl,nR.trans h2,ρ,trivial,kp c _ h3⟩));obtain⟨Fc,hk⟩:=k v _ h3;have:=hk.out w0 (a.put d v) w' hs (dY.set (by simpa using pI)) (nR.trans h2) rfl (he.E5 hd v) (Fc.imp (·.2) id);rw[put_defers] at this;exact⟨Fc.imp (·.1) (fun h _=>h),this⟩
theorem n7 {id:Nat} (hm:P.follows .mixedOrders=true) (S:Heap→Prop) (z:List Nat) (hv:Region.noSelect ops=true) (hS:S h) (hx:XQ P N ops S z ops.size (Array.replicate ops.size false) ρ h K):X P N (.region id ops true) ρ h K:=by
 refine⟨fun w0 a w hs hh he=>?_⟩;refine wp_region_any hm (mZ (S:=fun w=>S w.heap) (z:=z) _ _ _ _ ?_);exact hx.out w0 a _ hv (fun j oj _ hl=>by simp[Array.getElem?_replicate] at hl;split at hl<;>simp at hl) (hs.trans ⟨rfl,rfl,rfl⟩) hh he (.inr hS)
end X
namespace X
variable {P:Program} {N:Nat} {ρ:Env} {σ:PH} {Γ:List HP} {K:KA} {ops:Array Oper} {bV:PH} {bp:List HP} {z:List Nat}
structure cC (P:Program) (N:Nat) (ops:Array Oper) (bV:PH) (bp:List HP) (z:List Nat) (fuel:Nat) (listed:Array Bool) (ρ:Env) (σ:PH) (Γ:List HP) (K:KA):Prop where
 out:∀f h,Holds σ Γ f h→(iG z ops listed=true∨bV.sub σ∧aw Γ bp)→XQ P N ops (Ho bV bp) z fuel listed ρ h (KF f K)
structure iN (P:Program) (N:Nat) (ops:Array Oper) (bV:PH) (bp:List HP) (z:List Nat) (fuel:Nat) (listed:Array Bool) (i:Nat) (ρ:Env) (σ:PH) (Γ:List HP) (K:KA):Prop where
 out:∀f h,Holds σ Γ f h→(iG z ops listed=true∨bV.sub σ∧aw Γ bp)→NY P N ops (Ho bV bp) z fuel listed i ρ h (KF f K)
theorem XA.n7 {id:Nat} (hm:P.follows .mixedOrders=true) (bV:PH) (bp:List HP) (z:List Nat) (n:Nat) (l0:Array Bool) (hn:ops.size=n) (hl0:Array.replicate n false=l0) (hv:Region.noSelect ops=true) (hS:bV.sub σ) (hE:aw Γ bp) (hx:cC P N ops bV bp z n l0 ρ σ Γ K):XA P N (.region id ops true) ρ σ Γ K:=by
 subst hl0;subst hn;exact⟨fun f h hh=>X.n7 hm (Ho bV bp) z hv (hh.BN ⟨hS,hE⟩) (hx.out f h hh (.inr ⟨hS,hE⟩))⟩
theorem cC.nil {fuel:Nat} {listed:Array Bool} (hr:(Region.ready .any ops listed).isEmpty=true) (hk:DA K .normal ρ σ Γ):cC P N ops bV bp z fuel listed ρ σ Γ K:=⟨fun f h hh _=>XQ.nil hr (hk.out f h hh)⟩
theorem cC.rd {fuel i d:Nat} {listed aQ:Array Bool} {op:Op} {ty:TypeId} {pos:String} {af:Array Edge} {g:Option (Nat×Bool)} {v:Value} (hi:ops[i]? =some ⟨some d,op,ty,pos,af,g⟩) (hd:Nat.blt d N=true)
 (hv:(Region.free .any ops listed i&&(Region.ready .any ops listed).contains i&&rZ ops z i&&!iG z ops listed)=true) (hl:listed.setIfInBounds i true=aQ) (hg:Gd ops ρ g true) (hr:Rd P ρ (Ho bV bp) op ty v) (k:cC P N ops bV bp z fuel aQ (cp ρ d v) σ Γ K):cC P N ops bV bp z (fuel+1) listed ρ σ Γ K:=by
 (have fW:¬iG z ops listed=true:=by simp only[Bool.and_eq_true] at hv;simpa using hv.2);exact⟨fun f h hh hs=>XQ.Ta hi hd hv hl (fun a he=>.inl ⟨hg.wanted he,fun w' Iv=>by rw[he.eval];exact hr.out _ _ _ _ w' Iv⟩) (k.out f h hh (.inr (hs.resolve_left fW)))⟩
theorem cC.pu {fuel i d:Nat} {listed aQ:Array Bool} {op:Op} {ty:TypeId} {pos:String} {af:Array Edge} {g:Option (Nat×Bool)} {v:Value} (hi:ops[i]? =some ⟨some d,op,ty,pos,af,g⟩) (hd:Nat.blt d N=true)
 (hv:(Region.free .any ops listed i&&(Region.ready .any ops listed).contains i&&(!iG z ops listed||iG z ops aQ))=true) (hl:listed.setIfInBounds i true=aQ) (hg:Gd ops ρ g true) (hr:Rd P ρ (fun _=>True) op ty v) (k:cC P N ops bV bp z fuel aQ (cp ρ d v) σ Γ K):cC P N ops bV bp z (fuel+1) listed ρ σ Γ K:=by
 refine⟨fun f h hh hs=>XQ.pu hi hd hv hl (fun a he=>.inl ⟨hg.wanted he,fun w' _=>by rw[he.eval];exact hr.out _ _ _ _ w' trivial⟩) (k.out f h hh (hs.imp (fun hq=>?_) id))⟩;simp only[Bool.and_eq_true] at hv;have:=hv.2;rw[hq] at this;simpa using this
theorem cC.w1 {fuel i:Nat} {listed:Array Bool} (hr:(Region.ready .any ops listed==[i])=true) (k:iN P N ops bV bp z fuel listed i ρ σ Γ K):cC P N ops bV bp z (fuel+1) listed ρ σ Γ K:=by
 exact⟨fun f h hh hs=>XQ.w1 hr (k.out f h hh hs)⟩
theorem cC.w2 {fuel i j:Nat} {listed:Array Bool} (hr:(Region.ready .any ops listed==[i,j])=true) (k1:iN P N ops bV bp z fuel listed i ρ σ Γ K) (k2:iN P N ops bV bp z fuel listed j ρ σ Γ K):cC P N ops bV bp z (fuel+1) listed ρ σ Γ K:=by
 exact⟨fun f h hh hs=>XQ.w2 hr (k1.out f h hh hs) (k2.out f h hh hs)⟩
theorem iN.fL {fuel i:Nat} {listed aQ:Array Bool} {d:Option Nat} {op:Op} {ty:TypeId} {pos:String} {af:Array Edge} {g:Option (Nat×Bool)} {R:Value→PH→List HP→Prop}
 (hi:ops[i]? =some ⟨d,op,ty,pos,af,g⟩) (hd:ei N d=true) (hg:Gd ops ρ g true) (pI:(Region.ready .any ops listed).contains i=true) (hl:listed.setIfInBounds i true=aQ) (hr:aC P ρ σ Γ op ty R fw)
 (k:∀v ag ah,R v ag ah→(bV.sub ag∧aw ah bp)∧cC P N ops bV bp z fuel aQ (fX ρ d v) ag ah K):iN P N ops bV bp z fuel listed i ρ σ Γ K:=
 ⟨fun f h hh hs=>NY.wr hi hd hg pI hl (hr.out f h hh) (fun v h' ⟨ag,ah,a,b⟩=>⟨.inr (b.BN (k v ag ah a).1),(k v ag ah a).2.out f h' b (.inr (k v ag ah a).1)⟩) (fun c h' ⟨ag,ah,a,b⟩=>a.elim)⟩
theorem iN.bj {fuel i:Nat} {listed aQ:Array Bool} {d:Option Nat} {op:Op} {ty:TypeId} {pos:String} {af:Array Edge} {g:Option (Nat×Bool)} {R:Value→PH→List HP→Prop}
 (hi:ops[i]? =some ⟨d,op,ty,pos,af,g⟩) (hd:ei N d=true) (hg:Gd ops ρ g true) (pI:(Region.ready .any ops listed).contains i=true) (hl:listed.setIfInBounds i true=aQ) (he:(z.contains i&&iG z ops aQ)=true) (hr:aC P ρ σ Γ op ty R fw)
 (k:∀v ag ah,R v ag ah→cC P N ops bV bp z fuel aQ (fX ρ d v) ag ah K):iN P N ops bV bp z fuel listed i ρ σ Γ K:=by
 simp only[Bool.and_eq_true] at he;exact⟨fun f h hh hs=>NY.wr hi hd hg pI hl (hr.out f h hh) (fun v h' ⟨ag,ah,a,b⟩=>⟨.inl he,(k v ag ah a).out f h' b (.inl he.2)⟩) (fun c h' ⟨ag,ah,a,b⟩=>a.elim)⟩
theorem cC.re {fuel:Nat} {listed:Array Bool} {Δ:List HP} (e:Γ=Δ) (k:cC P N ops bV bp z fuel listed ρ σ Δ K):cC P N ops bV bp z fuel listed ρ σ Γ K:=e▸k
theorem XA.cut {c:Code} (M:Env→PH→List HP→Prop) (hx:XA P N c ρ σ Γ (mJ M K)) (hk:∀cI ag ah,M cI ag ah→DA K .normal cI ag ah):XA P N c ρ σ Γ K:=by
 refine⟨fun f h hh=>X.mono (hx.out f h hh) ?_⟩;rintro e cI h' ⟨ag,ah,a,b⟩
 cases e with
 |normal=>exact(hk _ _ _ a).out f h' b
 |_=>exact⟨ag,ah,a,b⟩
theorem XA.join {c:Code} {τ:Type} (L:List (Nat×Nat)) (E:τ→List (Nat×Value)) (I:τ→PH→List HP→Prop) (hx:XA P N c ρ σ Γ (mJ (fun cI ag ah=>eW L ρ cI∧∃x Δ,vp cI (E x)∧aw ah Δ∧I x ag Δ) K))
 (hk:∀x δ ag Δ,I x ag Δ→DA K .normal ((E x).foldl (fun r p=>cp r p.1 p.2) (eb L ρ δ)) ag Δ):XA P N c ρ σ Γ K:=by
 refine XA.cut _ hx ?_;rintro cI ag ah ⟨hK,x,Δ,hM,hE,hI⟩;have:=hk x cI ag Δ hI;rw[Aa hK,lF hM] at this;exact DA.eS hE this
abbrev tT:Bool:=true
abbrev fF:Bool:=false
theorem qr {fuel d:Nat} {listed:Array Bool} {op:Op} {ty:TypeId} {pos:String} {af:Array Edge} {v:Value} (i:Nat) (aQ:Array Bool) (hi:ops[i]? =some ⟨some d,op,ty,pos,af,none⟩) (hr:Rd P ρ (Ho bV bp) op ty v) (k:cC P N ops bV bp z fuel aQ (cp ρ d v) σ Γ K) (hd:Nat.blt d N=true:=by exact rfl)
 (hv:(Region.free .any ops listed i&&(Region.ready .any ops listed).contains i&&rZ ops z i&&!iG z ops listed)=true:=by kernel_rfl) (hl:listed.setIfInBounds i true=aQ:=by exact rfl):cC P N ops bV bp z (fuel+1) listed ρ σ Γ K:=cC.rd hi hd hv hl Gd.free hr k
theorem qp {fuel d:Nat} {listed:Array Bool} {op:Op} {ty:TypeId} {pos:String} {af:Array Edge} {v:Value} (i:Nat) (aQ:Array Bool) (hi:ops[i]? =some ⟨some d,op,ty,pos,af,none⟩) (hr:Rd P ρ (fun _=>True) op ty v) (k:cC P N ops bV bp z fuel aQ (cp ρ d v) σ Γ K) (hd:Nat.blt d N=true:=by exact rfl)
 (hv:(Region.free .any ops listed i&&(Region.ready .any ops listed).contains i&&(!iG z ops listed||iG z ops aQ))=true:=by kernel_rfl) (hl:listed.setIfInBounds i true=aQ:=by exact rfl):cC P N ops bV bp z (fuel+1) listed ρ σ Γ K:=cC.pu hi hd hv hl Gd.free hr k
theorem qw {fuel i:Nat} {listed:Array Bool} {d:Option Nat} {op:Op} {ty:TypeId} {pos:String} {af:Array Edge} {R:Value→PH→List HP→Prop} (aQ:Array Bool) (hi:ops[i]? =some ⟨d,op,ty,pos,af,none⟩) (hr:aC P ρ σ Γ op ty R fw)
 (k:∀v ag ah,R v ag ah→(bV.sub ag∧aw ah bp)∧cC P N ops bV bp z fuel aQ (fX ρ d v) ag ah K) (hd:ei N d=true:=by exact rfl) (pI:(Region.ready .any ops listed).contains i=true:=by kernel_rfl) (hl:listed.setIfInBounds i true=aQ:=by exact rfl):iN P N ops bV bp z fuel listed i ρ σ Γ K:=iN.fL hi hd Gd.free pI hl hr k
theorem qa {fuel:Nat} {listed:Array Bool} (i:Nat) (k:iN P N ops bV bp z fuel listed i ρ σ Γ K) (hr:(Region.ready .any ops listed==[i])=true:=by kernel_rfl):cC P N ops bV bp z (fuel+1) listed ρ σ Γ K:=cC.w1 hr k
theorem zu {i d:Nat} {pl:List (Nat×Kd)} {op:Op} {ty:TypeId} {pos:String} {af:Array Edge} {v:Value} (hi:ops[i]? =some ⟨some d,op,ty,pos,af,none⟩) (hd:Nat.blt d N=true) (hr:Rd P ρ (fun _=>True) op ty v) (k:aK P N ops bV bp z pl (cp ρ d v) σ Γ K):aK P N ops bV bp z ((i,.pu)::pl) ρ σ Γ K:=aK.pu hi hd Gd.free hr k
abbrev zw:=@az.fL
section
variable {all:Array Oper} {rest:List Oper} {d:Nat} {ty:TypeId} {pos:String} {af:Array Edge} {v:Value}
theorem yA {x:Operand} (k:az P N all rest (cp ρ d v) σ Γ K) (hd:Nat.blt d N=true:=by exact rfl) (hv:ev ρ x=v:=by with_reducible (conv=>lhs;whnf)):az P N all (⟨some d,.move x,ty,pos,af,none⟩::rest) ρ σ Γ K:=az.rd hd (.move hv) k
theorem yS {x:Operand} (k:az P N all rest (cp ρ d v) σ Γ K) (hd:Nat.blt d N=true:=by exact rfl) (hv:ev ρ x=v:=by with_reducible (conv=>lhs;whnf)):az P N all (⟨some d,.assign x,ty,pos,af,none⟩::rest) ρ σ Γ K:=az.rd hd (.assign hv) k
theorem yV {T:TypeId} {x:Operand} {f g o n m:Nat} {r:Ty} {fs:List (TypeId×Nat)} {ft:TypeId} {r':Ty} (k:az Tryz.prog N all rest (cp ρ d (.pointer (some ⟨g,m,none⟩))) σ Γ K) (hx:ev ρ x=.pointer (some ⟨g,o,none⟩):=by exact rfl) (hT:av Tryz.prog T=some r:=by exact ad rfl) (hk:r.k=.struct fs:=by rfl) (hf:fs[f]? =some (ft,n):=by rfl) (Ip:av Tryz.prog ft=some r':=by exact ad rfl) (hz:Nat.beq r'.size 0=false:=by rfl)
 (ho:o+n=m:=by first|(conv=>lhs;simp only[Nat.reduceAdd,Nat.zero_add,Nat.add_zero,Nat.reduceMul,Nat.mul_one,Int.toNat_natCast,Int.reduceToNat,Nat.zero_mul])|rfl) (hd:Nat.blt d N=true:=by exact rfl):az Tryz.prog N all (⟨some d,.fieldAddr T x f,ty,pos,af,none⟩::rest) ρ σ Γ K:=az.rd hd (Rd.fA hx hT hk hf Ip hz ho) k
theorem yB {T:TypeId} {x:Operand} {r:Ty} {g o:Nat} (k:az Tryz.prog N all rest (cp ρ d v) σ Γ K) (hx:ev ρ x=.pointer (some ⟨g,o,none⟩):=by exact rfl) (hT:av Tryz.prog T=some r:=by exact ad rfl) (hk:r.k.agg=false:=by exact rfl) (hc:j3 (Ho σ Γ) g o v:=by first|(exact j3.au (by((repeat (first|with_reducible exact b6.head|apply b6.tail));(first|done|fail))) (by first|rfl|assumption))|(exact j3.wN (by first|assumption))|(exact j3.bn (by((repeat (first|with_reducible exact b6.head|apply b6.tail));(first|done|fail))) (by first|rfl|assumption))) (hd:Nat.blt d N=true:=by exact rfl):az Tryz.prog N all (⟨some d,.load T x,ty,pos,af,none⟩::rest) ρ σ Γ K:=az.rd hd (Rd.EN hx hT hk hc) k
theorem yE {x y:Operand} {kk:IntKind} {a b:Int} {T T':TypeId} (k:az P N all rest (cp ρ d (.bool (decide (a=b)))) σ Γ K) (hx:ev ρ x=.int kk a:=by exact rfl) (hy:ev ρ y=.int kk b:=by exact rfl) (hd:Nat.blt d N=true:=by exact rfl):az P N all (⟨some d,.binOp .eql T x y T',ty,pos,af,none⟩::rest) ρ σ Γ K:=az.rd hd (Rd.eql hx hy) k
variable {j t:Nat} {b c:Bool}
theorem gA {x:Operand} (k:az P N all rest (cp ρ d v) σ Γ K) (hj:(all[j]?).bind (·.dst)=some t:=by exact rfl) (hb:ρ t=.bool c:=by exact rfl) (hc:c=b:=by first|exact rfl|exact(by first|exact(rfl:decide _=true)|exact(rfl:decide _=false)|(refine decide_eq_true ?_;assumption)|(refine decide_eq_false ?_;assumption)|(refine decide_eq_true ?_;omega)|(refine decide_eq_false ?_;omega))) (hd:Nat.blt d N=true:=by exact rfl) (hv:ev ρ x=v:=by with_reducible (conv=>lhs;whnf)):az P N all (⟨some d,.move x,ty,pos,af,some (j,b)⟩::rest) ρ σ Γ K:=zG (yA k hd hv) hj hb hc
theorem gE {x y:Operand} {kk:IntKind} {a e:Int} {T T':TypeId} (k:az P N all rest (cp ρ d (.bool (decide (a=e)))) σ Γ K) (hj:(all[j]?).bind (·.dst)=some t:=by exact rfl) (hb:ρ t=.bool c:=by exact rfl) (hc:c=b:=by first|exact rfl|exact(by first|exact(rfl:decide _=true)|exact(rfl:decide _=false)|(refine decide_eq_true ?_;assumption)|(refine decide_eq_false ?_;assumption)|(refine decide_eq_true ?_;omega)|(refine decide_eq_false ?_;omega))) (hx:ev ρ x=.int kk a:=by exact rfl) (hy:ev ρ y=.int kk e:=by exact rfl) (hd:Nat.blt d N=true:=by exact rfl):az P N all (⟨some d,.binOp .eql T x y T',ty,pos,af,some (j,b)⟩::rest) ρ σ Γ K:=zG (yE k hx hy hd) hj hb hc
theorem gV {T:TypeId} {x:Operand} {f g o n m:Nat} {r:Ty} {fs:List (TypeId×Nat)} {ft:TypeId} {r':Ty} (k:az Tryz.prog N all rest (cp ρ d (.pointer (some ⟨g,m,none⟩))) σ Γ K) (hj:(all[j]?).bind (·.dst)=some t:=by exact rfl) (hb:ρ t=.bool c:=by exact rfl) (hc:c=b:=by first|exact rfl|exact(by first|exact(rfl:decide _=true)|exact(rfl:decide _=false)|(refine decide_eq_true ?_;assumption)|(refine decide_eq_false ?_;assumption)|(refine decide_eq_true ?_;omega)|(refine decide_eq_false ?_;omega))) (hx:ev ρ x=.pointer (some ⟨g,o,none⟩):=by exact rfl) (hT:av Tryz.prog T=some r:=by exact ad rfl) (hk:r.k=.struct fs:=by rfl) (hf:fs[f]? =some (ft,n):=by rfl) (Ip:av Tryz.prog ft=some r':=by exact ad rfl) (hz:Nat.beq r'.size 0=false:=by rfl)
 (ho:o+n=m:=by first|(conv=>lhs;simp only[Nat.reduceAdd,Nat.zero_add,Nat.add_zero,Nat.reduceMul,Nat.mul_one,Int.toNat_natCast,Int.reduceToNat,Nat.zero_mul])|rfl) (hd:Nat.blt d N=true:=by exact rfl):az Tryz.prog N all (⟨some d,.fieldAddr T x f,ty,pos,af,some (j,b)⟩::rest) ρ σ Γ K:=zG (yV k hx hT hk hf Ip hz ho hd) hj hb hc
theorem gB {T:TypeId} {x:Operand} {r:Ty} {g o:Nat} (k:az Tryz.prog N all rest (cp ρ d v) σ Γ K) (hj:(all[j]?).bind (·.dst)=some t:=by exact rfl) (hb:ρ t=.bool c:=by exact rfl) (he:c=b:=by first|exact rfl|exact(by first|exact(rfl:decide _=true)|exact(rfl:decide _=false)|(refine decide_eq_true ?_;assumption)|(refine decide_eq_false ?_;assumption)|(refine decide_eq_true ?_;omega)|(refine decide_eq_false ?_;omega))) (hx:ev ρ x=.pointer (some ⟨g,o,none⟩):=by exact rfl) (hT:av Tryz.prog T=some r:=by exact ad rfl) (hk:r.k.agg=false:=by exact rfl) (hc:j3 (Ho σ Γ) g o v:=by first|(exact j3.au (by((repeat (first|with_reducible exact b6.head|apply b6.tail));(first|done|fail))) (by first|rfl|assumption))|(exact j3.wN (by first|assumption))|(exact j3.bn (by((repeat (first|with_reducible exact b6.head|apply b6.tail));(first|done|fail))) (by first|rfl|assumption))) (hd:Nat.blt d N=true:=by exact rfl):az Tryz.prog N all (⟨some d,.load T x,ty,pos,af,some (j,b)⟩::rest) ρ σ Γ K:=zG (yB k hx hT hk hc hd) hj hb he
end
theorem yC {all:Array Oper} {rest:List Oper} {d:Option Nat} {ty:TypeId} {pos:String} {af:Array Edge} {f:FuncId} {args:List Operand} {jx:Array TypeId} {vs:List Value} {v:Value} {bp G Δ Ω:List HP} (hc:ae P f vs.toArray σ bp (aE fun u ag ah=>u=v∧σ=ag∧ah=G)) (k:az P N all rest (fX ρ d v) σ Ω K) (hv:args.map (ev ρ)=vs:=by exact rfl)
 (he:aw Γ (bp++Δ):=by(repeat (first|exact aw.all _|(apply aw.take;focus (first|((repeat (first|with_reducible exact b6.head|apply b6.tail));done)|((repeat (first|exact b6.head|apply b6.tail));done)))|apply aw.kC|apply aw.mc));(first|done|fail)) (ho:G++Δ=Ω:=by conv=>lhs;dsimp only[List.cons_append,List.nil_append]) (hd:ei N d=true:=by exact rfl):az P N all (⟨d,.call {callee:=.value (.func f),args:=args.toArray,argTypes:=jx},ty,pos,af,none⟩::rest) ρ σ Γ K:=
 az.fL hd (aC.cE hc hv he) (fun u ag ah h=>by obtain⟨b7,⟨rfl,rfl,rfl⟩,rfl⟩:=h;exact ho▸k)
abbrev yF:=@XA.aR
abbrev yT:=@XA.bG
end X
namespace X
open Go
theorem Wr.nb {P:Program} {ρ:Env} {h:Heap} {T e:TypeId} {x y:Operand} {ty:TypeId} {r re:Ty} {n m c g o:Nat} {p0:Option Addr} {xs news:List Value} (hT:av P T=some r) (hk:r.k=.slice e) (hE:av P e=some re) (hz:re.zero.length=re.size)
 (hx:∀j u,xs[j]? =some u→∃g0 o0,p0=some ⟨g0,o0,none⟩∧EL h g0 (o0+j) u) (hp:p0=none→n=0) (Ks:xs.length=n*re.size) (hs:ev ρ x=.slice p0 n n) (bL:Row h g o news) (hy:ev ρ y=.slice (some ⟨g,o,none⟩) m c) (hl:news.length=m*re.size) (h1:dn news) (hm:0<m) (zg:n+m≤maxLen) (hb:(n+m)*re.bytes≤140737488355328):
 Wr P ρ h (.call {callee:=.builtin .append,args:=#[x,y],argTypes:=#[T,T]}) ty (fun v' h'=>tQ h' e re.size v' (n+m) (xs++news) (fun k=>h.size≤k)∧Ac h h' none) mI:=by
 cases p0 with
 |none=>
  have:=hp rfl;subst this;have SB:xs=[]:=List.eq_nil_of_length_eq_zero (by simpa using Ks);subst SB;refine⟨fun d pos af gd a w next Q he hw hn O8=>?_⟩;refine(Wr.append (F:=fun _=>False) hT hk hE hz (tQ.nil _ _ _ _) hs bL hy hl h1 hm zg hb).out d pos af gd a w next Q he hw (fun v' w' s q=>hn v' w' s ⟨q.1.Tc (fun g _ hg=>hg.elim (fun z=>z.elim) id),q.2.1⟩) (fun _ _ _ q=>q.elim)
 |some a0=>
  (refine Wr.run fun d pos af gd w hw=>?_);obtain⟨dd,i,z,e1,e2,-⟩:=aD hT;obtain⟨tO,i',z',rN,qI,jz,kA,z8,vk,zf⟩:=aD hE;rw[hk] at e2;(cases dd<;>simp[kindOf] at e2);rw[e2] at e1;clear e2;(have eA:∀j u,news[j]? =some u→w.cell? ((⟨g,o,none⟩:Addr).add j)=some u:=fun j u hu=>by rw[addr_add];exact(bL.OX hu).cell hw);(have vm:z'.cells.size=re.size:=by rw[←Array.length_toList,zf,hz]);(have O7:n+m≤9223372036854775807:=by simp only[maxLen] at zg;omega);(have hlen:(xs++news).length=(n+m)*re.size:=by rw[List.length_append,Ks,hl,Nat.add_mul]);have pJ:news.length=m*i'.size:=by rw[kA];exact hl
  have mN:∀v' w',(Builtin.append_ #[T,T] ty #[.slice (some a0) n n,.slice (some ⟨g,o,none⟩) m c]).run P w=.ok v' w'→(execOp (ev ρ) ⟨d,.call {callee:=.builtin .append,args:=#[x,y],argTypes:=#[T,T]},ty,pos,af,gd⟩).run P w=.ok (.value v') w':=fun v' w' hr=>by
   simp only[execOp,resolve,invoke,builtin,Sem.run_bind,Sem.run_pure,Result.andThen_ok,List.map_toArray,List.map_cons,List.map_nil,hs,hy,hr]
  have holds:∀j u,xs[j]? =some u→w.cell? (a0.add j)=some u:=fun j u hu=>by
   obtain⟨g0,o0,e0,hc⟩:=hx j u hu;simp only[Option.some.injEq] at e0;rw[e0,addr_add];exact hc.cell hw
  have hr:=run_append_grow (P:=P) w T ty e i' z' e1 jz vk a0 n n xs (by rw[kA];exact Ks) holds ⟨g,o,none⟩ m c news pJ eA (by omega) (by omega) (growslice_fits (by omega) (by rw[z8];exact hb));have Io:=grownCap_ge w (n+m) n e;have zh:grownCap w (n+m) n e≤maxLen:=grownCap_le_maxLen w (n+m) n e zg;refine⟨_,_,mN _ _ hr,⟨rfl,rfl,rfl⟩,⟨hlen,.inr ⟨w.heap.size,_,(xs.toArray++news.toArray++Builtin.zeroCells z'.cells (grownCap w (n+m) n e-(n+m))).toList,rfl,by rw[←hw];exact Nat.le_refl _,?_,Io,zh,?_,?_⟩⟩,⟨by rw[←hw];simp[World.alloc],fun k hk _=>by rw[←hw] at hk⊢;exact iK hk⟩⟩
  ·exact⟨by rw[Array.toArray_toList];exact iL rfl⟩
  ·simp only[Array.length_toList,Array.size_append,List.size_toArray,size_zeroCells,vm,Ks,hl,←Nat.add_mul];apply Nat.mul_le_mul_right;omega
  ·simp only[Array.toList_append,List.append_assoc];rw[←List.append_assoc,←hlen];exact List.take_left
section
variable {P:Program} {ρ:Env} {S:Heap→Prop} {ty:TypeId}
theorem Rd.n8 {T:TypeId} {x y:Operand} {r re:Ty} {e len cap:Nat} {a:Option Addr} {i:Nat} {kk:IntKind} (hT:av P T=some r) (hk:r.k=.slice e) (hE:av P e=some re) (hx:ev ρ x=.slice a len cap) (hy:ev ρ y=.int kk i) (hi:i≤cap):Rd P ρ S (.slice T x none (some y) none) ty (.slice a i cap):=by
 have:=Rd.sliceTo (P:=P) (S:=S) (ty:=ty) hT hk hE hx hy ⟨by omega,by omega⟩;simpa using this
end
end X
namespace X
open Go
variable {P:Program} {N:Nat} {ρ:Env} {σ:PH} {Γ:List HP} {K:KA}
theorem sd {o:Oper} {a:Act} {next next':Act→World→Prop} {Q Q':Exit→Act→World→Prop} (hn:∀a w,next a w→next' a w) (hp:∀c a w,Q (.panic c) a w→Q' (.panic c) a w) (ho:LetsOut Q→LetsOut Q'):∀{r:Result Next},o.upon P a next Q r→o.upon P a next' Q' r:=by
 intro r h;unfold Oper.upon at h⊢;split at h
 ·exact hn _ _ h
 ·exact hn _ _ h
 ·exact hn _ _ h
 ·refine Calls.mono h ?_;rintro e w' he
  cases e with
  |returned v=>exact hn _ _ he
  |panicked c=>exact hp _ _ _ he
  |outgrown=>exact ho he
 ·exact Rows.mono h (fun v w' hv=>hn _ _ hv)
 ·exact hp _ _ _ h
 ·exact h.elim
theorem XO.append {all:Array Oper} {l2:List Oper} {l1:List Oper} {h:Heap} {K:jb} (hx:XO P N all l1 ρ h (Dc (fun ρ h=>XO P N all l2 ρ h K) K)):XO P N all (l1++l2) ρ h K:=by
 refine⟨fun w0 a w hs hh he=>?_⟩;have h0:=hx.out w0 a w hs hh he
 have key:∀(l1:List Oper) (a1:Act) (w1:World),wpList P all (ll w0 a.defers N (Dc (fun ρ h=>XO P N all l2 ρ h K) K)) l1 a1 w1→wpList P all (ll w0 a.defers N K) (l1++l2) a1 w1:=by
  intro l1
  induction l1 with
  |nil=>
   intro a1 w1 h1;obtain⟨e1,e2,cI,e3,e4⟩:ll w0 a.defers N (Dc (fun ρ h=>XO P N all l2 ρ h K) K) .normal a1 w1:=h1;have h2:XO P N all l2 cI w1.heap K:=e4;have:=h2.out w0 a1 w1 e2 rfl e3;rw[e1] at this;exact this
  |cons o l ih=>
   intro a1 w1 h1;simp only[List.cons_append];unfold wpList at h1⊢;split
   ·rename_i hw;rw[if_pos hw] at h1;(have ho:LetsOut (ll w0 a.defers N (Dc (fun ρ h=>XO P N all l2 ρ h K) K))→LetsOut (ll w0 a.defers N K):=fun⟨a2,w2,q⟩=>⟨a2,w2,q⟩);refine h1.imp (fun hq=>sd (fun a' w'=>ih a' w') (fun c a' w' q=>q) ho hq) (fun hq=>⟨hq.1,ho hq.2⟩)
   ·rename_i hw;rw[if_neg hw] at h1;exact ih _ _ h1
 exact key l1 a w h0
theorem az.join {all:Array Oper} {l l1 l2:List Oper} {τ:Type} (hl:l=l1++l2) (L:List (Nat×Nat)) (E:τ→List (Nat×Value)) (I:τ→PH→List HP→Prop)
 (hx:az P N all l1 ρ σ Γ (mJ (fun cI ag ah=>eW L ρ cI∧∃x Δ,vp cI (E x)∧aw ah Δ∧I x ag Δ) K))
 (hk:∀x δ ag Δ,I x ag Δ→az P N all l2 ((E x).foldl (fun r p=>cp r p.1 p.2) (eb L ρ δ)) ag Δ K):az P N all l ρ σ Γ K:=by
 subst hl;refine⟨fun f h hh=>XO.append ?_⟩;have h0:=hx.out f h hh;refine⟨fun w0 a w hs hw he=>?_⟩;have h1:=h0.out w0 a w hs hw he
 have key:∀(l:List Oper) (a1:Act) (w1:World),wpList P all (ll w0 a.defers N (KF f (mJ (fun cI ag ah=>eW L ρ cI∧∃x Δ,vp cI (E x)∧aw ah Δ∧I x ag Δ) K))) l a1 w1→wpList P all (ll w0 a.defers N (Dc (fun ρ h=>XO P N all l2 ρ h (KF f K)) (KF f K))) l a1 w1:=by
  intro l
  induction l with
  |nil=>
   rintro a1 w1 ⟨e1,e2,cI,e3,ag,ah,⟨k1,x,Δ,k2,k3,k4⟩,e5⟩;refine⟨e1,e2,cI,e3,?_⟩;have:=(hk x cI ag Δ k4).out f w1.heap (e5.eS k3);rw[Aa k1,lF k2] at this;exact this
  |cons o l ih=>
   intro a1 w1 h1;unfold wpList at h1⊢;(have ho:LetsOut (ll w0 a.defers N (KF f (mJ (fun cI ag ah=>eW L ρ cI∧∃x Δ,vp cI (E x)∧aw ah Δ∧I x ag Δ) K)))→LetsOut (ll w0 a.defers N (Dc (fun ρ h=>XO P N all l2 ρ h (KF f K)) (KF f K))):=fun⟨a2,w2,q⟩=>⟨a2,w2,q⟩);split
   ·rename_i hw;rw[if_pos hw] at h1;exact h1.imp (fun hq=>sd (fun a' w'=>ih a' w') (fun c a' w' q=>q) ho hq) (fun hq=>⟨hq.1,ho hq.2⟩)
   ·rename_i hw;rw[if_neg hw] at h1;exact ih _ _ h1
 exact key l1 a w h1
end X
end Go.Proofs.YtgeoiflbjcehcaaGreatDoor
namespace Go.Proofs.YtgeoiflbjcehcaaGreatDoor
open Go X Go.ChangeShapes Go.WideShapes Go.ChangeAt Go.RowKit
variable {H:Type} {enc:TypeId×Value→H} {P:Program}
theorem xq (hl:laidOutB P=true) {W W':World} (hb:Below W.heap.size W W'):∀(ts:List TypeId) {vs:List Value} {ds:List (DataW H)} {ps:List MemPlace},(∀t∈ts,P.readableRec t=true∧t<P.types.size)→
 DataW.TrodAll enc P W 0 (fun _=>true) true ts vs ds ps→(∀p∈ps,p.block<W.heap.size)→DataW.TrodAll enc P W' 0 (fun b=>decide (b<W.heap.size)) true ts vs ds ps
 |[],_,_,_,_,h,_=>by
  obtain⟨rfl,rfl,rfl⟩:=trodAll_nil h;exact trodAll_mk0
 |t::ts,_,_,_,ht,h,hp=>by
  obtain⟨v,Wb,d,ds',p,q,rfl,rfl,rfl,h1,h2⟩:=trodAll_cons h;have Wc:=ht t (by simp);exact⟨p,q,Below.trod hl Wc.1 Wc.2 h1 hb (fun x hx=>hp x (by simp[hx])),xq hl hb ts (fun t' Xx=>ht t' (by simp[Xx])) h2 (fun x hx=>hp x (by simp[hx])),rfl⟩
theorem Fq {W W':World} (hs:ec W W') (hx:Ext W.heap W'.heap):Below W.heap.size W W':=⟨hs.os,hs.tape,hs.output,hx.size,hx.get⟩
theorem Dm {fid:FuncId} {f:Func} {s:ChangeSpec} {W:World} {args:Array Value} {ds gs:List (DataW H)} {before:List MemPlace} {tb:TypeId} (hl:laidOutB P=true)
 (ln:(f.params.toList.all fun t=>P.readableRec t&&decide (t<P.types.size))=true) (hv:s.vars=[]) (hrt:f.resultTypes=#[tb]) (hub:P.underlying tb=some .bool) (Qm:s.fn H (ds++gs)={results:=[.lit (.bool true)],args:=ds})
 (hW:DataW.Whole enc P f.params.toList s.vars false W args.toList ds gs before) (hc:fH P fid args W.heap (Ret fun v h'=>v=.bool true∧Ext W.heap h')):
 Calls P fid args W fun e W'=>∃v,e=.returned v∧s.post enc P f false true false false W args v W':=by
 refine(hc.2 W rfl).mono ?_;rintro e W' ⟨hs,hr⟩
 cases e with
 |returned v=>
  obtain⟨rfl,hx⟩:=hr;have hb:=Fq hs hx;have aT:=hW.lt;have hW0:=hW;obtain⟨p,q,hA,hV,rfl,-,-⟩:=hW;rw[hv] at hV;obtain⟨rfl,rfl⟩:=trodVars_none hV;refine⟨_,rfl,ds,[],p++[],[],p,[],hW0,?_,?_,?_,hb.frame _,fun e=>by cases e⟩
  ·rw[Qm,hrt];exact trodAll_mk1 (shut_bool hub true)
  ·rw[Qm];refine xq hl hb _ ?_ hA (fun x hx=>aT x (by simp[hx]));intro t ht;have:=List.all_eq_true.1 ln t ht;simpa using this
  ·rw[Qm,hv];rfl
 |panicked c=>exact hr.elim
 |outgrown=>exact hr.elim
end Go.Proofs.YtgeoiflbjcehcaaGreatDoor
namespace Go.Proofs.YtgeoiflbjcehcaaGreatDoor
open Go X
namespace X
abbrev RT (α:Type):=PH→List Value→α→Prop
structure Dec {α:Type} (P:Program) (t:TypeId) (R:RT α):Prop where
 out:∀{H:Type} {enc:TypeId×Value→H} {w:World} {fuel:Nat} {cs:List Value} {x:DataW H×List MemPlace},DataW.trod enc P w 0 (fun _=>true) true fuel t cs=some x→∃y,R (ek w.heap) cs y
variable {P:Program} {t e:TypeId}
theorem sf {H:Type} {enc:TypeId×Value→H} {w:World} {base:Nat} {spare:Nat→Bool} {held:Bool} {fuel:Nat} {cs:List Value} {x:DataW H×List MemPlace} (h:DataW.trod enc P w base spare held fuel t cs=some x):∃k,fuel=k+1:=by
 cases fuel with
 |zero=>simp[DataW.trod] at h
 |succ k=>exact⟨k,rfl⟩
def UC (k:IntKind):RT Int:=fun _ cs n=>cs=[.int k n]∧k.min≤n∧n≤k.max
def UD:RT Bool:=fun _ cs b=>cs=[.bool b]
def n9:RT ByteArray:=fun _ cs s=>cs=[.string s]∧s.size≤maxLen
theorem ng {r:Ty} (hT:av P t=some r):∃d,P.underlying t=some d∧kindOf d=r.k∧P.cellsOf t=r.size:=by
 obtain⟨d,i,z,e1,e2,e3,e4,-⟩:=aD hT;exact⟨d,e1,e2,by simp[Program.cellsOf,e3,e4]⟩
theorem Dec.int {r:Ty} {k:IntKind} (hT:av P t=some r) (hk:r.k=.int k):Dec P t (UC k):=⟨fun {H enc w fuel cs x} h=>by
 obtain⟨d,e1,e2,-⟩:=ng hT;rw[hk] at e2;(cases d<;>simp[kindOf] at e2);subst e2;obtain⟨n,rfl⟩:=sf h;unfold DataW.trod at h;rw[e1] at h;dsimp only at h;(split at h<;>simp_all);rename_i k' n' heq;obtain⟨⟨rfl,hw⟩,-⟩:=h;obtain⟨rfl,rfl⟩:=heq;simp[Lit.wf] at hw
 exact⟨n',rfl,hw.1,hw.2⟩⟩
theorem Dec.bool {r:Ty} (hT:av P t=some r) (hk:r.k=.bool):Dec P t UD:=⟨fun {H enc w fuel cs x} h=>by
 obtain⟨d,e1,e2,-⟩:=ng hT;rw[hk] at e2;(cases d<;>simp[kindOf] at e2);obtain⟨n,rfl⟩:=sf h;unfold DataW.trod at h;rw[e1] at h;dsimp only at h;split at h
 all_goals first|exact⟨_,rfl⟩|(simp_all;done)⟩
theorem Dec.str {r:Ty} (hT:av P t=some r) (hk:r.k=.string):Dec P t n9:=⟨fun {H enc w fuel cs x} h=>by
 obtain⟨d,e1,e2,-⟩:=ng hT;rw[hk] at e2;(cases d<;>simp[kindOf] at e2);obtain⟨n,rfl⟩:=sf h;unfold DataW.trod at h;rw[e1] at h;dsimp only at h;split at h
 all_goals first|(split at h;exact⟨_,rfl,by assumption⟩;cases h;done)|(simp_all;done)⟩
theorem vu {w:World} {g o:Nat} {vs:List Value} (fW:0<vs.length) (hc:∀k,k<vs.length→w.cell? ⟨g,o+k,none⟩=vs[k]?):Row w.heap g o vs:=by
 have h0:=hc 0 fW
 have key:∃c T fr,w.heap[g]? =some (.cells c T fr):=by
  unfold World.cell? at h0;split at h0
  ·exact⟨_,_,_,by assumption⟩
  ·rw[List.getElem?_eq_getElem fW] at h0;cases h0
 obtain⟨c,T,fr,hg⟩:=key;refine⟨c,T,fr,hg,?_⟩
 have hk:∀k,k<vs.length→c.toList[o+k]? =vs[k]? :=fun k hk=>by
  have:=hc k hk;simp[World.cell?,hg] at this;simpa using this
 apply List.ext_getElem?;intro k;rcases Nat.lt_or_ge k vs.length with hl|hl
 ·rw[List.getElem?_take,if_pos hl,List.getElem?_drop,hk k hl]
 ·rw[List.getElem?_eq_none hl,List.getElem?_eq_none (by simp;omega)]
theorem qP {α:Type} {s:Nat}:∀{rows:List (List α)},(∀r∈rows,r.length=s)→∀i j,i<rows.length→j<s→rows.flatten[i*s+j]? =(rows[i]?).bind (·[j]?)
 |[],_,i,_,hi,_=>by simp at hi
 |r::rows,hr,0,j,_,hj=>by
  have:=hr r (by simp);simp[List.getElem?_append_left (show j<r.length by omega)]
 |r::rows,hr,i+1,j,hi,hj=>by
  have h1:=hr r (by simp);have h2:=qP (rows:=rows) (fun r' j4=>hr r' (List.mem_cons_of_mem _ j4)) i j (by simpa using hi) hj;simp only[List.flatten_cons];rw[List.getElem?_append_right (by rw[h1,Nat.succ_mul];omega),h1,show (i+1)*s+j-s=i*s+j by rw[Nat.succ_mul];omega,h2];simp
theorem jC {α:Type} {s:Nat}:∀{rows:List (List α)},(∀r∈rows,r.length=s)→rows.flatten.length=rows.length*s
 |[],_=>by simp
 |r::rows,hr=>by
  have h:=jC (rows:=rows) (fun r' j4=>hr r' (List.mem_cons_of_mem _ j4));rw[List.flatten_cons,List.length_append,h,hr r (by simp),List.length_cons,Nat.succ_mul];omega
def bO {α:Type} (s:Nat) (R:RT α) (σ:PH) (v:Value) (xs:List α):Prop:=
 ∃(p:Option Addr) (c:Nat) (rows:List (List Value)),v=.slice p xs.length c∧xs.length≤c∧c≤maxLen∧rows.length=xs.length∧(∀row∈rows,row.length=s)∧(∀(i:Nat) (row:List Value) (x:α),rows[i]? =some row→xs[i]? =some x→R σ row x)∧(0<xs.length→∃g o,p=some ⟨g,o,none⟩∧cz σ g o rows.flatten)
theorem bO.shape {α:Type} {s:Nat} {R:RT α} {σ:PH} {v:Value} {xs:List α} (h:bO s R σ v xs):∃p c,v=.slice p xs.length c∧xs.length≤c∧c≤maxLen:=by
 obtain⟨p,c,rows,h1,h2,h3,-⟩:=h;exact⟨p,c,h1,h2,h3⟩
theorem bO.at {α:Type} {s n c:Nat} {R:RT α} {σ:PH} {p:Option Addr} {xs:List α} (h:bO s R σ (.slice p n c) xs) {k:Nat} {x:α} (hk:xs[k]? =some x):∃g o row,p=some ⟨g,o,none⟩∧R σ row x∧row.length=s∧cz σ g (o+k*s) row:=by
 obtain⟨p',c',rows,h1,h2,h3,h4,h5,h6,h7⟩:=h;simp only[Value.slice.injEq] at h1;obtain⟨rfl,rfl,rfl⟩:=h1;have aT:=(List.getElem?_eq_some_iff.1 hk).1;obtain⟨g,o,rfl,hr⟩:=h7 (by omega);have Xy:rows[k]? =some rows[k]:=List.getElem?_eq_getElem (by omega);have hl:=h5 _ (List.mem_of_getElem? Xy);refine⟨g,o,rows[k],rfl,h6 k _ x Xy hk,hl,hr.sub (j:=k*s) ?_⟩
 have key:∀(rows:List (List Value)),(∀row∈rows,row.length=s)→∀(k:Nat) (row:List Value),rows[k]? =some row→(rows.flatten.drop (k*s)).take row.length=row:=by
  intro rows hr k row hk;have:=lD (fun r:List Value=>r) s rows hr k row hk;simpa[List.flatMap] using this
 exact key rows h5 k _ Xy
def Xz {α:Type} (s:Nat) (R:RT α):RT (List α):=fun σ cs xs=>∃v,cs=[v]∧bO s R σ v xs
theorem Ai {α:Type} {s len cap:Nat} {R:RT α} {w:World} {a:Addr} (Dg:0<s) (hle:len≤cap) (vv:cap≤maxLen) (bL:∀i,i<len→∃row,row.length=s∧(∀j,j<s→w.cell? ((a.add (i*s)).add j)=row[j]?)∧∃y,R (ek w.heap) row y):
 ∃y,Xz s R (ek w.heap) [.slice (some a) len cap] y:=by
 obtain⟨rows,ys,zi,Wd,SC⟩:∃(rows:List (List Value)) (ys:List α),rows.length=len∧ys.length=len∧∀i,i<len→∃row y,rows[i]? =some row∧ys[i]? =some y∧row.length=s∧(∀j,j<s→w.cell? ((a.add (i*s)).add j)=row[j]?)∧R (ek w.heap) row y:=by
  induction len with
  |zero=>exact⟨[],[],rfl,rfl,fun i hi=>absurd hi (Nat.not_lt_zero _)⟩
  |succ n ih=>
   obtain⟨rows,ys,h1,h2,h3⟩:=ih (by omega) (fun i hi=>bL i (by omega));obtain⟨row,r1,r2,y,r3⟩:=bL n (by omega);refine⟨rows++[row],ys++[y],by simp[h1],by simp[h2],fun i hi=>?_⟩;rcases Nat.lt_or_ge i n with hl|hl
   ·obtain⟨Aj,y',q1,q2,q3⟩:=h3 i hl;exact⟨Aj,y',by rw[List.getElem?_append_left (by omega)];exact q1,by rw[List.getElem?_append_left (by omega)];exact q2,q3⟩
   ·(have:i=n:=by omega);subst this;exact⟨row,y,by rw[List.getElem?_append_right (by omega),h1];simp,by rw[List.getElem?_append_right (by omega),h2];simp,r1,r2,r3⟩
 have bF:∀row∈rows,row.length=s:=fun row hm=>by
  obtain⟨i,hi,rfl⟩:=List.mem_iff_getElem.1 hm;obtain⟨Aj,y,q1,-,q3,-⟩:=SC i (by omega);rw[List.getElem?_eq_getElem hi] at q1;simp only[Option.some.injEq] at q1;rw[q1];exact q3
 refine⟨ys,_,rfl,some a,cap,rows,by rw[Wd],by omega,vv,by omega,bF,fun i row y q1 q2=>?_,fun rB=>?_⟩
 ·obtain⟨Aj,y',p1,p2,-,-,p5⟩:=SC i (by rw[←zi];exact(List.getElem?_eq_some_iff.1 q1).1);rw[q1] at p1;rw[q2] at p2;simp only[Option.some.injEq] at p1 p2;subst p1;subst p2;exact p5
 ·rw[Wd] at rB
  have SD:a.spot=none:=by
   obtain⟨row,y,q1,-,q3,q4,-⟩:=SC 0 rB;have:=q4 0 Dg;rw[Nat.zero_mul] at this;simp only[Addr.add,if_true] at this;rw[List.getElem?_eq_getElem (by omega)] at this;unfold World.cell? at this;split at this
   ·cases hq:a.spot with
    |none=>rfl
    |some z=>rw[hq] at this;simp at this
   ·cases this
  obtain⟨g,o,sp⟩:=a;simp only at SD;subst SD;refine⟨g,o,rfl,cz.of (vu (by rw[jC bF,zi];exact Nat.mul_pos rB Dg) fun k hk=>?_)⟩;rw[jC bF,zi] at hk;have hi:k/s<len:=Nat.div_lt_of_lt_mul (by rw[Nat.mul_comm];exact hk);have hj:k%s<s:=Nat.mod_lt _ Dg;obtain⟨row,y,q1,-,q3,q4,-⟩:=SC (k/s) hi;have h1:=q4 (k%s) hj;rw[addr_add,addr_add] at h1;(have hdm:k/s*s+k%s=k:=by rw[Nat.mul_comm];exact Nat.div_add_mod k s);rw[show o+k/s*s+k%s=o+k by omega] at h1;rw[h1];have:=qP bF (k/s) (k%s) (by omega) hj;rw[hdm] at this;rw[this,q1];rfl
theorem Dec.slice {α:Type} {r re:Ty} {s:Nat} {R:RT α} (hT:av P t=some r) (hk:r.k=.slice e) (hE:av P e=some re) (hs:re.size=s) (Dg:0<s) (hd:Dec P e R):Dec P t (Xz s R):=⟨fun {H enc w fuel cs x} h=>by
 obtain⟨d,e1,e2,-⟩:=ng hT;obtain⟨d',-,-,e3⟩:=ng hE;rw[hk] at e2;(cases d<;>simp[kindOf] at e2);subst e2;obtain⟨rfl,-⟩|⟨a,len,cap,elems,rest,n,rfl,rfl,-,-,hle,vv,hlen,H3,-,-⟩:=DataW.trod_slice e1 h
 ·exact⟨[],_,rfl,none,0,[],rfl,Nat.le_refl _,by simp[maxLen],rfl,by simp,by simp,by simp⟩
 ·rw[e3,hs] at H3
  have bL:∀i,i<len→∃row,row.length=s∧(∀j,j<s→w.cell? ((a.add (i*s)).add j)=row[j]?)∧∃y,R (ek w.heap) row y:=fun i hi=>by
   have hy:=H3 i hi;rw[List.getElem?_eq_getElem (by omega)] at hy;simp only[Option.bind_eq_some_iff] at hy;obtain⟨row,h1,h2⟩:=hy;obtain⟨-,h3,h4⟩:=World.cells?_some h1;exact⟨row,h3,h4,hd.out h2⟩
  exact Ai Dg hle vv bL⟩
theorem bO.mono {α:Type} {s:Nat} {R:RT α} {σ ag:PH} {v:Value} {xs:List α} (hs:σ.sub ag) (hR:∀cs x,R σ cs x→R ag cs x) (h:bO s R σ v xs):bO s R ag v xs:=by
 obtain⟨p,c,rows,h1,h2,h3,h4,h5,h6,h7⟩:=h;exact⟨p,c,rows,h1,h2,h3,h4,h5,fun i row x a b=>hR _ _ (h6 i row x a b),fun hp=>by obtain⟨g,o,e,r⟩:=h7 hp;exact⟨g,o,e,r.mono hs⟩⟩
theorem bO.nil {α:Type} (s:Nat) (R:RT α) (σ:PH):bO s R σ (.slice none 0 0) []:=⟨none,0,[],rfl,Nat.le_refl _,by simp[maxLen],rfl,by simp,by simp,by simp⟩
theorem xr {fid:FuncId} {args:Array Value} {h:Heap} (hc:ae P fid args (ek h) [] (aE fun v ag _=>v=.bool true∧(ek h).sub ag)):fH P fid args h (Ret fun v h'=>v=.bool true∧Ext h h'):=by
 have hh:Holds (ek h) [] PH.none h:=⟨PH.none,trivial,PH.none_le h,uv h,PH.none_le h,(PH.cK _).symm,PH.cK _,PH.cK _⟩;refine fH.mono (hc.2 PH.none h hh) ?_;rintro e h' ⟨ag,ah,hr,je⟩
 cases e with
 |returned v=>
  obtain⟨rfl,hs⟩:=hr;have hle:=hs.le je.wN;refine⟨rfl,?_,fun k hk=>?_⟩
  ·rcases Nat.lt_or_ge h'.size h.size with hl|hl
   ·have:=hle.lt (k:=h'.size) (o:=h[h'.size]) (by simp[ek,hl]);omega
   ·exact hl
  ·rw[Array.getElem?_eq_getElem hk];exact hle k _ (by simp[ek,hk])
 |panicked c=>exact hr
 |outgrown=>exact hr
end X
end Go.Proofs.YtgeoiflbjcehcaaGreatDoor
namespace Go.Proofs.YtgeoiflbjcehcaaGreatDoor
open Go X Go.ChangeShapes Go.WideShapes Go.ChangeAt Go.RowKit
theorem Tryz.own:ownKnob Tryz.prog.godebug=none:=by kernel_rfl
theorem Tryz.laidOut:laidOutB Tryz.prog=true:=by kernel_rfl
namespace X
theorem Fs {P:Program} {W:World} {r:Reach} {base:Nat} {t:TypeId} {v u:Value} {ty:Ty} (hT:av P t=some ty) (hk:ty.k.agg=false) (hw:Value.okWide P W r base t v) (h:v.cells.toList=[u]):v=u:=by
 obtain⟨d,e1,e2,-⟩:=ng hT;rw[←e2] at hk
 cases v with
 |agg cs=>
  exfalso;unfold Value.okWide at hw;rw[e1] at hw;cases d<;>simp_all [kindOf,TK.agg,Cell.okWide,Cell.ok]
 |_=>simpa[Value.cells] using h
theorem Dec.one {α:Type} {P:Program} {W:World} {r:Reach} {base:Nat} {t:TypeId} {v:Value} {ty:Ty} {R:RT α} {H:Type} {enc:TypeId×Value→H} {d:DataW H} {ps:List MemPlace} (hd:Dec P t R) (hT:av P t=some ty) (hk:ty.k.agg=false) (hw:Value.okWide P W r base t v)
 (h:DataW.Trod enc P W 0 (fun _=>true) true t v d ps) (h1:∀y cs,R (ek W.heap) cs y→∃u,cs=[u]):∃y,R (ek W.heap) [v] y:=by
 obtain⟨fuel,h⟩:=h;obtain⟨y,hy⟩:=hd.out h;obtain⟨u,hu⟩:=h1 y _ hy;have:=Fs hT hk hw hu;subst this;rw[hu] at hy;exact⟨y,hy⟩
theorem Ft {k:IntKind} {σ:PH}:∀y cs,UC k σ cs y→∃u,cs=[u]:=fun _ _ h=>⟨_,h.1⟩
end X
end Go.Proofs.YtgeoiflbjcehcaaGreatDoor
