import Derived.Test.YtgeoiflbjcehcaaGreatDoorDd5
import Derived.Recover
import Derived.Shelf.LaysM
import Derived.Shelf.LaysC
import Derived.Shelf.Strconv.Itoa4
import Derived.Shelf.Strconv.ParseIntPublic10
import Derived.Laws.Strings2
import Derived.Lib.ParseIntBTie
import Derived.Laws.Concat
set_option maxHeartbeats 4000000
set_option maxRecDepth 2000
set_option linter.unusedVariables false
set_option linter.unusedSimpArgs false
namespace Go.Proofs.YtgeoiflbjcehcaaGreatDoor
namespace X
open Go
def na (R:List PanicEntry→PH→List HP→Prop):Ending→PH→List HP→Prop
 |.panicked c,σ,Γ=>R c σ Γ
 |_,_,_=>False
section
variable {P:Program} {N:Nat} {ρ:Env} {σ:PH} {Γ:List HP} {K:KA}
theorem az.die {all:Array Oper} {rest:List Oper} {d:Option Nat} {f:FuncId} {args:List Operand} {mE:Array TypeId} {vs:List Value} {ty:TypeId} {pos:String} {af:Array Edge} {R:List PanicEntry→PH→List HP→Prop} {b6 Δ:List HP} (hd:gu N d=true)
 (hc:ah P f vs.toArray σ b6 (na R)) (hv:args.map (ev ρ)=vs) (kp:∀c aj cr,R c aj cr→DA K (.panic c) ρ aj (cr++Δ)) (he:ar Γ (b6++Δ):=by(repeat (first|exact ar.all _|(apply ar.take;focus (first|((repeat (first|with_reducible exact dm.head|apply dm.tail));done)|((repeat (first|exact dm.head|apply dm.tail));done)))|apply ar.od|apply ar.qy));(first|done|fail)):
 az P N all (⟨d,.call {callee:=.value (.func f),args:=args.toArray,argTypes:=mE},ty,pos,af,none⟩::rest) ρ σ Γ K:=
 az.wr hd (ax.z7 (first:=[]) (cap:=[]) rfl hc (by simpa using hv) he (fun _ _ h=>h)) (fun _ _ _ h=>by obtain⟨_,h,_⟩:=h;exact h.elim) (fun c aj al h=>by obtain⟨cr,h,rfl⟩:=h;exact kp c aj cr h)
theorem aP.die {ops:Array Oper} {da:PH} {Γs:List HP} {z:List Nat} {i:Nat} {pl:List (Nat×Kd)} {d:Option Nat} {f:FuncId} {args:List Operand} {mE:Array TypeId} {vs:List Value} {ty:TypeId} {pos:String} {af:Array Edge} {g:Option (Nat×Bool)} {R:List PanicEntry→PH→List HP→Prop} {b6 Δ:List HP}
 (hi:ops[i]? =some ⟨d,.call {callee:=.value (.func f),args:=args.toArray,argTypes:=mE},ty,pos,af,g⟩) (hd:gu N d=true) (hg:Gd ops ρ g true)
 (hc:ah P f vs.toArray σ b6 (na R)) (hv:args.map (ev ρ)=vs) (kp:∀c aj cr,R c aj cr→DA K (.panic c) ρ aj (cr++Δ)) (he:ar Γ (b6++Δ):=by(repeat (first|exact ar.all _|(apply ar.take;focus (first|((repeat (first|with_reducible exact dm.head|apply dm.tail));done)|((repeat (first|exact dm.head|apply dm.tail));done)))|apply ar.od|apply ar.qy));(first|done|fail)):
 aP P N ops da Γs z ((i,.wr)::pl) ρ σ Γ K:=
 aP.wr hi hd hg (ax.z7 (first:=[]) (cap:=[]) rfl hc (by simpa using hv) he (fun _ _ h=>h)) (fun _ _ _ h=>by obtain⟨_,h,_⟩:=h;exact h.elim) (fun c aj al h=>by obtain⟨cr,h,rfl⟩:=h;exact kp c aj cr h)
theorem az.throw {all:Array Oper} {rest:List Oper} {d:Option Nat} {x:Operand} {t:TypeId} {v:Value} {ty:TypeId} {pos:String} {af:Array Edge} (hd:gu N d=true) (hx:ev ρ x=.iface t v)
 (kp:DA K (.panic [{v:=.iface t v,recovered:=false}]) ρ σ Γ):az P N all (⟨d,.panic x,ty,pos,af,none⟩::rest) ρ σ Γ K:=
 az.wr (R:=fun _ _ _=>False) (pk:=fun c aj al=>c=[{v:=.iface t v,recovered:=false}]∧σ=aj∧al=Γ) hd
  ⟨fun f h hh=>⟨fun d pos af g a w next Q he hw _ hp=>by
   unfold Oper.wp
   have cZ:(execOp a.eval ⟨d,.panic x,ty,pos,af,g⟩).run P w=.halt (.panic (.iface t v)) w:=by
    rw[he];simp[execOp,Instr.panic,hx,goPanic]
   rw[cZ,Oper.upon_panic]
   exact hp _ w (gC.refl w) ⟨σ,Γ,⟨rfl,rfl,rfl⟩,hw▸hh⟩⟩⟩
  (fun _ _ _ h=>h.elim) (fun c aj al h=>by obtain⟨rfl,rfl,rfl⟩:=h;exact kp)
theorem Rd.mkI {S:Heap→Prop} {ty T:TypeId} {x:Operand} {v:Value} {r:Ty} {kk:IntKind} (hT:aX P T=some r) (hk:r.k=.int kk) (hx:ev ρ x=v):Rd P ρ S (.makeInterface T x) ty (.iface T v):=by
 (refine .pure fun d pos af g w=>?_);obtain⟨dd,i,z,e1,e2,-⟩:=aF hT;rw[hk] at e2;(cases dd<;>simp[kindOf] at e2);simp[execOp,Instr.makeInterface,run_underlying e1,hx]
theorem Rd.Pk {S:Heap→Prop} {ty T I:TypeId} {x:Operand} {v:Value} {r:Ty} {kk:IntKind} (hT:aX P T=some r) (hk:r.k=.int kk) (hx:ev ρ x=.iface T v):Rd P ρ S (.typeAssert x I T true) ty (.tuple #[v,.bool true]):=by
 (refine .pure fun d pos af g w=>?_);obtain⟨dd,i,z,e1,e2,-⟩:=aF hT;rw[hk] at e2;(cases dd<;>simp[kindOf] at e2);simp[execOp,Instr.typeAssert,run_underlying e1,hx]
theorem Rd.FG {S:Heap→Prop} {ty T I:TypeId} {x:Operand} {r:Ty} {kk:IntKind} (hT:aX P T=some r) (hk:r.k=.int kk) (hz:(P.info? T).bind (·.zero)=some (.int kk 0)) (hx:ev ρ x=.nilIface):Rd P ρ S (.typeAssert x I T true) ty (.tuple #[.int kk 0,.bool false]):=by
 (refine .pure fun d pos af g w=>?_);obtain⟨dd,i,z,e1,e2,e3,e4,e5,e6,e7⟩:=aF hT;rw[hk] at e2;rw[e3] at hz;simp only[Option.bind_some,e6,Option.some.injEq] at hz;subst hz;(cases dd<;>simp[kindOf] at e2);simp[execOp,Instr.typeAssert,run_underlying e1,hx,zeroValue,typeInfo,e3,e6]
theorem Rd.uH {S:Heap→Prop} {ty I T':TypeId} {x:Operand} {t:TypeId} {v:Value} {ms:Array (String×TypeId)} (hI:P.underlying I=some (.interface ms)) (hx:ev ρ x=.iface t v):Rd P ρ S (.binOp .neq I x (.const .nilIface) T') ty (.bool true):=by
 refine .pure fun d pos af gd w=>?_
 have h1:(Op.equalIn Op.maxDepth I (.iface t v) .nilIface).run P w=.ok false w:=by
  rw[show Op.maxDepth=9999+1 from rfl,Op.equalIn,Sem.run_bind,run_underlying hI];rfl
 simp only[execOp,eqGuard,hx,ev,binOp,Sem.run_bind];simp[Op.equal,h1]
theorem Rd.uI {S:Heap→Prop} {ty I T':TypeId} {x:Operand} {ms:Array (String×TypeId)} (hI:P.underlying I=some (.interface ms)) (hx:ev ρ x=.nilIface):Rd P ρ S (.binOp .neq I x (.const .nilIface) T') ty (.bool false):=by
 refine .pure fun d pos af gd w=>?_
 have h1:(Op.equalIn Op.maxDepth I .nilIface .nilIface).run P w=.ok true w:=by
  rw[show Op.maxDepth=9999+1 from rfl,Op.equalIn,Sem.run_bind,run_underlying hI];rfl
 simp only[execOp,eqGuard,hx,ev,binOp,Sem.run_bind];simp[Op.equal,h1]
end
section
variable {P:Program}
def recv:FrameMode→Value×FrameMode
 |.panicking ({v,recovered:=false,goexit:=false}::Ri)=>(v,.panicking ({v,recovered:=true}::Ri))
 |u=>(.nilIface,u)
theorem zo (rR:Frame) (cs:List Frame):recoverD (rR::cs)=none∧recv rR.mode=(.nilIface,rR.mode)∨recoverD (rR::cs)=some ((recv rR.mode).1,{rR with mode:=(recv rR.mode).2}::cs):=by
 obtain⟨fn,tmps,todo,defers,mode,kind,ro⟩:=rR
 cases mode with
 |panicking l=>
  cases l with
  |nil=>exact .inl ⟨rfl,rfl⟩
  |cons e Ri=>
   obtain⟨v,r,g⟩:=e;cases r<;>cases g<;>first|exact .inr rfl|exact .inl ⟨rfl,rfl⟩
 |_=>exact .inl ⟨rfl,rfl⟩
theorem pK {f:FuncId} {fn:Func} {rest:Code} {id:Nat} {d1 d2:Nat} {t1 t2:TypeId} {s1 s2:String} {a1 a2:Array Edge} {mE:Array TypeId} {vs:Array Value} {ρ0:Env} {u:FrameMode} {h:Heap} {R:Ending→Heap→Prop}
 (hf:P.funcs[f]? =some fn) (hb:fn.body=some (.seq (.region id #[⟨some d1,.call {callee:=.builtin .recover,args:=#[],argTypes:=mE},t1,s1,a1,none⟩,⟨some d2,.assign (.tmp d1),t2,s2,a2,none⟩] false) rest)) (hN:Nat.ble vs.size fn.ntmps=true)
 (h0:∀s,vs.getD s undef=ρ0 s) (Cy:Nat.blt d1 fn.ntmps=true) (E6:Nat.blt d2 fn.ntmps=true) (hx:X P fn.ntmps rest (dO (dO ρ0 d1 (recv u).1) d2 (recv u).1) h (sK P fn R)):
 ∀w,w.heap=h→CallsD P f vs u w (fun e u' w'=>u'=(recv u).2∧gC w w'∧R e w'.heap):=by
 intro w hw;(refine callsD_of_wpS hf hb fun rR cs hu=>?_);have hN':vs.size≤fn.ntmps:=Nat.le_of_ble_eq_true hN
 have he:e9 fn.ntmps {tmps:=vs++Array.replicate (fn.ntmps-vs.size) undef,defers:=[]} ρ0:=by
  refine⟨sU,fun s=>?_⟩;rw[←h0 s];simp only[Array.getD_eq_getD_getElem?,Array.getElem?_append,Array.getElem?_replicate];by_cases e:s<vs.size
  ·simp[e]
  ·simp[e];split<;>simp
 obtain⟨a0,Dh⟩:∃a:Act,a={tmps:=vs++Array.replicate (fn.ntmps-vs.size) undef,defers:=[]}:=⟨_,rfl⟩;rw[←Dh] at he⊢;have hdf:a0.defers=[]:=by rw[Dh]
 have hK:∀(w':World) (Zh:List Frame),gC w w'→w'.heap=h→Zh={rR with mode:=(recv u).2}::cs→rest.wpS P (bodyPostS P fn rR cs (fun e u' w'=>u'=(recv u).2∧gC w w'∧R e w'.heap)) ((a0.put (some d1) (recv u).1).put (some d2) (recv u).1) Zh w':=by
  intro w' Zh hs hh Cv;refine wpS_of_wp (wp_mono (hx.out w ((a0.put (some d1) (recv u).1).put (some d2) (recv u).1) w' hs hh ((he.put Cy _).put E6 _)) ?_);rintro e a' w'' ⟨g1,g2,er,g3,g4⟩;rw[put_defers,put_defers,hdf] at g1
  cases e with
  |normal=>obtain⟨v,hr,hR⟩:=g4;exact⟨g1,_,Cv,v,hr w'' a' rfl g3,rfl,g2,hR⟩
  |ret=>obtain⟨v,hr,hR⟩:=g4;exact⟨g1,_,Cv,v,hr w'' a' rfl g3,rfl,g2,hR⟩
  |panic c=>exact⟨g1,_,Cv,rfl,g2,g4⟩
  |_=>exact g4.elim
 refine wpS_seq (wpS_region ?_)
 have nG:∀a:Act,(execOp a.eval ⟨some d1,.call {callee:=.builtin .recover,args:=#[],argTypes:=mE},t1,s1,a1,none⟩).run P w=.ok .recover w:=fun a=>by
  simp[execOp,resolve,invoke,builtin]
 have Xb:∀a:Act,(execOp a.eval ⟨some d2,.assign (.tmp d1),t2,s2,a2,none⟩).run P w=.ok (.value (a.eval (.tmp d1))) w:=fun a=>by
  simp[execOp]
 (have hc:({rR with mode:=u}:Frame)=rR:=by subst hu;rfl);(have SN:(a0.put (some d1) (recv u).1).eval (.tmp d1)=(recv u).1:=by rw[(he.put Cy _).eval];exact sH _ _ _);show wpOpsS P _ _ [0,1] a0 (rR::cs) w;rcases zo rR cs with ⟨e1,e2⟩|e1
 ·rw[hu] at e2;have e3:recv u=(.nilIface,u):=e2;simp only[e3] at SN hK⊢;simp[wpOpsS,nG,Xb,Region.wanted,e1,Oper.upon_value,SN,Exit.thenS];exact hK w _ (gC.refl w) hw (by rw[hc])
 ·rw[hu] at e1;simp[wpOpsS,nG,Xb,Region.wanted,e1,Oper.upon_value,SN,Exit.thenS];exact hK w _ (gC.refl w) hw rfl
def Rj (w0:World) (ds:List Deferred) (N:Nat) (K:lP):Exit→Act→World→Prop:=fun e a' w'=>a'.defers=ds∧gC w0 w'∧∃er,e9 N a' er∧K e er w'.heap
structure XF (P:Program) (N:Nat) (c:Code) (ρ:Env) (h:Heap) (K:lP):Prop where
 out:∀(w0:World) (a:Act) (w:World),gC w0 w→w.heap=h→e9 N a ρ→c.wp P (Rj w0 a.defers N K) a w
structure Kw (P:Program) (N:Nat) (all:Array Oper) (l:List Oper) (ρ:Env) (h:Heap) (K:lP):Prop where
 out:∀(w0:World) (a:Act) (w:World),gC w0 w→w.heap=h→e9 N a ρ→wpList P all (Rj w0 a.defers N K) l a w
section
variable {N:Nat} {ρ:Env} {h:Heap} {K:lP}
theorem XF.seq {x y:Code} (hx:XF P N x ρ h (G0 (fun ρ h=>XF P N y ρ h K) K)):XF P N (.seq x y) ρ h K:=by
 refine⟨fun w0 a w hs hh he=>wp_seq (wp_mono (hx.out w0 a w hs hh he) ?_)⟩;rintro e a' w' ⟨h1,h2,er,h3,h4⟩
 cases e with
 |normal=>rw[←h1];exact h4.out w0 a' w' h2 rfl h3
 |_=>exact⟨h1,h2,er,h3,h4⟩
theorem XF.ret (hk:K .ret ρ h):XF P N .ret ρ h K:=⟨fun _ _ _ hs hh he=>wp_ret ⟨rfl,hs,ρ,he,hh▸hk⟩⟩
theorem XF.region {id:Nat} {l:List Oper} (hx:Kw P N l.toArray l ρ h K):XF P N (.region id l.toArray false) ρ h K:=⟨fun w0 a w hs hh he=>wp_region_lit (hx.out w0 a w hs hh he)⟩
theorem Kw.nil {all:Array Oper} (hk:K .normal ρ h):Kw P N all [] ρ h K:=⟨fun _ _ _ hs hh he=>wpList_nil ⟨rfl,hs,ρ,he,hh▸hk⟩⟩
theorem Kw.wr {all:Array Oper} {rest:List Oper} {op:Op} {d:Option Nat} {ty:TypeId} {pos:String} {af:Array Edge} {R:Value→Heap→Prop} {pk:List PanicEntry→Heap→Prop} (hd:gu N d=true)
 (hr:Wr P ρ h op ty R pk) (k:∀v h',R v h'→Kw P N all rest (jz ρ d v) h' K) (kp:∀c h',pk c h'→K (.panic c) ρ h'):
 Kw P N all (⟨d,op,ty,pos,af,none⟩::rest) ρ h K:=by
 refine⟨fun w0 a w hs hh he=>?_⟩;(refine wpList_plain rfl fun K' Z0=>?_);refine hr.out d pos af none a w _ _ he.eval hh (fun v w' h2 h3=>Z0 _ _ ?_) (fun c w' h2 h3=>⟨rfl,hs.trans h2,ρ,he,kp c _ h3⟩);have:=(k v _ h3).out w0 (a.put d v) w' (hs.trans h2) rfl (he.KL hd v)
 rwa [put_defers] at this
end
structure sD (P:Program) (N:Nat) (c:Code) (ρ:Env) (σ:PH) (Γ:List HP) (K:KA):Prop where
 out:∀f h,Holds σ Γ f h→XF P N c ρ h (KF f K)
structure jH (P:Program) (N:Nat) (all:Array Oper) (l:List Oper) (ρ:Env) (σ:PH) (Γ:List HP) (K:KA):Prop where
 out:∀f h,Holds σ Γ f h→Kw P N all l ρ h (KF f K)
section
variable {N:Nat} {ρ:Env} {σ:PH} {Γ:List HP} {K:KA} {all:Array Oper} {rest:List Oper} {d:Nat} {ty:TypeId} {pos:String} {af:Array Edge}
theorem sD.seq {x y:Code} (hx:sD P N x ρ σ Γ (qZ (fun ρ σ Γ=>sD P N y ρ σ Γ K) K)):sD P N (.seq x y) ρ σ Γ K:=by
 refine⟨fun f h hh=>XF.seq ⟨fun w0 a w hs hw he=>wp_mono ((hx.out f h hh).out w0 a w hs hw he) ?_⟩⟩;rintro e a' w' ⟨h1,h2,er,h3,aj,al,hk,kR⟩;refine⟨h1,h2,er,h3,?_⟩
 cases e with
 |normal=>exact hk.out f _ kR
 |_=>exact⟨aj,al,hk,kR⟩
theorem sD.ret (hk:K .ret ρ σ Γ):sD P N .ret ρ σ Γ K:=⟨fun f h hh=>XF.ret ⟨σ,Γ,hk,hh⟩⟩
theorem sD.region {id:Nat} {l:List Oper} (hx:jH P N l.toArray l ρ σ Γ K):sD P N (.region id l.toArray false) ρ σ Γ K:=⟨fun f h hh=>XF.region (hx.out f h hh)⟩
theorem jH.nil {all:Array Oper} (hk:K .normal ρ σ Γ):jH P N all [] ρ σ Γ K:=⟨fun f h hh=>Kw.nil ⟨σ,Γ,hk,hh⟩⟩
theorem jH.rd {op:Op} {v:Value} (hd:Nat.blt d N=true) (hr:Rd P ρ (Ho σ Γ) op ty v) (k:jH P N all rest (dO ρ d v) σ Γ K):jH P N all (⟨some d,op,ty,pos,af,none⟩::rest) ρ σ Γ K:=
 ⟨fun f h hh=>Kw.wr (d:=some d) hd (Rd.wr ⟨fun d pos af g w hw=>hr.out d pos af g w (hw▸hh.ho)⟩) (by rintro _ _ ⟨rfl,rfl⟩;exact k.out f _ hh) (fun _ _ h=>h.elim)⟩
theorem jH.call {f:FuncId} {args:List Operand} {mE:Array TypeId} {vs:List Value} {R:Value→PH→List HP→Prop} {b6 Δ:List HP} (hd:Nat.blt d N=true) (hc:ah P f vs.toArray σ b6 (aA R)) (hv:args.map (ev ρ)=vs) (he:ar Γ (b6++Δ))
 (k:∀v aj cr,R v aj cr→jH P N all rest (dO ρ d v) aj (cr++Δ) K):jH P N all (⟨some d,.call {callee:=.value (.func f),args:=args.toArray,argTypes:=mE},ty,pos,af,none⟩::rest) ρ σ Γ K:=
 ⟨fun fr h hh=>Kw.wr (d:=some d) hd ((ax.call hc hv he).out fr h hh) (fun v h' ⟨aj,al,⟨cr,a,e⟩,b⟩=>by subst e;exact(k v aj cr a).out fr h' b) (fun _ _ ⟨_,_,h,_⟩=>h.elim)⟩
theorem jH.die {f:FuncId} {args:List Operand} {mE:Array TypeId} {vs:List Value} {R:List PanicEntry→PH→List HP→Prop} {b6 Δ:List HP} (hd:Nat.blt d N=true) (hc:ah P f vs.toArray σ b6 (na R)) (hv:args.map (ev ρ)=vs) (he:ar Γ (b6++Δ))
 (k:∀c aj cr,R c aj cr→K (.panic c) ρ aj (cr++Δ)):jH P N all (⟨some d,.call {callee:=.value (.func f),args:=args.toArray,argTypes:=mE},ty,pos,af,none⟩::rest) ρ σ Γ K:=
 ⟨fun fr h hh=>Kw.wr (d:=some d) hd ((ax.z7 (first:=[]) (cap:=[]) rfl hc (by simpa using hv) he (fun _ _ h=>h)).out fr h hh) (fun v h' ⟨_,_,⟨_,a,_⟩,_⟩=>a.elim) (fun c h' ⟨aj,al,⟨cr,a,e⟩,b⟩=>by subst e;exact⟨aj,_,k c aj cr a,b⟩)⟩
end
structure XT (P:Program) (fn:Func) (c:Code) (ρ:Env) (h:Heap) (R:Ending→Heap→Prop):Prop where
 out:∀(w0:World) (a:Act) (w:World),gC w0 w→w.heap=h→e9 fn.ntmps a ρ→a.defers=[]→c.wp P (bodyPostD P fn (fun e w'=>gC w0 w'∧R e w'.heap)) a w
theorem XT.seq {fn:Func} {x y:Code} {ρ:Env} {h:Heap} {R:Ending→Heap→Prop} (hx:X P fn.ntmps x ρ h (G0 (fun ρ h=>XT P fn y ρ h R) (sK P fn R))):XT P fn (.seq x y) ρ h R:=by
 refine⟨fun w0 a w hs hh he hd=>wp_seq (wp_mono (hx.out w0 a w hs hh he) ?_)⟩;rintro e a' w' ⟨h1,h2,er,h3,h4⟩;rw[hd] at h1
 cases e with
 |normal=>exact h4.out w0 a' w' h2 rfl h3 h1
 |ret=>
  obtain⟨v,hr,hR⟩:=h4;show Leaves P fn a'.tmps _ a'.defers .returning w';rw[h1];exact⟨v,hr w' a' rfl h3,h2,hR⟩
 |panic c=>
  show Leaves P fn a'.tmps _ a'.defers (.panicking c) w';rw[h1];exact⟨h2,h4⟩
 |_=>exact h4.elim
def dK (P:Program) (fn:Func) (f:FuncId) (caps:Array Value) (R:Ending→Heap→Prop):lP:=fun e ρ h=>
 let go:=fun(u:FrameMode)=>∀w,w.heap=h→CallsD P f caps u w (fun e' u' w'=>gC w w'∧(∃v0,e'=.returned v0)∧settle u'=.returning∧∃v,CQ P fn ρ w'.heap v∧R (.returned v) w'.heap)
 match e with
 |.normal|.ret=>go .returning
 |.panic c=>go (.panicking c)
 |_=>False
theorem rS {fn:Func} {f:FuncId} {caps:Array Value} {R:Ending→Heap→Prop} {ρ:Env} {u:FrameMode} {a:Act} {w0 w:World} (hu:u≠.run) (hE:Enters P f) (hs:gC w0 w) (he:e9 fn.ntmps a ρ)
 (hc:CallsD P f caps u w (fun e' u' w'=>gC w w'∧(∃v0,e'=.returned v0)∧settle u'=.returning∧∃v,CQ P fn ρ w'.heap v∧R (.returned v) w'.heap)):
 Leaves P fn a.tmps (fun e w'=>gC w0 w'∧R e w'.heap) [{target:=.fn (.func f) caps,args:=#[]}] u w:=by
 refine leaves_cons (f:=f) (args:=caps) hu ?_ (hc.mono ?_)
 ·simp only[invoke];have:=hE caps w;simpa using this
 ·rintro e u' w' ⟨h1,⟨v0,rfl⟩,h2,v,h3,h4⟩;show Leaves P fn a.tmps _ [] (settle u') w';rw[h2];exact⟨v,h3 w' a rfl he,hs.trans h1,h4⟩
theorem XT.defer {fn:Func} {y:Code} {ρ:Env} {h:Heap} {R:Ending→Heap→Prop} {id t:Nat} {f:FuncId} {co:Array Operand} {caps:Array Value} {t1 t2:TypeId} {s1 s2:String} {a1 a2:Array Edge} {mE:Array TypeId} (hE:Enters P f) (ht:Nat.blt t fn.ntmps=true) (Bo:co.map (ev ρ)=caps)
 (hx:XF P fn.ntmps y (dO ρ t (.func (.func f) #[] caps)) h (dK P fn f caps R)):
 XT P fn (.seq (.region id #[⟨some t,.makeFunc (.func f) #[] co,t1,s1,a1,none⟩,⟨none,.defer {callee:=.value (.tmp t),args:=#[],argTypes:=mE},t2,s2,a2,none⟩] false) y) ρ h R:=by
 refine⟨fun w0 a w hs hh he hd=>wp_seq (wp_region_lit (l:=[_,_]) ?_)⟩;refine wpList_plain rfl fun K1 Oq=>?_
 have cZ:(execOp a.eval ⟨some t,.makeFunc (.func f) #[] co,t1,s1,a1,none⟩).run P w=.ok (.value (.func (.func f) #[] caps)) w:=by
  rw[he.eval];simp[execOp,Instr.makeFunc,Bo]
 unfold Oper.wp;rw[cZ,Oper.upon_value];refine Oq _ _ ?_;have SO:=he.put ht (.func (.func f) #[] caps);refine wpList_plain rfl fun K2 hK2=>?_
 have xC:(execOp (a.put (some t) (.func (.func f) #[] caps)).eval ⟨none,.defer {callee:=.value (.tmp t),args:=#[],argTypes:=mE},t2,s2,a2,none⟩).run P w=.ok (.defer {target:=.fn (.func f) caps,args:=#[]}) w:=by
  rw[SO.eval];simp[execOp,resolve,Deferred.ofValue,sH]
 unfold Oper.wp;rw[xC,Oper.upon_defer];refine hK2 _ _ (wpList_nil ?_);obtain⟨b,hb⟩:∃b:Act,b=({(a.put (some t) (.func (.func f) #[] caps)) with defers:={target:=.fn (.func f) caps,args:=#[]}::(a.put (some t) (.func (.func f) #[] caps)).defers}:Act).put none undef:=⟨_,rfl⟩;rw[←hb];(have hbe:e9 fn.ntmps b (dO ρ t (.func (.func f) #[] caps)):=by rw[hb];exact⟨SO.size,SO.get⟩);(have hbd:b.defers=[{target:=.fn (.func f) caps,args:=#[]}]:=by rw[hb];show _::(a.put (some t) _).defers=_;rw[put_defers,hd]);show y.wp P (bodyPostD P fn (fun e w'=>gC w0 w'∧R e w'.heap)) b w;refine wp_mono (hx.out w0 b w hs hh hbe) ?_;rintro e a' w' ⟨h1,h2,er,h3,h4⟩;rw[hbd] at h1
 cases e with
 |normal=>
  show Leaves P fn a'.tmps _ a'.defers .returning w';rw[h1];exact rS aZ hE h2 h3 (h4 w' rfl)
 |ret=>
  show Leaves P fn a'.tmps _ a'.defers .returning w';rw[h1];exact rS aZ hE h2 h3 (h4 w' rfl)
 |panic c=>
  show Leaves P fn a'.tmps _ a'.defers (.panicking c) w';rw[h1];exact rS aZ hE h2 h3 (h4 w' rfl)
 |_=>exact h4.elim
theorem Lt {f:FuncId} {fn:Func} {c:Code} {vs:Array Value} {ρ0:Env} {h:Heap} {R:Ending→Heap→Prop} (hf:P.funcs[f]? =some fn) (hb:fn.body=some c) (hn:eN fn=true) (hN:Nat.ble vs.size fn.ntmps=true)
 (h0:∀s,vs.getD s undef=ρ0 s) (hx:XT P fn c ρ0 h R):js P f vs h R:=by
 refine⟨enters hf hb hn,fun w hw=>calls_of_wp_defers hf hb ?_⟩;have hN':vs.size≤fn.ntmps:=Nat.le_of_ble_eq_true hN
 have he:e9 fn.ntmps {tmps:=vs++Array.replicate (fn.ntmps-vs.size) undef,defers:=[]} ρ0:=by
  refine⟨sU,fun s=>?_⟩;rw[←h0 s];simp only[Array.getD_eq_getD_getElem?,Array.getElem?_append,Array.getElem?_replicate];by_cases e:s<vs.size
  ·simp[e]
  ·simp[e];split<;>simp
 exact hx.out w _ w (gC.refl w) hw he rfl
structure sE (P:Program) (fn:Func) (c:Code) (ρ:Env) (σ:PH) (Γ:List HP) (R:Ending→PH→List HP→Prop):Prop where
 out:∀f h,Holds σ Γ f h→XT P fn c ρ h (fun e h'=>∃aj al,R e aj al∧Holds aj al f h')
def dk (P:Program) (f:FuncId) (vs:Array Value) (u:FrameMode) (σ:PH) (Γ:List HP) (R:FrameMode→PH→List HP→Prop):Prop:=
 ∀fr h,Holds σ Γ fr h→∀w,w.heap=h→CallsD P f vs u w (fun e' u' w'=>gC w w'∧(∃v0,e'=.returned v0)∧∃aj al,R u' aj al∧Holds aj al fr w'.heap)
def dKA (P:Program) (fn:Func) (f:FuncId) (caps:Array Value) (R:Ending→PH→List HP→Prop):KA:=fun e ρ σ Γ=>
 let go:=fun(u:FrameMode)=>dk P f caps u σ Γ (fun u' aj al=>settle u'=.returning∧∃v,aB P fn ρ aj al v∧∃Δ,ar al Δ∧R (.returned v) aj Δ)
 match e with
 |.normal|.ret=>go .returning
 |.panic c=>go (.panicking c)
 |_=>False
section
variable {fn:Func} {ρ:Env} {σ:PH} {Γ:List HP} {RR:Ending→PH→List HP→Prop}
theorem sE.seq {x y:Code} (hx:XA P fn.ntmps x ρ σ Γ (qZ (fun ρ σ Γ=>sE P fn y ρ σ Γ RR) (ao P fn RR))):sE P fn (.seq x y) ρ σ Γ RR:=by
 refine⟨fun f h hh=>XT.seq (X.mono (hx.out f h hh) ?_)⟩;rintro e er h' ⟨aj,al,hk,kR⟩
 cases e with
 |normal=>exact hk.out f h' kR
 |ret=>obtain⟨v,a,Δ,b,c⟩:=hk;exact⟨v,a h' kR.ho,aj,Δ,c,kR.eX b⟩
 |panic c=>exact⟨aj,al,hk,kR⟩
 |_=>exact hk.elim
theorem sE.defer {y:Code} {id t:Nat} {f:FuncId} {co:Array Operand} {caps:Array Value} {t1 t2:TypeId} {s1 s2:String} {a1 a2:Array Edge} {mE:Array TypeId} (hE:Enters P f) (ht:Nat.blt t fn.ntmps=true) (Bo:co.map (ev ρ)=caps)
 (hx:sD P fn.ntmps y (dO ρ t (.func (.func f) #[] caps)) σ Γ (dKA P fn f caps RR)):
 sE P fn (.seq (.region id #[⟨some t,.makeFunc (.func f) #[] co,t1,s1,a1,none⟩,⟨none,.defer {callee:=.value (.tmp t),args:=#[],argTypes:=mE},t2,s2,a2,none⟩] false) y) ρ σ Γ RR:=by
 have key:∀(fr:PH) (er:Env) (aj:PH) (al:List HP) (h':Heap) (u:FrameMode),Holds aj al fr h'→dk P f caps u aj al (fun u' aj al=>settle u'=.returning∧∃v,aB P fn er aj al v∧∃Δ,ar al Δ∧RR (.returned v) aj Δ)→
  ∀w,w.heap=h'→CallsD P f caps u w (fun e' u' w'=>gC w w'∧(∃v0,e'=.returned v0)∧settle u'=.returning∧∃v,CQ P fn er w'.heap v∧∃aj al,RR (.returned v) aj al∧Holds aj al fr w'.heap):=fun fr er aj al h' u hh hc w hw=>
  (hc fr h' hh w hw).mono fun e' u' w' ⟨a,b,cL,mY,⟨c,v,d,Δ,i,j⟩,k⟩=>⟨a,b,c,v,d _ k.ho,cL,Δ,j,k.eX i⟩
 refine⟨fun fr h hh=>XT.defer hE ht Bo ⟨fun w0 a w hs hw he=>wp_mono ((hx.out fr h hh).out w0 a w hs hw he) ?_⟩⟩;rintro e a' w' ⟨g1,g2,er,g3,aj,al,hk,kR⟩;refine⟨g1,g2,er,g3,?_⟩;generalize w'.heap=h' at kR⊢
 cases e with
 |normal=>exact key fr er aj al h' _ kR hk
 |ret=>exact key fr er aj al h' _ kR hk
 |panic c=>exact key fr er aj al h' _ kR hk
 |_=>exact hk.elim
theorem s8 {f:FuncId} {co:Code} {a b c:Value} (hf:P.funcs[f]? =some fn) (hb:fn.body=some co) (hn:eN fn=true) (hN:Nat.ble 3 fn.ntmps=true) (hx:sE P fn co (dO (dO (dO U 0 a) 1 b) 2 c) σ Γ RR):ah P f #[a,b,c] σ Γ RR:=
 ⟨enters hf hb hn,fun fr h hh=>Lt hf hb hn hN (fun s=>match s with
  |0=>rfl
  |1=>rfl
  |2=>rfl
  |s+3=>by rw[show (#[a,b,c]:Array Value).getD (s+3) undef=undef from by simp,fv _ _ _ _ ad,fv _ _ _ _ ad,fv _ _ _ _ ad]) (hx.out fr h hh)⟩
theorem dk.Aj {f:FuncId} {rest:Code} {id:Nat} {d1 d2:Nat} {t1 t2:TypeId} {s1 s2:String} {a1 a2:Array Edge} {mE:Array TypeId} {x0 x1 x2 x3:Value} {u:FrameMode} {R:FrameMode→PH→List HP→Prop}
 (hf:P.funcs[f]? =some fn) (hb:fn.body=some (.seq (.region id #[⟨some d1,.call {callee:=.builtin .recover,args:=#[],argTypes:=mE},t1,s1,a1,none⟩,⟨some d2,.assign (.tmp d1),t2,s2,a2,none⟩] false) rest)) (hN:Nat.ble 4 fn.ntmps=true)
 (Cy:Nat.blt d1 fn.ntmps=true) (E6:Nat.blt d2 fn.ntmps=true) (hx:XA P fn.ntmps rest (dO (dO (dO (dO (dO (dO U 0 x0) 1 x1) 2 x2) 3 x3) d1 (recv u).1) d2 (recv u).1) σ Γ (ao P fn (aA fun _ aj al=>R (recv u).2 aj al))):
 dk P f #[x0,x1,x2,x3] u σ Γ R:=fun fr h hh w hw=>by
 refine(pK (vs:=#[x0,x1,x2,x3]) (ρ0:=dO (dO (dO (dO U 0 x0) 1 x1) 2 x2) 3 x3) hf hb hN (fun s=>match s with
  |0=>rfl
  |1=>rfl
  |2=>rfl
  |3=>rfl
  |s+4=>by rw[show (#[x0,x1,x2,x3]:Array Value).getD (s+4) undef=undef from by simp,fv _ _ _ _ ad,fv _ _ _ _ ad,fv _ _ _ _ ad,fv _ _ _ _ ad]) Cy E6 (XA.Sz hx hh) w hw).mono ?_
 rintro e u' w' ⟨rfl,a,aj,al,b,c⟩
 cases e with
 |returned v=>exact⟨a,⟨v,rfl⟩,aj,al,b,c⟩
 |_=>exact b.elim
end
end
end X
end Go.Proofs.YtgeoiflbjcehcaaGreatDoor
namespace Go.Proofs
open Go.Shelf
def Tryz.laysM173_ren:Go.Shelf.Ren:=⟨fun|173=>39|246=>64|283=>99|284=>100|285=>101|286=>102|129=>139|317=>138|318=>140|319=>141|320=>142|337=>172|338=>173|n=>n,fun|2=>2|3=>3|9=>9|4=>4|171=>159|0=>0|53=>80|37=>44|5=>5|173=>162|212=>203|51=>147|20=>20|213=>204|46=>40|232=>279|233=>280|n=>n,fun|17=>3|18=>6|19=>7|n=>n⟩
theorem Tryz.laysM173:Go.Proofs.LaysM.n173 Tryz.prog Tryz.laysM173_ren:={
 mixed:=by kernel_rfl
 f129:=Tryz.func139.trans (congrArg some (by kernel_rfl))
 f173:=Tryz.func39.trans (congrArg some (by kernel_rfl))
 f246:=Tryz.func64.trans (congrArg some (by kernel_rfl))
 f283:=Tryz.func99.trans (congrArg some (by kernel_rfl))
 f284:=Tryz.func100.trans (congrArg some (by kernel_rfl))
 f285:=Tryz.func101.trans (congrArg some (by kernel_rfl))
 f286:=Tryz.func102.trans (congrArg some (by kernel_rfl))
 f317:=Tryz.func138.trans (congrArg some (by kernel_rfl))
 f318:=Tryz.func140.trans (congrArg some (by kernel_rfl))
 f319:=Tryz.func141.trans (congrArg some (by kernel_rfl))
 f320:=Tryz.func142.trans (congrArg some (by kernel_rfl))
 f337:=Tryz.func172.trans (congrArg some (by kernel_rfl))
 f338:=Tryz.func173.trans (congrArg some (by kernel_rfl))
 t0:=Tryz.underlying0
 a0:=Tryz.isAgg0
 z0:=Tryz.sizeOf0
 v0:=Tryz.zeroValue0
 t2:=Tryz.underlying2
 a2:=Tryz.isAgg2
 z2:=Tryz.sizeOf2
 v2:=Tryz.zeroValue2
 t3:=Tryz.underlying3
 a3:=Tryz.isAgg3
 z3:=Tryz.sizeOf3
 v3:=Tryz.zeroValue3
 t4:=Tryz.underlying4
 a4:=Tryz.isAgg4
 z4:=Tryz.sizeOf4
 v4:=Tryz.zeroValue4
 t5:=Tryz.underlying5
 a5:=Tryz.isAgg5
 z5:=Tryz.sizeOf5
 v5:=Tryz.zeroValue5
 t9:=Tryz.underlying9
 a9:=Tryz.isAgg9
 z9:=Tryz.sizeOf9
 v9:=Tryz.zeroValue9
 t20:=Tryz.underlying20
 a20:=Tryz.isAgg20
 z20:=Tryz.sizeOf20
 v20:=Tryz.zeroValue20
 t37:=Tryz.underlying44
 a37:=Tryz.isAgg44
 z37:=Tryz.sizeOf44
 v37:=Tryz.zeroValue44
 t46:=Tryz.underlying40
 a46:=Tryz.isAgg40
 z46:=Tryz.sizeOf40
 v46:=Tryz.zeroValue40
 t51:=Tryz.underlying147
 a51:=Tryz.isAgg147
 z51:=Tryz.sizeOf147
 v51:=Tryz.zeroValue147
 t53:=Tryz.underlying80
 a53:=Tryz.isAgg80
 z53:=Tryz.sizeOf80
 v53:=Tryz.zeroValue80
 t171:=Tryz.underlying159
 a171:=Tryz.isAgg159
 z171:=Tryz.sizeOf159
 v171:=Tryz.zeroValue159
 t173:=Tryz.underlying162
 a173:=Tryz.isAgg162
 z173:=Tryz.sizeOf162
 v173:=Tryz.zeroValue162
 t212:=Tryz.underlying203
 a212:=Tryz.isAgg203
 z212:=Tryz.sizeOf203
 v212:=Tryz.zeroValue203
 t213:=Tryz.underlying204
 a213:=Tryz.isAgg204
 z213:=Tryz.sizeOf204
 t232:=Tryz.underlying279
 a232:=Tryz.isAgg279
 z232:=Tryz.sizeOf279
 v232:=Tryz.zeroValue279
 t233:=Tryz.underlying280
 a233:=Tryz.isAgg280
 z233:=Tryz.sizeOf280
 v233:=Tryz.zeroValue280
 g17:=by kernel_rfl
 g18:=by kernel_rfl
 g19:=by kernel_rfl
 i0:=by kernel_rfl
 i2:=by kernel_rfl
 i3:=by kernel_rfl
 i4:=by kernel_rfl
 i5:=by kernel_rfl
 i9:=by kernel_rfl
 i20:=by kernel_rfl
 i37:=by kernel_rfl
 i46:=by kernel_rfl
 i51:=by kernel_rfl
 i53:=by kernel_rfl
 i171:=by kernel_rfl
 i173:=by kernel_rfl
 i212:=by kernel_rfl
 i232:=by kernel_rfl
 i233:=by kernel_rfl
 m17:=by kernel_rfl
 m18:=by kernel_rfl
 m19:=by kernel_rfl}
open Go.RowKit Go.Sort Go.Lib in
theorem Tryz.strconv_FormatInt_10 (n:Int) (h0:-9223372036854775808≤n) (h1:n≤9223372036854775807) (w:World) (SP:Lib.TabIs Tryz.prog w "internal/strconv.uint64pow10" .u64 Lib.pow10Tab):
 Calls Tryz.prog 39 #[.int .i64 n,.int .i64 10] w fun e w'=>e=.returned (.string ⟨(Lib.itoa n).toArray⟩)∧∃k os,w'=grow (w.drewN k) os:=Any.strconv_FormatInt_10 Tryz.laysM173 n h0 h1 w SP
def Tryz.laysC174_ren:Go.Shelf.Ren:=⟨fun|174=>38|247=>62|245=>63|287=>94|279=>95|280=>96|281=>97|282=>98|321=>134|322=>135|316=>136|171=>48|205=>137|243=>82|246=>64|283=>99|284=>100|285=>101|286=>102|129=>139|317=>138|318=>140|319=>141|320=>142|337=>172|338=>173|n=>n,fun|9=>9|3=>3|2=>2|75=>87|85=>88|4=>4|167=>153|5=>5|53=>80|175=>154|46=>40|168=>156|37=>44|0=>0|210=>200|21=>21|127=>62|145=>254|143=>252|171=>159|173=>162|212=>203|51=>147|20=>20|213=>204|232=>279|233=>280|80=>52|n=>n,fun|15=>1|16=>2|17=>3|18=>6|19=>7|n=>n⟩
theorem Tryz.laysC174:Go.Proofs.LaysC.n174 Tryz.prog Tryz.laysC174_ren:={
 mixed:=by kernel_rfl
 f129:=Tryz.func139.trans (congrArg some (by kernel_rfl))
 f171:=Tryz.func48.trans (congrArg some (by kernel_rfl))
 f174:=Tryz.func38.trans (congrArg some (by kernel_rfl))
 f205:=Tryz.func137.trans (congrArg some (by kernel_rfl))
 f243:=Tryz.func82.trans (congrArg some (by kernel_rfl))
 f245:=Tryz.func63.trans (congrArg some (by kernel_rfl))
 f246:=Tryz.func64.trans (congrArg some (by kernel_rfl))
 f247:=Tryz.func62.trans (congrArg some (by kernel_rfl))
 f279:=Tryz.func95.trans (congrArg some (by kernel_rfl))
 f280:=Tryz.func96.trans (congrArg some (by kernel_rfl))
 f281:=Tryz.func97.trans (congrArg some (by kernel_rfl))
 f282:=Tryz.func98.trans (congrArg some (by kernel_rfl))
 f283:=Tryz.func99.trans (congrArg some (by kernel_rfl))
 f284:=Tryz.func100.trans (congrArg some (by kernel_rfl))
 f285:=Tryz.func101.trans (congrArg some (by kernel_rfl))
 f286:=Tryz.func102.trans (congrArg some (by kernel_rfl))
 f287:=Tryz.func94.trans (congrArg some (by kernel_rfl))
 f316:=Tryz.func136.trans (congrArg some (by kernel_rfl))
 f317:=Tryz.func138.trans (congrArg some (by kernel_rfl))
 f318:=Tryz.func140.trans (congrArg some (by kernel_rfl))
 f319:=Tryz.func141.trans (congrArg some (by kernel_rfl))
 f320:=Tryz.func142.trans (congrArg some (by kernel_rfl))
 f321:=Tryz.func134.trans (congrArg some (by kernel_rfl))
 f322:=Tryz.func135.trans (congrArg some (by kernel_rfl))
 f337:=Tryz.func172.trans (congrArg some (by kernel_rfl))
 f338:=Tryz.func173.trans (congrArg some (by kernel_rfl))
 t0:=Tryz.underlying0
 a0:=Tryz.isAgg0
 z0:=Tryz.sizeOf0
 v0:=Tryz.zeroValue0
 t2:=Tryz.underlying2
 a2:=Tryz.isAgg2
 z2:=Tryz.sizeOf2
 v2:=Tryz.zeroValue2
 t3:=Tryz.underlying3
 a3:=Tryz.isAgg3
 z3:=Tryz.sizeOf3
 v3:=Tryz.zeroValue3
 t4:=Tryz.underlying4
 a4:=Tryz.isAgg4
 z4:=Tryz.sizeOf4
 v4:=Tryz.zeroValue4
 t5:=Tryz.underlying5
 a5:=Tryz.isAgg5
 z5:=Tryz.sizeOf5
 v5:=Tryz.zeroValue5
 t9:=Tryz.underlying9
 a9:=Tryz.isAgg9
 z9:=Tryz.sizeOf9
 v9:=Tryz.zeroValue9
 t20:=Tryz.underlying20
 a20:=Tryz.isAgg20
 z20:=Tryz.sizeOf20
 v20:=Tryz.zeroValue20
 t21:=Tryz.underlying21
 a21:=Tryz.isAgg21
 z21:=Tryz.sizeOf21
 v21:=Tryz.zeroValue21
 t37:=Tryz.underlying44
 a37:=Tryz.isAgg44
 z37:=Tryz.sizeOf44
 v37:=Tryz.zeroValue44
 t46:=Tryz.underlying40
 a46:=Tryz.isAgg40
 z46:=Tryz.sizeOf40
 v46:=Tryz.zeroValue40
 t51:=Tryz.underlying147
 a51:=Tryz.isAgg147
 z51:=Tryz.sizeOf147
 v51:=Tryz.zeroValue147
 t53:=Tryz.underlying80
 a53:=Tryz.isAgg80
 z53:=Tryz.sizeOf80
 v53:=Tryz.zeroValue80
 t75:=Tryz.underlying87
 a75:=Tryz.isAgg87
 z75:=Tryz.sizeOf87
 v75:=Tryz.zeroValue87
 t85:=Tryz.underlying88
 a85:=Tryz.isAgg88
 z85:=Tryz.sizeOf88
 v85:=Tryz.zeroValue88
 t127:=Tryz.underlying62
 a127:=Tryz.isAgg62
 z127:=Tryz.sizeOf62
 v127:=Tryz.zeroValue62
 t143:=Tryz.underlying252
 a143:=Tryz.isAgg252
 z143:=Tryz.sizeOf252
 v143:=Tryz.zeroValue252
 t145:=Tryz.underlying254
 a145:=Tryz.isAgg254
 z145:=Tryz.sizeOf254
 v145:=Tryz.zeroValue254
 t167:=Tryz.underlying153
 a167:=Tryz.isAgg153
 z167:=Tryz.sizeOf153
 v167:=Tryz.zeroValue153
 t168:=Tryz.underlying156
 a168:=Tryz.isAgg156
 z168:=Tryz.sizeOf156
 v168:=Tryz.zeroValue156
 t171:=Tryz.underlying159
 a171:=Tryz.isAgg159
 z171:=Tryz.sizeOf159
 v171:=Tryz.zeroValue159
 t173:=Tryz.underlying162
 a173:=Tryz.isAgg162
 z173:=Tryz.sizeOf162
 v173:=Tryz.zeroValue162
 t175:=Tryz.underlying154
 a175:=Tryz.isAgg154
 z175:=Tryz.sizeOf154
 v175:=Tryz.zeroValue154
 t210:=Tryz.underlying200
 a210:=Tryz.isAgg200
 z210:=Tryz.sizeOf200
 v210:=Tryz.zeroValue200
 t212:=Tryz.underlying203
 a212:=Tryz.isAgg203
 z212:=Tryz.sizeOf203
 v212:=Tryz.zeroValue203
 t213:=Tryz.underlying204
 a213:=Tryz.isAgg204
 z213:=Tryz.sizeOf204
 t232:=Tryz.underlying279
 a232:=Tryz.isAgg279
 z232:=Tryz.sizeOf279
 v232:=Tryz.zeroValue279
 t233:=Tryz.underlying280
 a233:=Tryz.isAgg280
 z233:=Tryz.sizeOf280
 v233:=Tryz.zeroValue280
 g15:=by kernel_rfl
 g16:=by kernel_rfl
 g17:=by kernel_rfl
 g18:=by kernel_rfl
 g19:=by kernel_rfl
 t80:=Tryz.underlying52
 a80:=Tryz.isAgg52
 z80:=Tryz.sizeOf52
 v80:=Tryz.zeroValue52
 i0:=by kernel_rfl
 i2:=by kernel_rfl
 i3:=by kernel_rfl
 i4:=by kernel_rfl
 i5:=by kernel_rfl
 i9:=by kernel_rfl
 i20:=by kernel_rfl
 i21:=by kernel_rfl
 i37:=by kernel_rfl
 i46:=by kernel_rfl
 i51:=by kernel_rfl
 i53:=by kernel_rfl
 i75:=by kernel_rfl
 i80:=by kernel_rfl
 i85:=by kernel_rfl
 i127:=by kernel_rfl
 i143:=by kernel_rfl
 i145:=by kernel_rfl
 i167:=by kernel_rfl
 i168:=by kernel_rfl
 i171:=by kernel_rfl
 i173:=by kernel_rfl
 i175:=by kernel_rfl
 i210:=by kernel_rfl
 i212:=by kernel_rfl
 i232:=by kernel_rfl
 i233:=by kernel_rfl
 m15:=by kernel_rfl
 m16:=by kernel_rfl
 m17:=by kernel_rfl
 m18:=by kernel_rfl
 m19:=by kernel_rfl
 c0:=by kernel_rfl
 c2:=by kernel_rfl
 c3:=by kernel_rfl
 c4:=by kernel_rfl
 c5:=by kernel_rfl
 c9:=by kernel_rfl
 c20:=by kernel_rfl
 c21:=by kernel_rfl
 c37:=by kernel_rfl
 c46:=by kernel_rfl
 c51:=by kernel_rfl
 c53:=by kernel_rfl
 c75:=by kernel_rfl
 c80:=by kernel_rfl
 c85:=by kernel_rfl
 c127:=by kernel_rfl
 c143:=by kernel_rfl
 c145:=by kernel_rfl
 c167:=by kernel_rfl
 c168:=by kernel_rfl
 c171:=by kernel_rfl
 c173:=by kernel_rfl
 c175:=by kernel_rfl
 c210:=by kernel_rfl
 c212:=by kernel_rfl
 c213:=by kernel_rfl
 c232:=by kernel_rfl
 c233:=by kernel_rfl}
open Go.RowKit in
theorem Tryz.strconv_ParseInt_10_at64_ok (s:ByteArray) (aaW:s.size≤9223372036854775806) (v:Int) (h:Lib.parseIntB 64 s.data.toList=.ok v) (w:World):
 Calls Tryz.prog 38 #[.string s,.int .i64 10,.int .i64 64] w fun e w'=>e=.returned (.tuple #[.int .i64 v,.nilIface])∧(w'=w∨∃t,w'=Lib.bytesWorld w 5 t):=Any.strconv_ParseInt_10_at64_ok Tryz.laysC174 s aaW v h w
open Go.RowKit in
theorem Tryz.strconv_ParseInt_10_at64_syntax (s:ByteArray) (SQ:s.size≤281474976710656) (h:Lib.parseIntB 64 s.data.toList=Lib.NumEnd.syntax) (ev:Value) (w:World) (hv:w.cell? ⟨1,0,none⟩=some ev) (hev:ev=.nilIface∨∃te pe,ev=.iface te pe):
 Calls Tryz.prog 38 #[.string s,.int .i64 10,.int .i64 64] w fun e w'=>∃N,e=.returned (.tuple #[.int .i64 (0),.iface 156 (.pointer (some ⟨N,0,none⟩))])∧w.heap.size≤N∧w'.heap[N]? =some (.cells #[.string ⟨#[80,97,114,115,101,73,110,116]⟩,.string s,ev] 200 (0,0))∧Below w.heap.size w w':=Any.strconv_ParseInt_10_at64_syntax Tryz.laysC174 s SQ h ev w hv hev
open Go.RowKit in
theorem Tryz.strconv_ParseInt_10_at64_range (s:ByteArray) (SQ:s.size≤281474976710656) (h:Lib.parseIntB 64 s.data.toList=.range) (ev:Value) (w:World) (hv:w.cell? ⟨2,0,none⟩=some ev) (hev:ev=.nilIface∨∃te pe,ev=.iface te pe):
 Calls Tryz.prog 38 #[.string s,.int .i64 10,.int .i64 64] w fun e w'=>∃N,e=.returned (.tuple #[.int .i64 (Lib.intSat 64 s.data.toList),.iface 156 (.pointer (some ⟨N,0,none⟩))])∧w.heap.size≤N∧w'.heap[N]? =some (.cells #[.string ⟨#[80,97,114,115,101,73,110,116]⟩,.string s,ev] 200 (0,0))∧Below w.heap.size w w':=Any.strconv_ParseInt_10_at64_range Tryz.laysC174 s SQ h ev w hv hev
end Go.Proofs
namespace Go.Proofs.YtgeoiflbjcehcaaGreatDoor
open Go X
section
variable {P:Program} {σ f:PH} {Γ:List HP} {h h':Heap}
theorem X.Holds.grown (x:Holds σ Γ f h) (hb:∀k,k<h.size→h'[k]? =h[k]?):Holds σ Γ f h':=by
 obtain⟨m,a,b,c,d,e⟩:=x;(have hl:∀{n:PH},n.le h→n.le h':=fun hn k o e=>by rw[hb k (hn.lt e)];exact hn k o e);exact⟨m,a,hl b,hl c,hl d,e⟩
theorem X.ah.below {fid:FuncId} {vs:Array Value} {R:Value→Prop} (he:Enters P fid) (hc:∀w:World,σ.le w.heap→Calls P fid vs w (fun e w'=>∃v,e=.returned v∧R v∧RowKit.Below w.heap.size w w')):ah P fid vs σ [] (aA fun v aj al=>R v∧σ=aj∧al=[]):=by
 refine⟨he,fun fr h hh=>⟨he,fun w hw=>?_⟩⟩;subst hw;refine(hc w hh.Fu).mono ?_;rintro e w' ⟨v,rfl,hr,hb⟩;exact⟨⟨hb.os,hb.tape,hb.output⟩,σ,[],⟨hr,rfl,rfl⟩,hh.grown hb.block⟩
end
theorem X.ah.Xc {P:Program} {f:FuncId} {vs:Array Value} {σ:PH} {b6:List HP} {α:Sort _} {φ:α→PH→Prop} {Q:Value→Prop} (he:Enters P f) (ho:∀m,Sat b6 m→∃x,φ x m) (mono:∀x m m',φ x m→m.sub m'→φ x m')
 (k:∀aj x,φ x aj→σ.sub aj→ah P f vs aj [] (aA fun v Bk zg=>Q v∧aj=Bk∧zg=[])):ah P f vs σ b6 (aA fun v Bk zg=>Q v∧σ=Bk∧zg=b6):=by
 refine⟨he,fun fr h hh=>?_⟩;obtain⟨m,r,a,b,c,d,e,q⟩:=hh;have hd:σ.rr m:=d.symm;have h1:Holds (σ.or m) [] fr h:=⟨PH.none,trivial,PH.none_le h,PH.xc b a,c,(PH.ez _).symm,(PH.ez _).symm,PH.ic q e⟩;obtain⟨x,hx⟩:=ho m r;refine((k (σ.or m) x (mono x _ _ hx (PH.uA hd)) (PH.uz _ _)).2 fr h h1).mono ?_;rintro e' h' ⟨Bk,zg,hr,kR⟩
 cases e' with
 |returned v=>
  obtain⟨hq,rfl,rfl⟩:=hr;obtain⟨m',-,-,c1,c2,-,-,c3⟩:=kR;exact⟨σ,b6,⟨hq,rfl,rfl⟩,m,r,(PH.uA hd).le c1,(PH.uz _ _).le c1,c2,d,e,q⟩
 |panicked _=>exact hr.elim
 |outgrown=>exact hr.elim
theorem X.aB.Hm {P:Program} {ρ:Env} {σ:PH} {Γ:List HP} {fn:Func} {t1 t3:Tmp} {T1:TypeId} {g1 o1:Nat} {v1 v3:Value} (hf:fn.results=#[.cell t1 T1,.tmp t3]) (h1:ρ t1=.pointer (some ⟨g1,o1,Option.none⟩)) (h3:ρ t3=v3)
 (l1:∀h,Ho σ Γ h→Ld P h T1 g1 o1 v1):aB P fn ρ σ Γ (.tuple #[v1,v3]):=fun h hh w a hw he=>by
 have e1:=he.get t1;rw[h1] at e1;simp at e1;have e3:=he.get t3;rw[h3] at e3;simp at e3;simp[results,hf,e1,e3,asAddr,l1 h hh w hw]
theorem X.aB.Ji {P:Program} {ρ:Env} {σ:PH} {Γ:List HP} {fn:Func} {t1 t3:Tmp} {T1:TypeId} {g1 o1:Nat} {v1 v3:Value} (hf:fn.results=#[.tmp t3,.cell t1 T1]) (h1:ρ t1=.pointer (some ⟨g1,o1,Option.none⟩)) (h3:ρ t3=v3)
 (l1:∀h,Ho σ Γ h→Ld P h T1 g1 o1 v1):aB P fn ρ σ Γ (.tuple #[v3,v1]):=fun h hh w a hw he=>by
 have e1:=he.get t1;rw[h1] at e1;simp at e1;have e3:=he.get t3;rw[h3] at e3;simp at e3;simp[results,hf,e1,e3,asAddr,l1 h hh w hw]
theorem X.aB.Hn {P:Program} {ρ:Env} {σ:PH} {Γ:List HP} {fn:Func} {t1:Tmp} {T1:TypeId} {g1 o1:Nat} {v1:Value} (hf:fn.results=#[.cell t1 T1]) (h1:ρ t1=.pointer (some ⟨g1,o1,Option.none⟩)) (l1:∀h,Ho σ Γ h→Ld P h T1 g1 o1 v1):aB P fn ρ σ Γ v1:=aB.cell hf h1 l1
def py (σ:PH):Prop:=∀w:World,σ.le w.heap→Lib.TabIs Tryz.prog w "internal/strconv.uint64pow10" .u64 Lib.pow10Tab
def kT (σ:PH):Prop:=∃e1 e2,cH σ 1 0 [e1]∧(e1=.nilIface∨∃te pe,e1=.iface te pe)∧cH σ 2 0 [e2]∧(e2=.nilIface∨∃te pe,e2=.iface te pe)
theorem py.mono {σ aj:PH} (h:py σ) (s:σ.sub aj):py aj:=fun w hw=>h w (s.le hw)
theorem kT.mono {σ aj:PH} (h:kT σ) (s:σ.sub aj):kT aj:=by
 obtain⟨e1,e2,h1,h2,h3,h4⟩:=h;exact⟨e1,e2,h1.mono s,h2,h3.mono s,h4⟩
def cY (n:Int):ByteArray:=⟨(Lib.itoa n).toArray⟩
theorem xD (w:World) (q:Nat) (os:Array Obj):RowKit.Below w.heap.size w (Sort.grow (w.drewN q) os):=
 ⟨rfl,rfl,rfl,by first|(simp[Sort.grow];done)|(simp[Sort.grow];omega),fun i hi=>by
  show ((w.drewN q).heap++os)[i]? =_;rw[Array.getElem?_append_left (by show i<w.heap.size;omega)]
  rfl⟩
theorem uJ (σ:PH) (n:Int) (h0:-9223372036854775808≤n) (h1:n≤9223372036854775807) (hT:py σ):
 ah Tryz.prog 39 #[i64 n,i64 10] σ [] (aA fun v aj al=>v=.string (cY n)∧σ=aj∧al=[]):=by
 (refine ah.below (enters Tryz.func39 rfl rfl) fun w hw=>?_;refine(Tryz.strconv_FormatInt_10 n h0 h1 w (hT w hw)).mono ?_);rintro e w' ⟨rfl,k,os,rfl⟩;exact⟨_,rfl,rfl,xD w k os⟩
theorem Di (w:World) (e:TypeId) (s:ByteArray):RowKit.Below w.heap.size w (Lib.bytesWorld w e s):=by
 refine⟨rfl,rfl,rfl,?_,fun k hk=>Lib.bytesWorld_at_old w e s k hk⟩;simp[Lib.bytesWorld,World.freeze,World.alloc,World.drew,-World.alloc_eq,-World.drew_eq]
def Xd (s:ByteArray) (v:Value):Prop:=(∃n,Lib.parseIntB 64 s.data.toList=.ok n∧v=.tuple #[i64 n,.nilIface])∨((∀n,Lib.parseIntB 64 s.data.toList≠.ok n)∧∃n a,v=.tuple #[i64 n,.iface 156 (.pointer (some a))])
theorem Dj {σ:PH} {w:World} (hw:σ.le w.heap) {g:Nat} {v:Value} (h:cH σ g 0 [v]):w.cell? ⟨g,0,none⟩=some v:=by
 obtain⟨l,T,fr,a,b⟩:=h.row hw
 have h0:l[0]? =some v:=by
  have:=congrArg (·[0]?) b;simpa using this
 simp[World.cell?,a,h0]
theorem Bv (σ:PH) (s:ByteArray) (hs:s.size≤100000000) (hE:kT σ):
 ah Tryz.prog 38 #[.string s,i64 10,i64 64] σ [] (aA fun v aj al=>Xd s v∧σ=aj∧al=[]):=by
 obtain⟨e1,e2,r1,q1,r2,q2⟩:=hE;(refine ah.below (enters Tryz.func38 rfl rfl) fun w hw=>?_);cases h:Lib.parseIntB 64 s.data.toList
 ·rename_i n;refine(Tryz.strconv_ParseInt_10_at64_ok s ad n h w).mono ?_;rintro e w' ⟨rfl,OS⟩;refine⟨_,rfl,.inl ⟨n,h,rfl⟩,?_⟩;rcases OS with rfl|⟨t,rfl⟩
  ·exact .refl _ _
  ·exact Di w _ t
 ·refine(Tryz.strconv_ParseInt_10_at64_syntax s ad h e1 w (Dj hw r1) q1).mono ?_;rintro e w' ⟨N,rfl,-,-,hb⟩;exact⟨_,rfl,.inr ⟨fun n=>(by rw[h];intro x;cases x),_,_,rfl⟩,hb⟩
 ·refine(Tryz.strconv_ParseInt_10_at64_range s ad h e2 w (Dj hw r2) q2).mono ?_;rintro e w' ⟨N,rfl,-,-,hb⟩;exact⟨_,rfl,.inr ⟨fun n=>(by rw[h];intro x;cases x),_,_,rfl⟩,hb⟩
def eY (s:ByteArray):Option Int:=match Lib.parseIntB 64 s.data.toList with
 |.ok n=>if cY n=s then some n else none
 |_=>none
theorem nb:∃ms,Tryz.prog.underlying 87=some (.interface ms):=by
 obtain⟨dd,ii,zz,e1,e2,-⟩:=aF (P:=Tryz.prog) (T:=87) (ae rfl);(cases dd<;>simp[kindOf,aan] at e2);exact⟨_,e1⟩
theorem nH {s:ByteArray} {n:Int} (h:Lib.parseIntB 64 s.data.toList=.ok n):eY s=if cY n=s then some n else none:=by rw[eY,h]
theorem oA {s:ByteArray} (h:∀n,Lib.parseIntB 64 s.data.toList≠.ok n):eY s=none:=by
 rw[eY];split
 ·rename_i n hn;exact absurd hn (h n)
 ·rfl
theorem iR {n:Int} {l:List UInt8} (h:Lib.parseIntB 64 l=.ok n):-9223372036854775808≤n∧n≤9223372036854775807:=by
 have:=Lib.parseIntB_bounds (B:=64) h;(have e:((2^(64-1):Nat):Int)=9223372036854775808:=by decide);rw[e] at this;omega
section
variable {P:Program} {ρ:Env} {S:Heap→Prop} {ty:TypeId}
theorem X.Rd.pL {T:TypeId} {x y z:Operand} {r:Ty} {s:ByteArray} {i j:Int} (hT:aX P T=some r) (hk:r.k=.string) (hx:ev ρ x=.string s) (hy:ev ρ y=i64 i) (hz:ev ρ z=i64 j) (h:0≤i∧i≤j∧j≤s.size):Rd P ρ S (.slice T x (some y) (some z) none) ty (.string (s.extract i.toNat j.toNat)):=by
 (refine .pure fun d pos af gd w=>?_);obtain⟨dd,ii,zz,e1,e2,-⟩:=aF hT;rw[hk] at e2;(cases dd<;>simp[kindOf] at e2);have:=run_slice_string (P:=P) w T s .i64 .i64 i j e1 h.1 h.2.1 h.2.2;have h2:=run_sliceAt_string (P:=P) w T (.string s) (some (i64 i)) (some (i64 j)) none e1;rw[this] at h2;simp[execOp,hx,hy,hz,h2]
theorem X.Rd.jI {T:TypeId} {x y z:Operand} {r:Ty} {s t:ByteArray} {i j:Int} (hT:aX P T=some r) (hk:r.k=.string) (hx:ev ρ x=.string s) (hy:ev ρ y=i64 i) (hz:ev ρ z=i64 j) (h:0≤i∧i≤j∧j≤s.size) (ht:s.extract i.toNat j.toNat=t):Rd P ρ S (.slice T x (some y) (some z) none) ty (.string t):=ht▸Rd.pL hT hk hx hy hz h
theorem X.Rd.fi {T T':TypeId} {x y:Operand} {a b:ByteArray} (hx:ev ρ x=.string a) (hy:ev ρ y=.string b) (h:a.size+b.size≤9223372036854775807):Rd P ρ S (.binOp .add T x y T') ty (.string (a++b)):=by
 (refine .pure fun d pos af gd w=>?_);simp only[execOp,hx,hy,binOp,Sem.run_bind];have:=run_string_add_sum (P:=P) w a b h;simp[eqGuard,this]
end
def bN (c:Nat):Bool:=decide (97≤c∧c≤122)
def aL (c:Nat):Bool:=decide (48≤c∧c≤57)
def dH (c:Nat):Bool:=decide (c=32∨c=9∨c=10∨c=13)
def Dk (p:Nat→Bool) (s:ByteArray):Nat→Nat→Nat
 |0,_=>0
 |f+1,i=>if i<s.size∧p (aJ s i)=true then Dk p s f (i+1)+1 else 0
def bf (p:Nat→Bool) (s:ByteArray) (i:Nat):Nat:=Dk p s (s.size-i) i
theorem mR (p:Nat→Bool) (s:ByteArray) (i:Nat):bf p s i=if i<s.size∧p (aJ s i)=true then bf p s (i+1)+1 else 0:=by
 unfold bf;by_cases h:i<s.size
 ·obtain⟨k,hk⟩:∃k,s.size-i=k+1:=⟨s.size-i-1,ad⟩;rw[hk,Dk,show s.size-(i+1)=k by omega]
 ·rw[show s.size-i=0 by omega,ag (fun q=>h q.1)];rfl
theorem Hp (p:Nat→Bool) (s:ByteArray):∀(f i:Nat),Dk p s f i≤f
 |0,_=>bX _
 |f+1,i=>by
  rw[Dk];split
  ·have:=Hp p s f (i+1);omega
  ·omega
theorem jq (p:Nat→Bool) (s:ByteArray) {i:Nat} (h:i≤s.size):i+bf p s i≤s.size:=by
 have:=Hp p s (s.size-i) i;unfold bf;omega
theorem pM {p:Nat→Bool} {s:ByteArray} {i:Nat} (h:¬(i<s.size∧p (aJ s i)=true)):bf p s i=0:=by rw[mR,ag h]
section
variable {P:Program} {ρ:Env} {S:Heap→Prop} {ty:TypeId}
theorem X.Rd.Rk {T:TypeId} {x y:Operand} {r:Ty} {s:ByteArray} {j:Int} {n:Nat} {kk:IntKind} (hT:aX P T=some r) (hk:r.k=.string) (hx:ev ρ x=.string s) (hy:ev ρ y=.int kk j) (hn:j=n) (hi:n<s.size):Rd P ρ S (.index T x y) ty (.int .u8 (aJ s n)):=by
 subst hn;exact Rd.bh hT hk hx hy hi
end
theorem Dl (σ:PH) (c:Nat) (_:c<256):ah Tryz.prog 201 #[.int .u8 c] σ [] (aA fun v aj al=>v=.bool (bN c)∧σ=aj∧al=[]):=by
 by_cases h1:97≤c
 ·refine cM Tryz.func201 ?_;refine dV ?_;refine bC rfl rfl ⟨?_,rfl,rfl⟩;exact congrArg Value.bool (decide_eq_decide.2 ad)
 ·refine cM Tryz.func201 ?_;refine dV ?_;refine bC rfl rfl ⟨?_,rfl,rfl⟩;exact congrArg Value.bool (aE ad).symm
theorem Hq (σ:PH) (c:Nat) (_:c<256):ah Tryz.prog 202 #[.int .u8 c] σ [] (aA fun v aj al=>v=.bool (aL c)∧σ=aj∧al=[]):=by
 by_cases h1:48≤c
 ·refine cM Tryz.func202 ?_;refine dV ?_;refine bC rfl rfl ⟨?_,rfl,rfl⟩;exact congrArg Value.bool (decide_eq_decide.2 ad)
 ·refine cM Tryz.func202 ?_;refine dV ?_;refine bC rfl rfl ⟨?_,rfl,rfl⟩;exact congrArg Value.bool (aE ad).symm
theorem Ak (σ:PH) (c:Nat) (_:c<256):ah Tryz.prog 120 #[.int .u8 c] σ [] (aA fun v aj al=>v=.bool (bN c)∧σ=aj∧al=[]):=by
 by_cases h1:97≤c
 ·refine cM Tryz.func120 ?_;refine dV ?_;refine bC rfl rfl ⟨?_,rfl,rfl⟩;exact congrArg Value.bool (decide_eq_decide.2 ad)
 ·refine cM Tryz.func120 ?_;refine dV ?_;refine bC rfl rfl ⟨?_,rfl,rfl⟩;exact congrArg Value.bool (aE ad).symm
theorem xE (σ:PH) (c:Nat) (_:c<256):ah Tryz.prog 121 #[.int .u8 c] σ [] (aA fun v aj al=>v=.bool (aL c)∧σ=aj∧al=[]):=by
 by_cases h1:48≤c
 ·refine cM Tryz.func121 ?_;refine dV ?_;refine bC rfl rfl ⟨?_,rfl,rfl⟩;exact congrArg Value.bool (decide_eq_decide.2 ad)
 ·refine cM Tryz.func121 ?_;refine dV ?_;refine bC rfl rfl ⟨?_,rfl,rfl⟩;exact congrArg Value.bool (aE ad).symm
theorem Hr (σ:PH) (c:Nat) (_:c<256):ah Tryz.prog 175 #[.int .u8 c] σ [] (aA fun v aj al=>v=.bool (dH c)∧σ=aj∧al=[]):=by
 by_cases h1:c=32
 ·subst h1;refine cM Tryz.func175 ?_;refine sT ?_;exact bC rfl rfl ⟨rfl,rfl,rfl⟩
 by_cases h2:c=9
 ·subst h2;refine cM Tryz.func175 ?_;refine sT ?_;exact bC rfl rfl ⟨rfl,rfl,rfl⟩
 by_cases h3:c=10
 ·subst h3;refine cM Tryz.func175 ?_;refine sT ?_;exact bC rfl rfl ⟨rfl,rfl,rfl⟩
 refine cM Tryz.func175 ?_;refine sT ?_;refine bC rfl rfl ⟨?_,rfl,rfl⟩;exact congrArg Value.bool (decide_eq_decide.2 ad)
def aaY (f:FuncId) (p:Nat→Bool):Prop:=∀(σ:PH) (c:Nat),c<256→ah Tryz.prog f #[.int .u8 c] σ [] (aA fun v aj al=>v=.bool (p c)∧σ=aj∧al=[])
theorem Hs (σ:PH) (s:ByteArray) (i:Nat) (f:FuncId) (p:Nat→Bool) (hp:aaY f p) (hi:i≤s.size) (hs:s.size≤100000000):
 ah Tryz.prog 174 #[.string s,i64 i,.func (.func f) #[] #[]] σ [] (aA fun v aj al=>v=i64 (bf p s i)∧σ=aj∧al=[]):=by
 (refine lS Tryz.func174 ?_;refine bm ?_;refine XA.gen [(0,_),(1,_),(2,_),(6,_),(7,_)] iX fun δ=>?_);dsimp only[List.foldl];refine XA.loop [(7,24)] (fun k:Nat=>[(7,i64 k)]) (fun k aj al=>σ=aj∧i+k≤s.size∧bf p s i=bf p s (i+k)+k∧al=[]) (fun k=>s.size-(i+k)) 0 eb (Δ0:=_) ?_ (⟨rfl,hi,rfl,rfl⟩) ?_
 ·exact zE
 rintro k δ _ _ ⟨rfl,hk,bu,rfl⟩;dsimp only[dq,List.foldl];have hk:i+k≤s.size:=hk;have bu:bf p s i=bf p s (i+k)+k:=bu;by_cases aV:i+k<s.size
 ·have hc:=hp σ (aJ s (i+k)) (jv _ _);rw[mR p s (i+k)] at bu
  cases hq:p (aJ s (i+k)) with
  |true=>
   rw[hq] at hc;rw[aq ⟨aV,hq⟩] at bu;refine dh ?_;refine zG ?_;refine zO rfl (Rd.Rk (n:=i+k) (ae rfl) rfl rfl rfl ad aV) ?_;refine zG ?_;refine zw rfl (ax.cV (first:=[]) (cap:=[]) rfl (hc) rfl) ?_;rintro _ _ _ ⟨_,⟨rfl,rfl,rfl⟩,rfl⟩;refine az.cl ?_;refine eA ?_;refine⟨bQ,k+1,_,zM,?_,⟨rfl,by show i+(k+1)≤s.size;omega,by show bf p s i=bf p s (i+(k+1))+(k+1);rw[show i+k+1=i+(k+1) by omega] at bu;omega,rfl⟩,ad⟩
   ·exact zE
  |false=>
   rw[hq] at hc;rw[ag (fun x=>by rw[hq] at x;exact Bool.noConfusion x.2)] at bu;refine dh ?_;refine zG ?_;refine zO rfl (Rd.Rk (n:=i+k) (ae rfl) rfl rfl rfl ad aV) ?_;refine zG ?_;refine zw rfl (ax.cV (first:=[]) (cap:=[]) rfl (hc) rfl) ?_;rintro _ _ _ ⟨_,⟨rfl,rfl,rfl⟩,rfl⟩;refine az.cl ?_;refine dC ?_;rw[Nat.zero_add] at bu;rw[bu];exact bC rfl rfl ⟨rfl,rfl,rfl⟩
 ·rw[pM (fun x=>aV x.1),Nat.zero_add] at bu;refine dh ?_;(first|refine zH ?_);(first|refine zH ?_);refine cx ?_;refine ik ?_;refine bm ?_;rw[bu];exact bC rfl rfl ⟨rfl,rfl,rfl⟩
structure Tk where
 at_:Nat
 text:ByteArray
 num:Bool
 n:Int
def gQ (s:ByteArray) (i:Nat):Option Tk:=
 if aJ s i=40∨aJ s i=41 then some ⟨i,s.extract i (i+1),false,0⟩
 else if bN (aJ s i)=true then some ⟨i,s.extract i (i+bf bN s i),false,0⟩
 else if aL (aJ s i)=true∨aJ s i=45 then
  (eY (s.extract i (i+1+bf aL s (i+1)))).map fun n=>⟨i,s.extract i (i+1+bf aL s (i+1)),true,n⟩
 else none
def Lu (t:Tk):List Value:=[i64 t.at_,.string t.text,.bool t.num,i64 t.n]
def SR (o:Option Tk):Value:=match o with
 |some t=>.tuple #[.agg (Lu t).toArray,i64 0]
 |none=>.tuple #[.agg #[i64 0,.string ByteArray.empty,.bool false,i64 0],i64 7]
theorem Pl (σ:PH) (s:ByteArray) (i:Nat) (hi:i<s.size) (hs:s.size≤100000000) (hT:py σ) (hE:kT σ):
 ah Tryz.prog 176 #[.string s,i64 i] σ [] (aA fun v aj al=>v=SR (gQ s i)∧σ=aj∧al=[]):=by
 have hb:=jv s i;by_cases h1:aJ s i=40
 ·(have e:gQ s i=some ⟨i,s.extract i (i+1),false,0⟩:=by rw[gQ,aq (.inl h1)]);rw[e];refine cw Tryz.func176 ?_;refine aU ?_;refine di (fun g4=>?_) (ae rfl);refine bg ?_;refine zO rfl (Rd.bh (ae rfl) rfl rfl rfl gD) ?_;refine dC ?_;refine iQ ?_;refine bg ?_;refine zO rfl (Rd.pL (ae rfl) rfl rfl rfl rfl ad) ?_;refine bJ ?_;exact ao.ret (aB.Hm rfl rfl rfl (Ld.bn (ae rfl) rfl zL rfl cK cJ)) (ar.nil _) ⟨rfl,rfl,rfl⟩
 by_cases h2:aJ s i=41
 ·(have e:gQ s i=some ⟨i,s.extract i (i+1),false,0⟩:=by rw[gQ,aq (.inr h2)]);rw[e];refine cw Tryz.func176 ?_;refine aU ?_;refine di (fun g4=>?_) (ae rfl);refine bg ?_;refine zO rfl (Rd.bh (ae rfl) rfl rfl rfl gD) ?_;refine dC ?_;refine iQ ?_;refine bg ?_;refine zO rfl (Rd.pL (ae rfl) rfl rfl rfl rfl ad) ?_;refine bJ ?_;exact ao.ret (aB.Hm rfl rfl rfl (Ld.bn (ae rfl) rfl zL rfl cK cJ)) (ar.nil _) ⟨rfl,rfl,rfl⟩
 (have xF:¬(aJ s i=40∨aJ s i=41):=by omega);have Jj:=Dl σ (aJ s i) hb;have Jk:=jq bN s (i:=i) ad;have agE:=jq aL s (i:=i+1) ad;have Jl:=Hq σ (aJ s i) hb;have mZ:=Hs σ s i 201 bN Dl ad hs;have oY:=Hs σ s (i+1) 202 aL Hq ad hs;refine cw Tryz.func176 ?_;refine aU ?_;refine di (fun g4=>?_) (ae rfl);refine bg ?_;refine zO rfl (Rd.bh (ae rfl) rfl rfl rfl gD) ?_;refine dC ?_;refine ik ?_;refine cx ?_
 cases hl:bN (aJ s i) with
 |true=>
  (have e:gQ s i=some ⟨i,s.extract i (i+bf bN s i),false,0⟩:=by rw[gQ,ag xF,aq hl]);rw[e];rw[hl] at Jj;refine yC (Jj) ?_;refine bm ?_;refine yC (mZ) ?_;refine bS ?_;refine zO rfl (Rd.pL (ae rfl) rfl rfl rfl rfl ad) ?_;refine bJ ?_;exact ao.ret (aB.Hm rfl rfl rfl (Ld.bn (ae rfl) rfl zL rfl cK cJ)) (ar.nil _) ⟨rfl,rfl,rfl⟩
 |false=>
  (have ux:¬bN (aJ s i)=true:=by rw[hl];exact Bool.noConfusion);rw[hl] at Jj;by_cases hd:aL (aJ s i)=true∨aJ s i=45
  ·(have e:gQ s i=(eY (s.extract i (i+1+bf aL s (i+1)))).map fun n=>⟨i,s.extract i (i+1+bf aL s (i+1)),true,n⟩:=by rw[gQ,ag xF,ag ux,aq hd]);obtain⟨tx,htx⟩:∃tx,tx=s.extract i (i+1+bf aL s (i+1)):=⟨_,rfl⟩;(have Xe:s.extract (i:Int).toNat (((i:Int)+1)+(bf aL s (i+1):Nat)).toNat=tx:=by rw[htx];congr 1<;>omega);rw[←htx] at e;rw[e];(have htz:tx.size≤100000000:=by rw[htx,ByteArray.size_extract];omega);have Pm:=Bv σ tx htz hE
   cases hq:aL (aJ s i) with
   |true=>
    rw[hq] at Jl;refine yC (Jj) ?_;refine bg ?_;refine yC (Jl) ?_;refine ra ?_;refine yC (oY) ?_;refine bS ?_;refine zO rfl (Rd.jI (ae rfl) rfl rfl rfl rfl ad Xe) ?_;refine a8 ?_;refine zw rfl (ax.cE (Pm) rfl) ?_;rintro v _ _ ⟨_,⟨s9,rfl,rfl⟩,rfl⟩;refine az.cl ?_;rcases s9 with ⟨n,hn,rfl⟩|⟨zc,n,a,rfl⟩
    ·obtain⟨o5,rQ⟩:=iR hn;rw[nH hn];refine cp ?_;refine zO rfl (Rd.uI nb.choose_spec rfl) ?_;refine aU ?_;refine zG ?_;refine yC (uJ σ n o5 rQ hT) ?_;refine bS ?_;(first|(refine zG ?_;refine zO rfl (Rd.neqs rfl rfl) ?_)|refine zH ?_);refine cx ?_;by_cases hq:cY n=tx
     ·(have Pn:¬(cY n≠tx):=fun h=>h hq);rw[aq hq];refine XA.aI rfl (by first|rfl|exact aE Pn) ?_;refine dB ?_;exact ao.ret (aB.Hm rfl rfl rfl (Ld.bn (ae rfl) rfl zL rfl cK cJ)) (ar.nil _) ⟨rfl,rfl,rfl⟩
     ·rw[ag hq];refine XA.aY rfl (by first|rfl|exact aM hq) ?_;refine bt ?_;exact ao.ret (aB.Hm rfl rfl rfl (Ld.bn (ae rfl) rfl zL rfl cK cJ)) (ar.nil _) ⟨rfl,rfl,rfl⟩
    ·rw[oA zc];refine cp ?_;refine zO rfl (Rd.uH nb.choose_spec rfl) ?_;refine bY ?_;(first|(refine zG ?_;refine zO rfl (Rd.neqs rfl rfl) ?_)|refine zH ?_);refine dB ?_;exact ao.ret (aB.Hm rfl rfl rfl (Ld.bn (ae rfl) rfl zL rfl cK cJ)) (ar.nil _) ⟨rfl,rfl,rfl⟩
   |false=>
    have Zi:aJ s i=45:=hd.resolve_left (by rw[hq];exact Bool.noConfusion);(have aa0:¬((aJ s i:Int)≠45):=by omega);rw[hq] at Jl;refine yC (Jj) ?_;refine bg ?_;refine yC (Jl) ?_;refine bJ ?_;refine XA.aI rfl (by first|rfl|exact aE aa0) ?_;refine bm ?_;refine yC (oY) ?_;refine bS ?_;refine zO rfl (Rd.jI (ae rfl) rfl rfl rfl rfl ad Xe) ?_;refine a8 ?_;refine zw rfl (ax.cE (Pm) rfl) ?_;rintro v _ _ ⟨_,⟨s9,rfl,rfl⟩,rfl⟩;refine az.cl ?_;rcases s9 with ⟨n,hn,rfl⟩|⟨zc,n,a,rfl⟩
    ·obtain⟨o5,rQ⟩:=iR hn;rw[nH hn];refine cp ?_;refine zO rfl (Rd.uI nb.choose_spec rfl) ?_;refine aU ?_;refine zG ?_;refine yC (uJ σ n o5 rQ hT) ?_;refine bS ?_;(first|(refine zG ?_;refine zO rfl (Rd.neqs rfl rfl) ?_)|refine zH ?_);refine cx ?_;by_cases hq:cY n=tx
     ·(have Pn:¬(cY n≠tx):=fun h=>h hq);rw[aq hq];refine XA.aI rfl (by first|rfl|exact aE Pn) ?_;refine dB ?_;exact ao.ret (aB.Hm rfl rfl rfl (Ld.bn (ae rfl) rfl zL rfl cK cJ)) (ar.nil _) ⟨rfl,rfl,rfl⟩
     ·rw[ag hq];refine XA.aY rfl (by first|rfl|exact aM hq) ?_;refine bt ?_;exact ao.ret (aB.Hm rfl rfl rfl (Ld.bn (ae rfl) rfl zL rfl cK cJ)) (ar.nil _) ⟨rfl,rfl,rfl⟩
    ·rw[oA zc];refine cp ?_;refine zO rfl (Rd.uH nb.choose_spec rfl) ?_;refine bY ?_;(first|(refine zG ?_;refine zO rfl (Rd.neqs rfl rfl) ?_)|refine zH ?_);refine dB ?_;exact ao.ret (aB.Hm rfl rfl rfl (Ld.bn (ae rfl) rfl zL rfl cK cJ)) (ar.nil _) ⟨rfl,rfl,rfl⟩
  ·have e:gQ s i=none:=by rw[gQ,ag xF,ag ux,ag hd]
   have hq:aL (aJ s i)=false:=by
    cases h:aL (aJ s i) with
    |true=>exact absurd (.inl h) hd
    |false=>rfl
   (have Zi:(aJ s i:Int)≠45:=fun h=>hd (.inr ad));rw[hq] at Jl;rw[e];refine yC (Jj) ?_;refine bg ?_;refine yC (Jl) ?_;refine bJ ?_;refine XA.aY rfl (by first|rfl|exact aM Zi) ?_;refine aR ?_;exact ao.ret (aB.Hm rfl rfl rfl (Ld.bn (ae rfl) rfl zL rfl cK cJ)) (ar.nil _) ⟨rfl,rfl,rfl⟩
def iY (s:ByteArray):Nat→Nat→List Tk→Except Nat (List Tk)
 |0,_,acc=>.ok acc
 |f+1,i,acc=>if i<s.size then match gQ s i with
  |some t=>iY s f (i+t.text.size+bf dH s (i+t.text.size)) (acc++[t])
  |none=>.error i
  else .ok acc
abbrev wg (α:Type):=Except (Int×Int) α
def pN {α:Type}:wg α→Int|.error e=>e.1|.ok _=>0
def Dm {α:Type}:wg α→Int|.error e=>e.2|.ok _=>0
def okL {α:Type}:wg (List α)→List α|.error _=>[]|.ok l=>l
def Lv:Except Nat (List Tk)→wg (List Tk)
 |.ok l=>.ok l
 |.error i=>.error (7,(i:Int))
def fy (s:ByteArray):wg (List Tk):=if 6000<s.size then .error (3,6000) else Lv (iY s (s.size+1) (bf dH s 0) [])
theorem qD {s:ByteArray} {i:Nat} {t:Tk} (hi:i<s.size) (h:gQ s i=some t):t.at_=i∧1≤t.text.size∧i+t.text.size≤s.size:=by
 have hl:=jq bN s (i:=i) ad;have hd:=jq aL s (i:=i+1) ad;rw[gQ] at h;split at h
 ·cases h;refine⟨rfl,?_,?_⟩<;>simp only[ByteArray.size_extract]<;>omega
 ·split at h
  ·rename_i hq;(have h1:bf bN s i=bf bN s (i+1)+1:=by rw[mR,aq ⟨hi,hq⟩]);cases h;refine⟨rfl,?_,?_⟩<;>simp only[ByteArray.size_extract]<;>omega
  ·split at h
   ·rw[Option.map_eq_some_iff] at h;obtain⟨n,-,rfl⟩:=h;refine⟨rfl,?_,?_⟩<;>simp only[ByteArray.size_extract]<;>omega
   ·cases h
structure Po (s:ByteArray) (t:Tk):Prop where
 at_:t.at_<s.size
 size:1≤t.text.size∧t.text.size≤s.size
 num:aG t.n
 word:t.num=false→t.n=0
theorem Pp {s:ByteArray} {i:Nat} {t:Tk} (hi:i<s.size) (h:gQ s i=some t):Po s t:=by
 obtain⟨h1,h2,h3⟩:=qD hi h;have z:aG 0:=⟨au,au⟩;refine⟨ad,⟨h2,ad⟩,?_,?_⟩
 ·rw[gQ] at h;split at h
  ·cases h;exact z
  ·split at h
   ·cases h;exact z
   ·split at h
    ·rw[Option.map_eq_some_iff] at h;obtain⟨n,hn,rfl⟩:=h;rw[eY] at hn;split at hn
     ·rename_i m hm;split at hn
      ·cases hn;exact iR hm
      ·cases hn
     ·cases hn
    ·cases h
 ·intro s9;rw[gQ] at h;split at h
  ·cases h;rfl
  ·split at h
   ·cases h;rfl
   ·split at h
    ·rw[Option.map_eq_some_iff] at h;obtain⟨n,hn,rfl⟩:=h;cases s9
    ·cases h
theorem Dn {s:ByteArray}:∀(f i:Nat) (acc l:List Tk),iY s f i acc=.ok l→(∀t∈acc,Po s t)→∀t∈l,Po s t
 |0,i,acc,l,h,ha=>by cases h;exact ha
 |f+1,i,acc,l,h,ha=>by
  rw[iY] at h;split at h
  ·rename_i hi;split at h
   ·rename_i t ht;refine Dn f _ _ l h (fun x hx=>?_);rcases List.mem_append.1 hx with hx|hx
    ·exact ha x hx
    ·rw[List.mem_singleton.1 hx];exact Pp hi ht
   ·cases h
  ·cases h;exact ha
theorem pO {s:ByteArray} {l:List Tk} (h:fy s=.ok l):s.size≤6000∧∀t∈l,Po s t:=by
 rw[fy] at h;split at h
 ·cases h
 ·cases hl:iY s (s.size+1) (bf dH s 0) [] with
  |ok l'=>
   rw[hl] at h;cases h;exact⟨ad,Dn _ _ _ _ hl (fun t ht=>by cases ht)⟩
  |error i=>rw[hl] at h;cases h
def je:RT Tk:=fun _ cs t=>cs=Lu t
def Dp (l:List Tk):List Value:=(l.map Lu).flatten
theorem iS (l:List Tk) (t:Tk):Dp (l++[t])=Dp l++Lu t:=by simp[Dp]
theorem Ht (σ:PH) (l:List Tk):cN 4 je σ (l.map Lu) l:=
 ⟨aZ,fun r hr=>by obtain⟨i,-,rfl⟩:=List.mem_map.1 hr;rfl,fun k r x hr hx=>by rw[List.getElem?_map,hx] at hr;simpa[je] using hr.symm⟩
theorem SS (σ:PH) (s:ByteArray) (hs:s.size≤100000000) (hT:py σ) (hE:kT σ):
 ah Tryz.prog 143 #[.string s] σ [] (aA fun v aj al=>∃sl,v=.tuple #[sl,.agg #[i64 (pN (fy s)),i64 (Dm (fy s))]]∧bV 4 je aj sl (okL (fy s))∧σ.sub aj∧al=[]):=by
 by_cases h6:6000<s.size
 ·(have e:fy s=.error (3,6000):=by rw[fy,aq h6]);rw[e];refine cM Tryz.func143 ?_;refine cx ?_;refine di (fun g3=>?_) (ae rfl);refine aR ?_;refine iQ ?_;refine bt ?_;exact ao.ret (aB.Ji rfl rfl rfl (Ld.bn (ae rfl) rfl zL rfl cK cJ)) (ar.nil _) ⟨_,rfl,bV.nil _ _ _,.refl _,rfl⟩
 have h0:=jq dH s (i:=0) ad;have Lw:=Hs σ s 0 175 dH Hr ad hs;obtain⟨R,hR⟩:∃R,iY s (s.size+1) (bf dH s 0) []=R:=⟨_,rfl⟩;(have hP:fy s=Lv R:=by rw[fy,ag h6,hR]);refine cM Tryz.func143 ?_;refine cx ?_;refine di (fun g3=>?_) (ae rfl);(refine aR ?_;refine ik ?_;refine cp ?_;refine yC (Lw) ?_;refine bY ?_;refine XA.eX (ar.dU (e:=257) (size:=4) (ar.refl _)) ?_;refine XA.gen [(0,_),(2,_),(3,_),(4,_),(5,_)] iX fun δ=>?_);dsimp only[List.foldl];refine XA.loop [(2,2),(4,7),(14,42)] (fun x:(Nat×(Nat×List Tk))×(Option Addr×Nat)=>[(5,i64 x.1.1),(4,.slice x.2.1 x.1.2.1 x.2.2)]) (fun x aj al=>σ=aj∧x.1.1≤s.size∧x.1.2.1≤x.1.1∧x.1.2.2.length=x.1.2.1∧(∃f,s.size<x.1.1+f∧R=iY s f x.1.1 x.1.2.2)∧al=[aw g3 [i64 0,i64 0] 34,aS 257 4 (.slice x.2.1 x.1.2.1 x.2.2) x.1.2.1 (Dp x.1.2.2)]) (fun x=>s.size-x.1.1) ((bf dH s 0,(0,[])),(none,0)) mO (Δ0:=_) ?_ (⟨rfl,by simpa using h0,cg _,rfl,⟨s.size+1,gF,hR.symm⟩,rfl⟩) ?_
 ·exact zE
 rintro⟨⟨i,n,acc⟩,p,c⟩ δ _ _ ⟨rfl,hi,hn,dr,⟨f,hf,jD⟩,rfl⟩;dsimp only[dq,List.foldl];simp only at hi hn dr hf jD;refine bt ?_;refine XA.bE rfl (fun aV=>?_) (fun aV=>?_)
 ·(have aV:i<s.size:=by omega);have jd:=Pl σ s i aV hs hT hE;obtain⟨f,rfl⟩:∃f',f=f'+1:=⟨f-1,ad⟩;rw[iY,aq aV] at jD;refine bJ ?_
  cases ho:gQ s i with
  |none=>
   rw[ho] at jd jD;dsimp only[SR] at jd;simp only at jD;subst jD;rw[hP];refine yC (jd) ?_;refine cx ?_;refine di (fun g6=>?_) (ae rfl);refine nC ?_;exact ao.ret (aB.Ji rfl rfl rfl (Ld.bn (ae rfl) rfl zL rfl cK cJ)) (ar.nil _) ⟨_,rfl,bV.nil _ _ _,.refl _,rfl⟩
  |some t=>
   obtain⟨Pq,Cu,FE⟩:=qD aV ho;rw[ho] at jd jD;dsimp only[SR,Lu] at jd;simp only at jD;have hle:=jq dH s (i:=i+t.text.size) FE;have Ph:=Hs σ s (i+t.text.size) 175 dH Hr FE hs;refine yC (jd) ?_;refine cx ?_;refine di (fun g6=>?_) (ae rfl);refine lR ?_;refine zw rfl (ax.jY (ae rfl) rfl (ae rfl)) ?_;rintro _ _ _ ⟨CA,rfl,rfl,rfl⟩;refine zw rfl (ax.kM (ae rfl) rfl (ae rfl) rfl rfl rfl) ?_;rintro _ _ _ ⟨p37,c37,rfl,rfl,rfl⟩;refine dV ?_;refine yC (Ph) ?_;refine bY ?_;refine⟨bQ,((i+t.text.size+bf dH s (i+t.text.size),(n+1,acc++[t])),(p37,c37)),_,zM,?_,⟨rfl,hle,by show n+1≤i+t.text.size+bf dH s (i+t.text.size);omega,by show (acc++[t]).length=n+1;rw[bq,dr];rfl,⟨f,by show s.size<i+t.text.size+bf dH s (i+t.text.size)+f;omega,jD⟩,rfl⟩,(by show s.size-(i+t.text.size+bf dH s (i+t.text.size))<s.size-i;omega)⟩
   ·rw[iS];exact zE
 have hRe:R=.ok acc:=by
  rw[jD]
  cases f with
  |zero=>rfl
  |succ f=>rw[iY,ag ad]
 refine eA ?_;refine DA.mX (R:=aS 257 4 (.slice p n c) _ _) zL cm aH ?_;rintro cO ⟨⟩ Bw bz;rw[hP,hRe];exact ao.ret (aB.Ji rfl rfl rfl (Ld.bn (ae rfl) rfl zL rfl cK cJ)) (ar.nil _) ⟨_,rfl,(Ht cO acc).Cx dr.symm Bw,bz,rfl⟩
end Go.Proofs.YtgeoiflbjcehcaaGreatDoor
