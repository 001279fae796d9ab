import Derived.Test.YtgeoiflbjcehcaaGreatDoorDj8
import Derived.Recover
import Derived.Shelf.LaysM
import Derived.Shelf.LaysC
import Derived.Shelf.Strconv.Itoa4
import Derived.Shelf.Strconv.ParseIntPublic10
set_option maxHeartbeats 4000000
set_option maxRecDepth 2000
set_option linter.unusedVariables false
set_option linter.unusedSimpArgs false
namespace Go.Proofs.YtgeoiflbjcehcaaGreatDoor
open Go X
theorem X.bO.take {α:Type} {s n c k:Nat} {R:RT α} {σ:PH} {p:Option Addr} {xs:List α} (h:bO s R σ (.slice p n c) xs) (hk:k≤n):bO s R σ (.slice p k c) (xs.take k):=by
 obtain⟨p',c',rows,h1,h2,h3,h4,h5,h6,h7⟩:=h;simp only[Value.slice.injEq] at h1;obtain⟨rfl,rfl,rfl⟩:=h1;(have hl:(xs.take k).length=k:=by rw[List.length_take];exact Nat.min_eq_left hk);refine⟨p,c,rows.take k,by rw[hl],by omega,h3,by rw[hl,List.length_take];omega,fun r hr=>h5 r (List.mem_of_mem_take hr),fun i row x a b=>?_,fun hp=>?_⟩
 ·rw[List.getElem?_take] at a b;split at a
  ·rename_i hi;rw[if_pos hi] at b;exact h6 i row x a b
  ·cases a
 ·obtain⟨g,o,e,hr⟩:=h7 (by omega);refine⟨g,o,e,?_⟩
  have:=hr.sub (j:=0) (us:=(rows.take k).flatten) (by
   (have e:rows.flatten=(rows.take k).flatten++(rows.drop k).flatten:=by rw[←List.flatten_append,List.take_append_drop]);rw[List.drop_zero,e]
   exact List.take_left)
  simpa using this
theorem er {α:Type} {l:List α} {k:Nat} {x:α} (h:l[k]? =some x):l.drop k=x::l.drop (k+1):=by
 obtain⟨h1,h2⟩:=List.getElem?_eq_some_iff.1 h;rw[List.drop_eq_getElem_cons h1,h2]
theorem Qs (σ:PH) (sl:Value) (l:List Va) (hl:bO 2 tU σ sl l):ae Tryz.prog 152 #[sl] σ [] (aE fun v ag ah=>v=i64 (checkVars l)∧σ=ag∧ah=[]):=by
 obtain⟨pl,cl,rfl,hle,EO⟩:=hl.shape;(have hlen:l.length≤maxLen:=by omega);simp only[maxLen] at hlen;refine dF Tryz.func152 ?_;refine eP ?_;refine XA.bI rfl (fun h8=>?_) (fun h8=>?_)
 ·refine bt ?_;(have hr:checkVars l=3:=by rw[checkVars,if_pos (by omega)]);exact b8 rfl rfl ⟨by rw[hr],rfl,rfl⟩
 (have N5:checkVars l=gN [] 0 l:=by rw[checkVars,if_neg (by omega)]);rw[N5];(refine ic ?_;refine XA.gen [(0,_),(2,_),(3,_),(9,_),(10,_),(11,_)] jN fun δ=>?_);dsimp only[List.foldl];refine XA.loop [(2,5),(11,42)] (fun q:Nat×Int=>[(11,i64 q.1),(3,i64 q.2)]) (fun q ag ah=>σ=ag∧q.1≤l.length∧(0≤q.2∧q.2≤48∧gN (l.take q.1) q.2 (l.drop q.1)=gN [] 0 l)∧ah=[]) (fun q=>l.length-q.1) (0,0) (by exact⟨rfl,rfl,trivial⟩) (Δ0:=_) ?_ (⟨rfl,Nat.zero_le _,⟨Int.le_refl _,(by decide),rfl⟩,rfl⟩) ?_
 ·exact zE
 rintro⟨k,n⟩ δ _ _ ⟨rfl,hk,⟨uz,As,mj⟩,rfl⟩;dsimp only[eb,List.foldl];have hk:k≤l.length:=hk;have uz:0≤n:=uz;have As:n≤48:=As;have mj:gN (l.take k) n (l.drop k)=gN [] 0 l:=mj;refine aO ?_;refine XA.bI rfl (fun aT=>?_) (fun aT=>?_)
 ·(have aT:k<l.length:=by omega);obtain⟨x,hx⟩:∃x,l[k]? =some x:=⟨_,List.getElem?_eq_getElem aT⟩;obtain⟨gg,o,row,rfl,⟨rfl,⟨Qt,Fb⟩,ES⟩,rC,bL⟩:=hl.at hx;have Qu:=hl.take (k:=k) hk;rw[er hx,gN] at mj;refine a8 ?_;refine cR (fun g5=>?_) (ad rfl);refine aW ?_;refine yC (An σ x.name ES) ?_
  cases hnk:eF x.name with
  |false=>
   rw[if_pos hnk] at mj;refine bM ?_;refine dJ ?_;exact b8 rfl rfl ⟨by rw[←mj],rfl,rfl⟩
  |true=>
   rw[if_neg (by simp[hnk])] at mj;refine bM ?_;refine b9 ?_;refine zO rfl (Rd.n8 (ad rfl) rfl (ad rfl) rfl rfl (by omega)) ?_;refine zO rfl (Rd.jZ (by with_reducible (conv=>lhs;whnf))) ?_;refine yC (ua σ g5 x _ _ Qu) ?_;refine bq ?_;refine XA.bI rfl (fun H5=>?_) (fun H5=>?_)
   ·rw[if_pos H5] at mj;refine eP ?_;exact b8 rfl rfl ⟨by rw[←mj],rfl,rfl⟩
   rw[if_neg H5] at mj;by_cases hz:x.size<1
   ·rw[if_pos (.inl hz)] at mj;refine cr ?_;refine dJ ?_;exact b8 rfl rfl ⟨by rw[←mj],rfl,rfl⟩
   ·refine cr ?_;refine XA.bI rfl (fun KB=>?_) (fun KB=>?_)
    ·rw[if_pos (.inr KB)] at mj;refine eP ?_;exact b8 rfl rfl ⟨by rw[←mj],rfl,rfl⟩
    rw[if_neg (by omega)] at mj;refine dE ?_;refine⟨cF,(k+1,n+x.size),_,zM,?_,⟨rfl,aT,⟨by simp only;omega,by simp only;omega,by rw[xt hx];exact mj⟩,rfl⟩,(by simp only;omega)⟩
    ·exact zE
 (have tJ:k=l.length:=by omega);subst tJ;rw[List.drop_length,gN] at mj;refine cg ?_;exact b8 rfl rfl ⟨by rw[←mj],rfl,rfl⟩
theorem kJ (σ:PH) (cs:List Value) (p:Pr) (hp:fY σ cs p):ae Tryz.prog 109 #[.agg cs.toArray] σ [] (aE fun v ag ah=>v=i64 (bR p)∧σ=ag∧ah=[]):=by
 obtain⟨vs,bs,rfl,hv,hb⟩:=hp;obtain⟨pv,cv,rfl,kK,KC⟩:=hv.shape;refine dF Tryz.func109 ?_;refine aN ?_;refine cN fun g1=>?_;refine bC ?_;refine yC (Qs σ _ _ hv) ?_;refine a8 ?_;refine XA.bI rfl (fun hc=>?_) (fun hc=>?_)
 ·refine bC ?_;exact b8 rfl rfl ⟨by rw[bR,if_pos hc],rfl,rfl⟩
 (refine bt ?_;refine cN fun g14=>?_;refine bC ?_;refine az.eS (aw.e9 (Θ:=[_]) zD (aB.UE (l:=150)) (aw.refl _)) ?_);refine yC (Ap σ p.body (fun x _=>Qq σ x) bs g14 pv p.vars.length cv (.ok 150) 0 hb (fun l hl=>by simp only[Except.ok.injEq] at hl;omega) (by decide) (by decide)) ?_;(have hcp:bR p=(dL p.vars.length 0 p.body (.ok 150)).code:=by rw[bR,if_neg hc]);rw[hcp];refine b9 ?_
 cases iM:dL p.vars.length 0 p.body (.ok 150) with
 |ok a=>
  (first|refine XA.aY (R:=aB g14 _ (.ok a)) zL (aB.wO) ?_|refine az.aY (R:=aB g14 _ (.ok a)) zL (aB.wO) ?_|refine DA.aY (R:=aB g14 _ (.ok a)) zL (aB.wO) ?_);rintro⟨⟩-;(first|refine XA.cl ?_|refine az.cl ?_|refine DA.cl ?_);refine bt ?_;exact b8 rfl rfl ⟨rfl,rfl,rfl⟩
 |error c=>
  (first|refine XA.aY (R:=aB g14 _ (.error c)) zL (aB.gO) ?_|refine az.aY (R:=aB g14 _ (.error c)) zL (aB.gO) ?_|refine DA.aY (R:=aB g14 _ (.error c)) zL (aB.gO) ?_);rintro l h0;(first|refine XA.cl ?_|refine az.cl ?_|refine DA.cl ?_);refine bt ?_;exact b8 rfl rfl ⟨rfl,rfl,rfl⟩
theorem lJ:∀(l:List Va),(∀x∈l,0≤x.size∧x.size≤1000)→0≤sizes l∧sizes l≤1000*l.length
 |[],_=>by simp[sizes]
 |x::l,h=>by
  have h1:=lJ l (fun y hy=>h y (by simp[hy]));have h2:=h x (by simp);rw[kF,List.length_cons];omega
theorem Au (σ:PH) (cs:List Value) (p:Pr) (v:Int) (hp:fY σ cs p) (hz:∀x∈p.vars,0≤x.size∧x.size≤1000) (hl:p.vars.length≤1000):
 ae Tryz.prog 148 #[.agg cs.toArray,i64 v] σ [] (aE fun r ag ah=>r=i64 (cellOf p.vars v)∧σ=ag∧ah=[]):=by
 obtain⟨vs,bs,rfl,hv,hb⟩:=hp;obtain⟨pv,cv,rfl,kK,KC⟩:=hv.shape;obtain⟨m,hm⟩:∃m,m=min v.toNat p.vars.length:=⟨_,rfl⟩
 have XW:(if (p.vars.length:Int)<(if (0:Int)>v then 0 else v) then (p.vars.length:Int) else (if (0:Int)>v then 0 else v))=(m:Int):=by
  subst hm;split<;>split at*<;>omega
 have eA:cellOf p.vars v=sizes (p.vars.take m):=by
  rw[cellOf,hm,←List.take_eq_take_min]
 rw[eA];(have Wl:m≤p.vars.length:=by omega);(refine bS Tryz.func148 ?_;refine aN ?_;refine cN fun g2=>?_;refine bH ?_;refine zO rfl (Rd.max2 rfl rfl) ?_;refine bq ?_;refine zO rfl (Rd.min2 rfl rfl) ?_;refine bM ?_);rw[XW];(refine XA.gen [(2,_),(4,_),(5,_),(12,_),(13,_)] jN fun δ=>?_);dsimp only[List.foldl];refine XA.loop [(5,6),(13,24)] (fun q:Nat×Int=>[(13,i64 q.1),(5,i64 q.2)]) (fun q ag ah=>σ=ag∧q.1≤m∧q.2=sizes (p.vars.take q.1)∧ah=[au g2 [.slice pv p.vars.length cv,bs] 69]) (fun q=>m-q.1) (0,0) (by exact⟨rfl,rfl,trivial⟩) (Δ0:=_) ?_ (⟨rfl,Nat.zero_le _,rfl,rfl⟩) ?_
 ·exact zE
 rintro⟨k,n⟩ δ _ _ ⟨rfl,hk,hn,rfl⟩;dsimp only[eb,List.foldl];have hk:k≤m:=hk;have hn:n=sizes (p.vars.take k):=hn;have ml:=lJ (p.vars.take k) (fun y hy=>hz y (List.mem_of_mem_take hy));(have Qv:(p.vars.take k).length=k:=by rw[List.length_take];omega);refine aO ?_;refine XA.bI rfl (fun aT=>?_) (fun aT=>?_)
 ·(have aT:k<m:=by omega);obtain⟨x,hx⟩:∃x,p.vars[k]? =some x:=⟨_,List.getElem?_eq_getElem (by omega)⟩;obtain⟨gg,o,row,rfl,⟨rfl,⟨Qt,Fb⟩,ES⟩,rC,bL⟩:=hv.at hx;have r1:cz σ gg (o+k*2+1) [i64 x.size]:=bL.sub (j:=1) rfl;have e1:=sr p.vars k x hx;have hxz:=hz x (List.mem_of_getElem? hx);refine nh ?_;refine⟨cF,(k+1,n+x.size),_,zM,?_,⟨rfl,aT,by simp only;omega,rfl⟩,(by simp only;omega)⟩
  ·exact zE
 (have hkm:k=m:=by omega);subst hkm;refine bH ?_;exact b8 rfl rfl ⟨by rw[←hn],rfl,rfl⟩
theorem BU (σ:PH) (cs:List Value) (p:Pr) (hp:fY σ cs p) (hz:∀x∈p.vars,0≤x.size∧x.size≤1000) (hl:p.vars.length≤1000):
 ae Tryz.prog 107 #[.agg cs.toArray] σ [] (aE fun r ag ah=>r=i64 (sizes p.vars)∧σ=ag∧ah=[]):=by
 have oq:=hp;obtain⟨vs,bs,rfl,hv,hb⟩:=hp;obtain⟨pv,cv,rfl,kK,KC⟩:=hv.shape;(refine dF Tryz.func107 ?_;refine aN ?_;refine cN fun g1=>?_;refine a8 ?_;refine yC (Au σ _ p p.vars.length oq hz hl) ?_;refine bM ?_);exact b8 rfl rfl ⟨by rw[cellOf,Int.toNat_natCast,List.take_length],rfl,rfl⟩
theorem aw.one {R S:HP} (h:∀m,R m→S m):aw [R] [S]:=fun m ⟨m1,m2,a,b,c,d,e⟩=>⟨m1,m2,h _ a,b,c,d,e⟩
end Go.Proofs.YtgeoiflbjcehcaaGreatDoor
namespace Go.Proofs.YtgeoiflbjcehcaaGreatDoor
namespace X
open Go
def jP (R:List PanicEntry→PH→List HP→Prop):Ending→PH→List HP→Prop
 |.panicked c,σ,Γ=>R c σ Γ
 |_,_,_=>False
section
variable {P:Program} {N:Nat} {ρ:Env} {σ:PH} {Γ:List HP} {K:KA}
theorem az.die {all:Array Oper} {rest:List Oper} {d:Option Nat} {f:FuncId} {args:List Operand} {jx:Array TypeId} {vs:List Value} {ty:TypeId} {pos:String} {af:Array Edge} {R:List PanicEntry→PH→List HP→Prop} {bp Δ:List HP} (hd:ei N d=true)
 (hc:ae P f vs.toArray σ bp (jP R)) (hv:args.map (ev ρ)=vs) (kp:∀c ag b7,R c ag b7→DA K (.panic c) ρ ag (b7++Δ)) (he:aw Γ (bp++Δ):=by(repeat (first|exact aw.all _|(apply aw.take;focus (first|((repeat (first|with_reducible exact b6.head|apply b6.tail));done)|((repeat (first|exact b6.head|apply b6.tail));done)))|apply aw.kC|apply aw.mc));(first|done|fail)):
 az P N all (⟨d,.call {callee:=.value (.func f),args:=args.toArray,argTypes:=jx},ty,pos,af,none⟩::rest) ρ σ Γ K:=
 az.wr hd (aC.ur (first:=[]) (cap:=[]) rfl hc (by simpa using hv) he (fun _ _ h=>h)) (fun _ _ _ h=>by obtain⟨_,h,_⟩:=h;exact h.elim) (fun c ag ah h=>by obtain⟨b7,h,rfl⟩:=h;exact kp c ag b7 h)
theorem aK.die {ops:Array Oper} {bV:PH} {Γs:List HP} {z:List Nat} {i:Nat} {pl:List (Nat×Kd)} {d:Option Nat} {f:FuncId} {args:List Operand} {jx:Array TypeId} {vs:List Value} {ty:TypeId} {pos:String} {af:Array Edge} {g:Option (Nat×Bool)} {R:List PanicEntry→PH→List HP→Prop} {bp Δ:List HP}
 (hi:ops[i]? =some ⟨d,.call {callee:=.value (.func f),args:=args.toArray,argTypes:=jx},ty,pos,af,g⟩) (hd:ei N d=true) (hg:Gd ops ρ g true)
 (hc:ae P f vs.toArray σ bp (jP R)) (hv:args.map (ev ρ)=vs) (kp:∀c ag b7,R c ag b7→DA K (.panic c) ρ ag (b7++Δ)) (he:aw Γ (bp++Δ):=by(repeat (first|exact aw.all _|(apply aw.take;focus (first|((repeat (first|with_reducible exact b6.head|apply b6.tail));done)|((repeat (first|exact b6.head|apply b6.tail));done)))|apply aw.kC|apply aw.mc));(first|done|fail)):
 aK P N ops bV Γs z ((i,.wr)::pl) ρ σ Γ K:=
 aK.wr hi hd hg (aC.ur (first:=[]) (cap:=[]) rfl hc (by simpa using hv) he (fun _ _ h=>h)) (fun _ _ _ h=>by obtain⟨_,h,_⟩:=h;exact h.elim) (fun c ag ah h=>by obtain⟨b7,h,rfl⟩:=h;exact kp c ag b7 h)
theorem az.throw {all:Array Oper} {rest:List Oper} {d:Option Nat} {x:Operand} {t:TypeId} {v:Value} {ty:TypeId} {pos:String} {af:Array Edge} (hd:ei N d=true) (hx:ev ρ x=.iface t v)
 (kp:DA K (.panic [{v:=.iface t v,recovered:=false}]) ρ σ Γ):az P N all (⟨d,.panic x,ty,pos,af,none⟩::rest) ρ σ Γ K:=
 az.wr (R:=fun _ _ _=>False) (pk:=fun c ag ah=>c=[{v:=.iface t v,recovered:=false}]∧σ=ag∧ah=Γ) hd
  ⟨fun f h hh=>⟨fun d pos af g a w next Q he hw _ hp=>by
   unfold Oper.wp
   have eH:(execOp a.eval ⟨d,.panic x,ty,pos,af,g⟩).run P w=.halt (.panic (.iface t v)) w:=by
    rw[he];simp[execOp,Instr.panic,hx,goPanic]
   rw[eH,Oper.upon_panic]
   exact hp _ w (ec.refl w) ⟨σ,Γ,⟨rfl,rfl,rfl⟩,hw▸hh⟩⟩⟩
  (fun _ _ _ h=>h.elim) (fun c ag ah h=>by obtain⟨rfl,rfl,rfl⟩:=h;exact kp)
theorem Rd.mkI {S:Heap→Prop} {ty T:TypeId} {x:Operand} {v:Value} {r:Ty} {kk:IntKind} (hT:av P T=some r) (hk:r.k=.int kk) (hx:ev ρ x=v):Rd P ρ S (.makeInterface T x) ty (.iface T v):=by
 (refine .pure fun d pos af g w=>?_);obtain⟨dd,i,z,e1,e2,-⟩:=aD hT;rw[hk] at e2;(cases dd<;>simp[kindOf] at e2);simp[execOp,Instr.makeInterface,run_underlying e1,hx]
theorem Rd.KD {S:Heap→Prop} {ty T I:TypeId} {x:Operand} {v:Value} {r:Ty} {kk:IntKind} (hT:av P T=some r) (hk:r.k=.int kk) (hx:ev ρ x=.iface T v):Rd P ρ S (.typeAssert x I T true) ty (.tuple #[v,.bool true]):=by
 (refine .pure fun d pos af g w=>?_);obtain⟨dd,i,z,e1,e2,-⟩:=aD hT;rw[hk] at e2;(cases dd<;>simp[kindOf] at e2);simp[execOp,Instr.typeAssert,run_underlying e1,hx]
theorem Rd.Av {S:Heap→Prop} {ty T I:TypeId} {x:Operand} {r:Ty} {kk:IntKind} (hT:av P T=some r) (hk:r.k=.int kk) (hz:(P.info? T).bind (·.zero)=some (.int kk 0)) (hx:ev ρ x=.nilIface):Rd P ρ S (.typeAssert x I T true) ty (.tuple #[.int kk 0,.bool false]):=by
 (refine .pure fun d pos af g w=>?_);obtain⟨dd,i,z,e1,e2,e3,e4,e5,e6,e7⟩:=aD hT;rw[hk] at e2;rw[e3] at hz;simp only[Option.bind_some,e6,Option.some.injEq] at hz;subst hz;(cases dd<;>simp[kindOf] at e2);simp[execOp,Instr.typeAssert,run_underlying e1,hx,zeroValue,typeInfo,e3,e6]
theorem Rd.sv {S:Heap→Prop} {ty I T':TypeId} {x:Operand} {t:TypeId} {v:Value} {ms:Array (String×TypeId)} (hI:P.underlying I=some (.interface ms)) (hx:ev ρ x=.iface t v):Rd P ρ S (.binOp .neq I x (.const .nilIface) T') ty (.bool true):=by
 refine .pure fun d pos af gd w=>?_
 have h1:(Op.equalIn Op.maxDepth I (.iface t v) .nilIface).run P w=.ok false w:=by
  rw[show Op.maxDepth=9999+1 from rfl,Op.equalIn,Sem.run_bind,run_underlying hI];rfl
 simp only[execOp,eqGuard,hx,ev,binOp,Sem.run_bind];simp[Op.equal,h1]
theorem Rd.sw {S:Heap→Prop} {ty I T':TypeId} {x:Operand} {ms:Array (String×TypeId)} (hI:P.underlying I=some (.interface ms)) (hx:ev ρ x=.nilIface):Rd P ρ S (.binOp .neq I x (.const .nilIface) T') ty (.bool false):=by
 refine .pure fun d pos af gd w=>?_
 have h1:(Op.equalIn Op.maxDepth I .nilIface .nilIface).run P w=.ok true w:=by
  rw[show Op.maxDepth=9999+1 from rfl,Op.equalIn,Sem.run_bind,run_underlying hI];rfl
 simp only[execOp,eqGuard,hx,ev,binOp,Sem.run_bind];simp[Op.equal,h1]
end
section
variable {P:Program}
def recv:FrameMode→Value×FrameMode
 |.panicking ({v,recovered:=false,goexit:=false}::N6)=>(v,.panicking ({v,recovered:=true}::N6))
 |u=>(.nilIface,u)
theorem ub (nk:Frame) (cs:List Frame):recoverD (nk::cs)=none∧recv nk.mode=(.nilIface,nk.mode)∨recoverD (nk::cs)=some ((recv nk.mode).1,{nk with mode:=(recv nk.mode).2}::cs):=by
 obtain⟨fn,tmps,todo,defers,mode,kind,ro⟩:=nk
 cases mode with
 |panicking l=>
  cases l with
  |nil=>exact .inl ⟨rfl,rfl⟩
  |cons e N6=>
   obtain⟨v,r,g⟩:=e;cases r<;>cases g<;>first|exact .inr rfl|exact .inl ⟨rfl,rfl⟩
 |_=>exact .inl ⟨rfl,rfl⟩
theorem lK {f:FuncId} {fn:Func} {rest:Code} {id:Nat} {d1 d2:Nat} {t1 t2:TypeId} {s1 s2:String} {a1 a2:Array Edge} {jx:Array TypeId} {vs:Array Value} {ρ0:Env} {u:FrameMode} {h:Heap} {R:Ending→Heap→Prop}
 (hf:P.funcs[f]? =some fn) (hb:fn.body=some (.seq (.region id #[⟨some d1,.call {callee:=.builtin .recover,args:=#[],argTypes:=jx},t1,s1,a1,none⟩,⟨some d2,.assign (.tmp d1),t2,s2,a2,none⟩] false) rest)) (hN:Nat.ble vs.size fn.ntmps=true)
 (h0:∀s,vs.getD s undef=ρ0 s) (Dt:Nat.blt d1 fn.ntmps=true) (SG:Nat.blt d2 fn.ntmps=true) (hx:X P fn.ntmps rest (cp (cp ρ0 d1 (recv u).1) d2 (recv u).1) h (nY P fn R)):
 ∀w,w.heap=h→CallsD P f vs u w (fun e u' w'=>u'=(recv u).2∧ec w w'∧R e w'.heap):=by
 intro w hw;(refine callsD_of_wpS hf hb fun nk cs hu=>?_);have hN':vs.size≤fn.ntmps:=Nat.le_of_ble_eq_true hN
 have he:da fn.ntmps {tmps:=vs++Array.replicate (fn.ntmps-vs.size) undef,defers:=[]} ρ0:=by
  refine⟨by simp;omega,fun s=>?_⟩;rw[←h0 s];simp only[Array.getD_eq_getD_getElem?,Array.getElem?_append,Array.getElem?_replicate];by_cases e:s<vs.size
  ·simp[e]
  ·simp[e];split<;>simp
 obtain⟨a0,BV⟩:∃a:Act,a={tmps:=vs++Array.replicate (fn.ntmps-vs.size) undef,defers:=[]}:=⟨_,rfl⟩;rw[←BV] at he⊢;have hdf:a0.defers=[]:=by rw[BV]
 have hK:∀(w':World) (Wm:List Frame),ec w w'→w'.heap=h→Wm={nk with mode:=(recv u).2}::cs→rest.wpS P (bodyPostS P fn nk cs (fun e u' w'=>u'=(recv u).2∧ec w w'∧R e w'.heap)) ((a0.put (some d1) (recv u).1).put (some d2) (recv u).1) Wm w':=by
  intro w' Wm hs hh BH;refine wpS_of_wp (wp_mono (hx.out w ((a0.put (some d1) (recv u).1).put (some d2) (recv u).1) w' hs hh ((he.put Dt _).put SG _)) ?_);rintro e a' Xn ⟨g1,g2,cI,g3,g4⟩;rw[put_defers,put_defers,hdf] at g1
  cases e with
  |normal=>obtain⟨v,hr,hR⟩:=g4;exact⟨g1,_,BH,v,hr Xn a' rfl g3,rfl,g2,hR⟩
  |ret=>obtain⟨v,hr,hR⟩:=g4;exact⟨g1,_,BH,v,hr Xn a' rfl g3,rfl,g2,hR⟩
  |panic c=>exact⟨g1,_,BH,rfl,g2,g4⟩
  |_=>exact g4.elim
 refine wpS_seq (wpS_region ?_)
 have KE:∀a:Act,(execOp a.eval ⟨some d1,.call {callee:=.builtin .recover,args:=#[],argTypes:=jx},t1,s1,a1,none⟩).run P w=.ok .recover w:=fun a=>by
  simp[execOp,resolve,invoke,builtin]
 have UI:∀a:Act,(execOp a.eval ⟨some d2,.assign (.tmp d1),t2,s2,a2,none⟩).run P w=.ok (.value (a.eval (.tmp d1))) w:=fun a=>by
  simp[execOp]
 (have hc:({nk with mode:=u}:Frame)=nk:=by subst hu;rfl);(have Qw:(a0.put (some d1) (recv u).1).eval (.tmp d1)=(recv u).1:=by rw[(he.put Dt _).eval];exact nW _ _ _);show wpOpsS P _ _ [0,1] a0 (nk::cs) w;rcases ub nk cs with ⟨e1,e2⟩|e1
 ·rw[hu] at e2;have e3:recv u=(.nilIface,u):=e2;simp only[e3] at Qw hK⊢;simp[wpOpsS,KE,UI,Region.wanted,e1,Oper.upon_value,Qw,Exit.thenS];exact hK w _ (ec.refl w) hw (by rw[hc])
 ·rw[hu] at e1;simp[wpOpsS,KE,UI,Region.wanted,e1,Oper.upon_value,Qw,Exit.thenS];exact hK w _ (ec.refl w) hw rfl
def N7 (w0:World) (ds:List Deferred) (N:Nat) (K:jb):Exit→Act→World→Prop:=fun e a' w'=>a'.defers=ds∧ec w0 w'∧∃cI,da N a' cI∧K e cI w'.heap
structure XF (P:Program) (N:Nat) (c:Code) (ρ:Env) (h:Heap) (K:jb):Prop where
 out:∀(w0:World) (a:Act) (w:World),ec w0 w→w.heap=h→da N a ρ→c.wp P (N7 w0 a.defers N K) a w
structure ET (P:Program) (N:Nat) (all:Array Oper) (l:List Oper) (ρ:Env) (h:Heap) (K:jb):Prop where
 out:∀(w0:World) (a:Act) (w:World),ec w0 w→w.heap=h→da N a ρ→wpList P all (N7 w0 a.defers N K) l a w
section
variable {N:Nat} {ρ:Env} {h:Heap} {K:jb}
theorem XF.seq {x y:Code} (hx:XF P N x ρ h (Dc (fun ρ h=>XF P N y ρ h K) K)):XF P N (.seq x y) ρ h K:=by
 refine⟨fun w0 a w hs hh he=>wp_seq (wp_mono (hx.out w0 a w hs hh he) ?_)⟩;rintro e a' w' ⟨h1,h2,cI,h3,h4⟩
 cases e with
 |normal=>rw[←h1];exact h4.out w0 a' w' h2 rfl h3
 |_=>exact⟨h1,h2,cI,h3,h4⟩
theorem XF.ret (hk:K .ret ρ h):XF P N .ret ρ h K:=⟨fun _ _ _ hs hh he=>wp_ret ⟨rfl,hs,ρ,he,hh▸hk⟩⟩
theorem XF.region {id:Nat} {l:List Oper} (hx:ET P N l.toArray l ρ h K):XF P N (.region id l.toArray false) ρ h K:=⟨fun w0 a w hs hh he=>wp_region_lit (hx.out w0 a w hs hh he)⟩
theorem ET.nil {all:Array Oper} (hk:K .normal ρ h):ET P N all [] ρ h K:=⟨fun _ _ _ hs hh he=>wpList_nil ⟨rfl,hs,ρ,he,hh▸hk⟩⟩
theorem ET.wr {all:Array Oper} {rest:List Oper} {op:Op} {d:Option Nat} {ty:TypeId} {pos:String} {af:Array Edge} {R:Value→Heap→Prop} {pk:List PanicEntry→Heap→Prop} (hd:ei N d=true)
 (hr:Wr P ρ h op ty R pk) (k:∀v h',R v h'→ET P N all rest (fX ρ d v) h' K) (kp:∀c h',pk c h'→K (.panic c) ρ h'):
 ET P N all (⟨d,op,ty,pos,af,none⟩::rest) ρ h K:=by
 refine⟨fun w0 a w hs hh he=>?_⟩;(refine wpList_plain rfl fun K' Xb=>?_);refine hr.out d pos af none a w _ _ he.eval hh (fun v w' h2 h3=>Xb _ _ ?_) (fun c w' h2 h3=>⟨rfl,hs.trans h2,ρ,he,kp c _ h3⟩);have:=(k v _ h3).out w0 (a.put d v) w' (hs.trans h2) rfl (he.E5 hd v)
 rwa [put_defers] at this
end
structure nS (P:Program) (N:Nat) (c:Code) (ρ:Env) (σ:PH) (Γ:List HP) (K:KA):Prop where
 out:∀f h,Holds σ Γ f h→XF P N c ρ h (KF f K)
structure gj (P:Program) (N:Nat) (all:Array Oper) (l:List Oper) (ρ:Env) (σ:PH) (Γ:List HP) (K:KA):Prop where
 out:∀f h,Holds σ Γ f h→ET P N all l ρ h (KF f K)
section
variable {N:Nat} {ρ:Env} {σ:PH} {Γ:List HP} {K:KA} {all:Array Oper} {rest:List Oper} {d:Nat} {ty:TypeId} {pos:String} {af:Array Edge}
theorem nS.seq {x y:Code} (hx:nS P N x ρ σ Γ (mJ (fun ρ σ Γ=>nS P N y ρ σ Γ K) K)):nS P N (.seq x y) ρ σ Γ K:=by
 refine⟨fun f h hh=>XF.seq ⟨fun w0 a w hs hw he=>wp_mono ((hx.out f h hh).out w0 a w hs hw he) ?_⟩⟩;rintro e a' w' ⟨h1,h2,cI,h3,ag,ah,hk,je⟩;refine⟨h1,h2,cI,h3,?_⟩
 cases e with
 |normal=>exact hk.out f _ je
 |_=>exact⟨ag,ah,hk,je⟩
theorem nS.ret (hk:K .ret ρ σ Γ):nS P N .ret ρ σ Γ K:=⟨fun f h hh=>XF.ret ⟨σ,Γ,hk,hh⟩⟩
theorem nS.region {id:Nat} {l:List Oper} (hx:gj P N l.toArray l ρ σ Γ K):nS P N (.region id l.toArray false) ρ σ Γ K:=⟨fun f h hh=>XF.region (hx.out f h hh)⟩
theorem gj.nil {all:Array Oper} (hk:K .normal ρ σ Γ):gj P N all [] ρ σ Γ K:=⟨fun f h hh=>ET.nil ⟨σ,Γ,hk,hh⟩⟩
theorem gj.rd {op:Op} {v:Value} (hd:Nat.blt d N=true) (hr:Rd P ρ (Ho σ Γ) op ty v) (k:gj P N all rest (cp ρ d v) σ Γ K):gj P N all (⟨some d,op,ty,pos,af,none⟩::rest) ρ σ Γ K:=
 ⟨fun f h hh=>ET.wr (d:=some d) hd (Rd.wr ⟨fun d pos af g w hw=>hr.out d pos af g w (hw▸hh.ho)⟩) (by rintro _ _ ⟨rfl,rfl⟩;exact k.out f _ hh) (fun _ _ h=>h.elim)⟩
theorem gj.call {f:FuncId} {args:List Operand} {jx:Array TypeId} {vs:List Value} {R:Value→PH→List HP→Prop} {bp Δ:List HP} (hd:Nat.blt d N=true) (hc:ae P f vs.toArray σ bp (aE R)) (hv:args.map (ev ρ)=vs) (he:aw Γ (bp++Δ))
 (k:∀v ag b7,R v ag b7→gj P N all rest (cp ρ d v) ag (b7++Δ) K):gj P N all (⟨some d,.call {callee:=.value (.func f),args:=args.toArray,argTypes:=jx},ty,pos,af,none⟩::rest) ρ σ Γ K:=
 ⟨fun fr h hh=>ET.wr (d:=some d) hd ((aC.call hc hv he).out fr h hh) (fun v h' ⟨ag,ah,⟨b7,a,e⟩,b⟩=>by subst e;exact(k v ag b7 a).out fr h' b) (fun _ _ ⟨_,_,h,_⟩=>h.elim)⟩
theorem gj.die {f:FuncId} {args:List Operand} {jx:Array TypeId} {vs:List Value} {R:List PanicEntry→PH→List HP→Prop} {bp Δ:List HP} (hd:Nat.blt d N=true) (hc:ae P f vs.toArray σ bp (jP R)) (hv:args.map (ev ρ)=vs) (he:aw Γ (bp++Δ))
 (k:∀c ag b7,R c ag b7→K (.panic c) ρ ag (b7++Δ)):gj P N all (⟨some d,.call {callee:=.value (.func f),args:=args.toArray,argTypes:=jx},ty,pos,af,none⟩::rest) ρ σ Γ K:=
 ⟨fun fr h hh=>ET.wr (d:=some d) hd ((aC.ur (first:=[]) (cap:=[]) rfl hc (by simpa using hv) he (fun _ _ h=>h)).out fr h hh) (fun v h' ⟨_,_,⟨_,a,_⟩,_⟩=>a.elim) (fun c h' ⟨ag,ah,⟨b7,a,e⟩,b⟩=>by subst e;exact⟨ag,_,k c ag b7 a,b⟩)⟩
end
structure XT (P:Program) (fn:Func) (c:Code) (ρ:Env) (h:Heap) (R:Ending→Heap→Prop):Prop where
 out:∀(w0:World) (a:Act) (w:World),ec w0 w→w.heap=h→da fn.ntmps a ρ→a.defers=[]→c.wp P (bodyPostD P fn (fun e w'=>ec w0 w'∧R e w'.heap)) a w
theorem XT.seq {fn:Func} {x y:Code} {ρ:Env} {h:Heap} {R:Ending→Heap→Prop} (hx:X P fn.ntmps x ρ h (Dc (fun ρ h=>XT P fn y ρ h R) (nY P fn R))):XT P fn (.seq x y) ρ h R:=by
 refine⟨fun w0 a w hs hh he hd=>wp_seq (wp_mono (hx.out w0 a w hs hh he) ?_)⟩;rintro e a' w' ⟨h1,h2,cI,h3,h4⟩;rw[hd] at h1
 cases e with
 |normal=>exact h4.out w0 a' w' h2 rfl h3 h1
 |ret=>
  obtain⟨v,hr,hR⟩:=h4;show Leaves P fn a'.tmps _ a'.defers .returning w';rw[h1];exact⟨v,hr w' a' rfl h3,h2,hR⟩
 |panic c=>
  show Leaves P fn a'.tmps _ a'.defers (.panicking c) w';rw[h1];exact⟨h2,h4⟩
 |_=>exact h4.elim
def dK (P:Program) (fn:Func) (f:FuncId) (caps:Array Value) (R:Ending→Heap→Prop):jb:=fun e ρ h=>
 let go:=fun(u:FrameMode)=>∀w,w.heap=h→CallsD P f caps u w (fun e' u' w'=>ec w w'∧(∃v0,e'=.returned v0)∧settle u'=.returning∧∃v,wZ P fn ρ w'.heap v∧R (.returned v) w'.heap)
 match e with
 |.normal|.ret=>go .returning
 |.panic c=>go (.panicking c)
 |_=>False
theorem np {fn:Func} {f:FuncId} {caps:Array Value} {R:Ending→Heap→Prop} {ρ:Env} {u:FrameMode} {a:Act} {w0 w:World} (hu:u≠.run) (hE:Enters P f) (hs:ec w0 w) (he:da fn.ntmps a ρ)
 (hc:CallsD P f caps u w (fun e' u' w'=>ec w w'∧(∃v0,e'=.returned v0)∧settle u'=.returning∧∃v,wZ P fn ρ w'.heap v∧R (.returned v) w'.heap)):
 Leaves P fn a.tmps (fun e w'=>ec w0 w'∧R e w'.heap) [{target:=.fn (.func f) caps,args:=#[]}] u w:=by
 refine leaves_cons (f:=f) (args:=caps) hu ?_ (hc.mono ?_)
 ·simp only[invoke];have:=hE caps w;simpa using this
 ·rintro e u' w' ⟨h1,⟨v0,rfl⟩,h2,v,h3,h4⟩;show Leaves P fn a.tmps _ [] (settle u') w';rw[h2];exact⟨v,h3 w' a rfl he,hs.trans h1,h4⟩
theorem XT.defer {fn:Func} {y:Code} {ρ:Env} {h:Heap} {R:Ending→Heap→Prop} {id t:Nat} {f:FuncId} {co:Array Operand} {caps:Array Value} {t1 t2:TypeId} {s1 s2:String} {a1 a2:Array Edge} {jx:Array TypeId} (hE:Enters P f) (ht:Nat.blt t fn.ntmps=true) (vv:co.map (ev ρ)=caps)
 (hx:XF P fn.ntmps y (cp ρ t (.func (.func f) #[] caps)) h (dK P fn f caps R)):
 XT P fn (.seq (.region id #[⟨some t,.makeFunc (.func f) #[] co,t1,s1,a1,none⟩,⟨none,.defer {callee:=.value (.tmp t),args:=#[],argTypes:=jx},t2,s2,a2,none⟩] false) y) ρ h R:=by
 refine⟨fun w0 a w hs hh he hd=>wp_seq (wp_region_lit (l:=[_,_]) ?_)⟩;refine wpList_plain rfl fun K1 H6=>?_
 have eH:(execOp a.eval ⟨some t,.makeFunc (.func f) #[] co,t1,s1,a1,none⟩).run P w=.ok (.value (.func (.func f) #[] caps)) w:=by
  rw[he.eval];simp[execOp,Instr.makeFunc,vv]
 unfold Oper.wp;rw[eH,Oper.upon_value];refine H6 _ _ ?_;have Wn:=he.put ht (.func (.func f) #[] caps);refine wpList_plain rfl fun K2 hK2=>?_
 have sx:(execOp (a.put (some t) (.func (.func f) #[] caps)).eval ⟨none,.defer {callee:=.value (.tmp t),args:=#[],argTypes:=jx},t2,s2,a2,none⟩).run P w=.ok (.defer {target:=.fn (.func f) caps,args:=#[]}) w:=by
  rw[Wn.eval];simp[execOp,resolve,Deferred.ofValue,nW]
 unfold Oper.wp;rw[sx,Oper.upon_defer];refine hK2 _ _ (wpList_nil ?_);obtain⟨b,hb⟩:∃b:Act,b=({(a.put (some t) (.func (.func f) #[] caps)) with defers:={target:=.fn (.func f) caps,args:=#[]}::(a.put (some t) (.func (.func f) #[] caps)).defers}:Act).put none undef:=⟨_,rfl⟩;rw[←hb];(have XX:da fn.ntmps b (cp ρ t (.func (.func f) #[] caps)):=by rw[hb];exact⟨Wn.size,Wn.get⟩);(have XY:b.defers=[{target:=.fn (.func f) caps,args:=#[]}]:=by rw[hb];show _::(a.put (some t) _).defers=_;rw[put_defers,hd]);show y.wp P (bodyPostD P fn (fun e w'=>ec w0 w'∧R e w'.heap)) b w;refine wp_mono (hx.out w0 b w hs hh XX) ?_;rintro e a' w' ⟨h1,h2,cI,h3,h4⟩;rw[XY] at h1
 cases e with
 |normal=>
  show Leaves P fn a'.tmps _ a'.defers .returning w';rw[h1];exact np (by simp) hE h2 h3 (h4 w' rfl)
 |ret=>
  show Leaves P fn a'.tmps _ a'.defers .returning w';rw[h1];exact np (by simp) hE h2 h3 (h4 w' rfl)
 |panic c=>
  show Leaves P fn a'.tmps _ a'.defers (.panicking c) w';rw[h1];exact np (by simp) hE h2 h3 (h4 w' rfl)
 |_=>exact h4.elim
theorem FE {f:FuncId} {fn:Func} {c:Code} {vs:Array Value} {ρ0:Env} {h:Heap} {R:Ending→Heap→Prop} (hf:P.funcs[f]? =some fn) (hb:fn.body=some c) (hn:cS fn=true) (hN:Nat.ble vs.size fn.ntmps=true)
 (h0:∀s,vs.getD s undef=ρ0 s) (hx:XT P fn c ρ0 h R):fH P f vs h R:=by
 refine⟨enters hf hb hn,fun w hw=>calls_of_wp_defers hf hb ?_⟩;have hN':vs.size≤fn.ntmps:=Nat.le_of_ble_eq_true hN
 have he:da fn.ntmps {tmps:=vs++Array.replicate (fn.ntmps-vs.size) undef,defers:=[]} ρ0:=by
  refine⟨by simp;omega,fun s=>?_⟩;rw[←h0 s];simp only[Array.getD_eq_getD_getElem?,Array.getElem?_append,Array.getElem?_replicate];by_cases e:s<vs.size
  ·simp[e]
  ·simp[e];split<;>simp
 exact hx.out w _ w (ec.refl w) hw he rfl
structure nT (P:Program) (fn:Func) (c:Code) (ρ:Env) (σ:PH) (Γ:List HP) (R:Ending→PH→List HP→Prop):Prop where
 out:∀f h,Holds σ Γ f h→XT P fn c ρ h (fun e h'=>∃ag ah,R e ag ah∧Holds ag ah f h')
def bU (P:Program) (f:FuncId) (vs:Array Value) (u:FrameMode) (σ:PH) (Γ:List HP) (R:FrameMode→PH→List HP→Prop):Prop:=
 ∀fr h,Holds σ Γ fr h→∀w,w.heap=h→CallsD P f vs u w (fun e' u' w'=>ec w w'∧(∃v0,e'=.returned v0)∧∃ag ah,R u' ag ah∧Holds ag ah fr w'.heap)
def dKA (P:Program) (fn:Func) (f:FuncId) (caps:Array Value) (R:Ending→PH→List HP→Prop):KA:=fun e ρ σ Γ=>
 let go:=fun(u:FrameMode)=>bU P f caps u σ Γ (fun u' ag ah=>settle u'=.returning∧∃v,aG P fn ρ ag ah v∧∃Δ,aw ah Δ∧R (.returned v) ag Δ)
 match e with
 |.normal|.ret=>go .returning
 |.panic c=>go (.panicking c)
 |_=>False
section
variable {fn:Func} {ρ:Env} {σ:PH} {Γ:List HP} {RR:Ending→PH→List HP→Prop}
theorem nT.seq {x y:Code} (hx:XA P fn.ntmps x ρ σ Γ (mJ (fun ρ σ Γ=>nT P fn y ρ σ Γ RR) (ao P fn RR))):nT P fn (.seq x y) ρ σ Γ RR:=by
 refine⟨fun f h hh=>XT.seq (X.mono (hx.out f h hh) ?_)⟩;rintro e cI h' ⟨ag,ah,hk,je⟩
 cases e with
 |normal=>exact hk.out f h' je
 |ret=>obtain⟨v,a,Δ,b,c⟩:=hk;exact⟨v,a h' je.ho,ag,Δ,c,je.eS b⟩
 |panic c=>exact⟨ag,ah,hk,je⟩
 |_=>exact hk.elim
theorem nT.defer {y:Code} {id t:Nat} {f:FuncId} {co:Array Operand} {caps:Array Value} {t1 t2:TypeId} {s1 s2:String} {a1 a2:Array Edge} {jx:Array TypeId} (hE:Enters P f) (ht:Nat.blt t fn.ntmps=true) (vv:co.map (ev ρ)=caps)
 (hx:nS P fn.ntmps y (cp ρ t (.func (.func f) #[] caps)) σ Γ (dKA P fn f caps RR)):
 nT P fn (.seq (.region id #[⟨some t,.makeFunc (.func f) #[] co,t1,s1,a1,none⟩,⟨none,.defer {callee:=.value (.tmp t),args:=#[],argTypes:=jx},t2,s2,a2,none⟩] false) y) ρ σ Γ RR:=by
 have key:∀(fr:PH) (cI:Env) (ag:PH) (ah:List HP) (h':Heap) (u:FrameMode),Holds ag ah fr h'→bU P f caps u ag ah (fun u' ag ah=>settle u'=.returning∧∃v,aG P fn cI ag ah v∧∃Δ,aw ah Δ∧RR (.returned v) ag Δ)→
  ∀w,w.heap=h'→CallsD P f caps u w (fun e' u' w'=>ec w w'∧(∃v0,e'=.returned v0)∧settle u'=.returning∧∃v,wZ P fn cI w'.heap v∧∃ag ah,RR (.returned v) ag ah∧Holds ag ah fr w'.heap):=fun fr cI ag ah h' u hh hc w hw=>
  (hc fr h' hh w hw).mono fun e' u' w' ⟨a,b,dq,ot,⟨c,v,d,Δ,i,j⟩,k⟩=>⟨a,b,c,v,d _ k.ho,dq,Δ,j,k.eS i⟩
 refine⟨fun fr h hh=>XT.defer hE ht vv ⟨fun w0 a w hs hw he=>wp_mono ((hx.out fr h hh).out w0 a w hs hw he) ?_⟩⟩;rintro e a' w' ⟨g1,g2,cI,g3,ag,ah,hk,je⟩;refine⟨g1,g2,cI,g3,?_⟩;generalize w'.heap=h' at je⊢
 cases e with
 |normal=>exact key fr cI ag ah h' _ je hk
 |ret=>exact key fr cI ag ah h' _ je hk
 |panic c=>exact key fr cI ag ah h' _ je hk
 |_=>exact hk.elim
theorem ox {f:FuncId} {co:Code} {a b c:Value} (hf:P.funcs[f]? =some fn) (hb:fn.body=some co) (hn:cS fn=true) (hN:Nat.ble 3 fn.ntmps=true) (hx:nT P fn co (cp (cp (cp U 0 a) 1 b) 2 c) σ Γ RR):ae P f #[a,b,c] σ Γ RR:=
 ⟨enters hf hb hn,fun fr h hh=>FE hf hb hn hN (fun s=>match s with
  |0=>rfl
  |1=>rfl
  |2=>rfl
  |s+3=>by rw[show (#[a,b,c]:Array Value).getD (s+3) undef=undef from by simp,dx _ _ _ _ (by omega),dx _ _ _ _ (by omega),dx _ _ _ _ (by omega)]) (hx.out fr h hh)⟩
theorem bU.uA {f:FuncId} {rest:Code} {id:Nat} {d1 d2:Nat} {t1 t2:TypeId} {s1 s2:String} {a1 a2:Array Edge} {jx:Array TypeId} {x0 x1 x2 x3:Value} {u:FrameMode} {R:FrameMode→PH→List HP→Prop}
 (hf:P.funcs[f]? =some fn) (hb:fn.body=some (.seq (.region id #[⟨some d1,.call {callee:=.builtin .recover,args:=#[],argTypes:=jx},t1,s1,a1,none⟩,⟨some d2,.assign (.tmp d1),t2,s2,a2,none⟩] false) rest)) (hN:Nat.ble 4 fn.ntmps=true)
 (Dt:Nat.blt d1 fn.ntmps=true) (SG:Nat.blt d2 fn.ntmps=true) (hx:XA P fn.ntmps rest (cp (cp (cp (cp (cp (cp U 0 x0) 1 x1) 2 x2) 3 x3) d1 (recv u).1) d2 (recv u).1) σ Γ (ao P fn (aE fun _ ag ah=>R (recv u).2 ag ah))):
 bU P f #[x0,x1,x2,x3] u σ Γ R:=fun fr h hh w hw=>by
 refine(lK (vs:=#[x0,x1,x2,x3]) (ρ0:=cp (cp (cp (cp U 0 x0) 1 x1) 2 x2) 3 x3) hf hb hN (fun s=>match s with
  |0=>rfl
  |1=>rfl
  |2=>rfl
  |3=>rfl
  |s+4=>by rw[show (#[x0,x1,x2,x3]:Array Value).getD (s+4) undef=undef from by simp,dx _ _ _ _ (by omega),dx _ _ _ _ (by omega),dx _ _ _ _ (by omega),dx _ _ _ _ (by omega)]) Dt SG (XA.Ql hx hh) w hw).mono ?_
 rintro e u' w' ⟨rfl,a,ag,ah,b,c⟩
 cases e with
 |returned v=>exact⟨a,⟨v,rfl⟩,ag,ah,b,c⟩
 |_=>exact b.elim
end
end
end X
end Go.Proofs.YtgeoiflbjcehcaaGreatDoor
namespace Go.Proofs
open Go.Shelf
def Tryz.laysM173_ren:Go.Shelf.Ren:=⟨fun|173=>39|246=>64|283=>99|284=>100|285=>101|286=>102|129=>139|317=>138|318=>140|319=>141|320=>142|337=>172|338=>173|n=>n,fun|2=>2|3=>3|9=>9|4=>4|171=>159|0=>0|53=>80|37=>44|5=>5|173=>162|212=>203|51=>147|20=>20|213=>204|46=>40|232=>279|233=>280|n=>n,fun|17=>3|18=>6|19=>7|n=>n⟩
theorem Tryz.laysM173:Go.Proofs.LaysM.n173 Tryz.prog Tryz.laysM173_ren:={
 mixed:=by kernel_rfl
 f129:=Tryz.func139.trans (congrArg some (by kernel_rfl))
 f173:=Tryz.func39.trans (congrArg some (by kernel_rfl))
 f246:=Tryz.func64.trans (congrArg some (by kernel_rfl))
 f283:=Tryz.func99.trans (congrArg some (by kernel_rfl))
 f284:=Tryz.func100.trans (congrArg some (by kernel_rfl))
 f285:=Tryz.func101.trans (congrArg some (by kernel_rfl))
 f286:=Tryz.func102.trans (congrArg some (by kernel_rfl))
 f317:=Tryz.func138.trans (congrArg some (by kernel_rfl))
 f318:=Tryz.func140.trans (congrArg some (by kernel_rfl))
 f319:=Tryz.func141.trans (congrArg some (by kernel_rfl))
 f320:=Tryz.func142.trans (congrArg some (by kernel_rfl))
 f337:=Tryz.func172.trans (congrArg some (by kernel_rfl))
 f338:=Tryz.func173.trans (congrArg some (by kernel_rfl))
 t0:=Tryz.underlying0
 a0:=Tryz.isAgg0
 z0:=Tryz.sizeOf0
 v0:=Tryz.zeroValue0
 t2:=Tryz.underlying2
 a2:=Tryz.isAgg2
 z2:=Tryz.sizeOf2
 v2:=Tryz.zeroValue2
 t3:=Tryz.underlying3
 a3:=Tryz.isAgg3
 z3:=Tryz.sizeOf3
 v3:=Tryz.zeroValue3
 t4:=Tryz.underlying4
 a4:=Tryz.isAgg4
 z4:=Tryz.sizeOf4
 v4:=Tryz.zeroValue4
 t5:=Tryz.underlying5
 a5:=Tryz.isAgg5
 z5:=Tryz.sizeOf5
 v5:=Tryz.zeroValue5
 t9:=Tryz.underlying9
 a9:=Tryz.isAgg9
 z9:=Tryz.sizeOf9
 v9:=Tryz.zeroValue9
 t20:=Tryz.underlying20
 a20:=Tryz.isAgg20
 z20:=Tryz.sizeOf20
 v20:=Tryz.zeroValue20
 t37:=Tryz.underlying44
 a37:=Tryz.isAgg44
 z37:=Tryz.sizeOf44
 v37:=Tryz.zeroValue44
 t46:=Tryz.underlying40
 a46:=Tryz.isAgg40
 z46:=Tryz.sizeOf40
 v46:=Tryz.zeroValue40
 t51:=Tryz.underlying147
 a51:=Tryz.isAgg147
 z51:=Tryz.sizeOf147
 v51:=Tryz.zeroValue147
 t53:=Tryz.underlying80
 a53:=Tryz.isAgg80
 z53:=Tryz.sizeOf80
 v53:=Tryz.zeroValue80
 t171:=Tryz.underlying159
 a171:=Tryz.isAgg159
 z171:=Tryz.sizeOf159
 v171:=Tryz.zeroValue159
 t173:=Tryz.underlying162
 a173:=Tryz.isAgg162
 z173:=Tryz.sizeOf162
 v173:=Tryz.zeroValue162
 t212:=Tryz.underlying203
 a212:=Tryz.isAgg203
 z212:=Tryz.sizeOf203
 v212:=Tryz.zeroValue203
 t213:=Tryz.underlying204
 a213:=Tryz.isAgg204
 z213:=Tryz.sizeOf204
 t232:=Tryz.underlying279
 a232:=Tryz.isAgg279
 z232:=Tryz.sizeOf279
 v232:=Tryz.zeroValue279
 t233:=Tryz.underlying280
 a233:=Tryz.isAgg280
 z233:=Tryz.sizeOf280
 v233:=Tryz.zeroValue280
 g17:=by kernel_rfl
 g18:=by kernel_rfl
 g19:=by kernel_rfl
 i0:=by kernel_rfl
 i2:=by kernel_rfl
 i3:=by kernel_rfl
 i4:=by kernel_rfl
 i5:=by kernel_rfl
 i9:=by kernel_rfl
 i20:=by kernel_rfl
 i37:=by kernel_rfl
 i46:=by kernel_rfl
 i51:=by kernel_rfl
 i53:=by kernel_rfl
 i171:=by kernel_rfl
 i173:=by kernel_rfl
 i212:=by kernel_rfl
 i232:=by kernel_rfl
 i233:=by kernel_rfl
 m17:=by kernel_rfl
 m18:=by kernel_rfl
 m19:=by kernel_rfl}
open Go.RowKit Go.Sort Go.Lib in
theorem Tryz.strconv_FormatInt_10 (n:Int) (h0:-9223372036854775808≤n) (h1:n≤9223372036854775807) (w:World) (Qx:Lib.TabIs Tryz.prog w "internal/strconv.uint64pow10" .u64 Lib.pow10Tab):
 Calls Tryz.prog 39 #[.int .i64 n,.int .i64 10] w fun e w'=>e=.returned (.string ⟨(Lib.itoa n).toArray⟩)∧∃k os,w'=grow (w.drewN k) os:=Any.strconv_FormatInt_10 Tryz.laysM173 n h0 h1 w Qx
def Tryz.laysC174_ren:Go.Shelf.Ren:=⟨fun|174=>38|247=>62|245=>63|287=>94|279=>95|280=>96|281=>97|282=>98|321=>134|322=>135|316=>136|171=>48|205=>137|243=>82|246=>64|283=>99|284=>100|285=>101|286=>102|129=>139|317=>138|318=>140|319=>141|320=>142|337=>172|338=>173|n=>n,fun|9=>9|3=>3|2=>2|75=>87|85=>88|4=>4|167=>153|5=>5|53=>80|175=>154|46=>40|168=>156|37=>44|0=>0|210=>200|21=>21|127=>62|145=>254|143=>252|171=>159|173=>162|212=>203|51=>147|20=>20|213=>204|232=>279|233=>280|80=>52|n=>n,fun|15=>1|16=>2|17=>3|18=>6|19=>7|n=>n⟩
theorem Tryz.laysC174:Go.Proofs.LaysC.n174 Tryz.prog Tryz.laysC174_ren:={
 mixed:=by kernel_rfl
 f129:=Tryz.func139.trans (congrArg some (by kernel_rfl))
 f171:=Tryz.func48.trans (congrArg some (by kernel_rfl))
 f174:=Tryz.func38.trans (congrArg some (by kernel_rfl))
 f205:=Tryz.func137.trans (congrArg some (by kernel_rfl))
 f243:=Tryz.func82.trans (congrArg some (by kernel_rfl))
 f245:=Tryz.func63.trans (congrArg some (by kernel_rfl))
 f246:=Tryz.func64.trans (congrArg some (by kernel_rfl))
 f247:=Tryz.func62.trans (congrArg some (by kernel_rfl))
 f279:=Tryz.func95.trans (congrArg some (by kernel_rfl))
 f280:=Tryz.func96.trans (congrArg some (by kernel_rfl))
 f281:=Tryz.func97.trans (congrArg some (by kernel_rfl))
 f282:=Tryz.func98.trans (congrArg some (by kernel_rfl))
 f283:=Tryz.func99.trans (congrArg some (by kernel_rfl))
 f284:=Tryz.func100.trans (congrArg some (by kernel_rfl))
 f285:=Tryz.func101.trans (congrArg some (by kernel_rfl))
 f286:=Tryz.func102.trans (congrArg some (by kernel_rfl))
 f287:=Tryz.func94.trans (congrArg some (by kernel_rfl))
 f316:=Tryz.func136.trans (congrArg some (by kernel_rfl))
 f317:=Tryz.func138.trans (congrArg some (by kernel_rfl))
 f318:=Tryz.func140.trans (congrArg some (by kernel_rfl))
 f319:=Tryz.func141.trans (congrArg some (by kernel_rfl))
 f320:=Tryz.func142.trans (congrArg some (by kernel_rfl))
 f321:=Tryz.func134.trans (congrArg some (by kernel_rfl))
 f322:=Tryz.func135.trans (congrArg some (by kernel_rfl))
 f337:=Tryz.func172.trans (congrArg some (by kernel_rfl))
 f338:=Tryz.func173.trans (congrArg some (by kernel_rfl))
 t0:=Tryz.underlying0
 a0:=Tryz.isAgg0
 z0:=Tryz.sizeOf0
 v0:=Tryz.zeroValue0
 t2:=Tryz.underlying2
 a2:=Tryz.isAgg2
 z2:=Tryz.sizeOf2
 v2:=Tryz.zeroValue2
 t3:=Tryz.underlying3
 a3:=Tryz.isAgg3
 z3:=Tryz.sizeOf3
 v3:=Tryz.zeroValue3
 t4:=Tryz.underlying4
 a4:=Tryz.isAgg4
 z4:=Tryz.sizeOf4
 v4:=Tryz.zeroValue4
 t5:=Tryz.underlying5
 a5:=Tryz.isAgg5
 z5:=Tryz.sizeOf5
 v5:=Tryz.zeroValue5
 t9:=Tryz.underlying9
 a9:=Tryz.isAgg9
 z9:=Tryz.sizeOf9
 v9:=Tryz.zeroValue9
 t20:=Tryz.underlying20
 a20:=Tryz.isAgg20
 z20:=Tryz.sizeOf20
 v20:=Tryz.zeroValue20
 t21:=Tryz.underlying21
 a21:=Tryz.isAgg21
 z21:=Tryz.sizeOf21
 v21:=Tryz.zeroValue21
 t37:=Tryz.underlying44
 a37:=Tryz.isAgg44
 z37:=Tryz.sizeOf44
 v37:=Tryz.zeroValue44
 t46:=Tryz.underlying40
 a46:=Tryz.isAgg40
 z46:=Tryz.sizeOf40
 v46:=Tryz.zeroValue40
 t51:=Tryz.underlying147
 a51:=Tryz.isAgg147
 z51:=Tryz.sizeOf147
 v51:=Tryz.zeroValue147
 t53:=Tryz.underlying80
 a53:=Tryz.isAgg80
 z53:=Tryz.sizeOf80
 v53:=Tryz.zeroValue80
 t75:=Tryz.underlying87
 a75:=Tryz.isAgg87
 z75:=Tryz.sizeOf87
 v75:=Tryz.zeroValue87
 t85:=Tryz.underlying88
 a85:=Tryz.isAgg88
 z85:=Tryz.sizeOf88
 v85:=Tryz.zeroValue88
 t127:=Tryz.underlying62
 a127:=Tryz.isAgg62
 z127:=Tryz.sizeOf62
 v127:=Tryz.zeroValue62
 t143:=Tryz.underlying252
 a143:=Tryz.isAgg252
 z143:=Tryz.sizeOf252
 v143:=Tryz.zeroValue252
 t145:=Tryz.underlying254
 a145:=Tryz.isAgg254
 z145:=Tryz.sizeOf254
 v145:=Tryz.zeroValue254
 t167:=Tryz.underlying153
 a167:=Tryz.isAgg153
 z167:=Tryz.sizeOf153
 v167:=Tryz.zeroValue153
 t168:=Tryz.underlying156
 a168:=Tryz.isAgg156
 z168:=Tryz.sizeOf156
 v168:=Tryz.zeroValue156
 t171:=Tryz.underlying159
 a171:=Tryz.isAgg159
 z171:=Tryz.sizeOf159
 v171:=Tryz.zeroValue159
 t173:=Tryz.underlying162
 a173:=Tryz.isAgg162
 z173:=Tryz.sizeOf162
 v173:=Tryz.zeroValue162
 t175:=Tryz.underlying154
 a175:=Tryz.isAgg154
 z175:=Tryz.sizeOf154
 v175:=Tryz.zeroValue154
 t210:=Tryz.underlying200
 a210:=Tryz.isAgg200
 z210:=Tryz.sizeOf200
 v210:=Tryz.zeroValue200
 t212:=Tryz.underlying203
 a212:=Tryz.isAgg203
 z212:=Tryz.sizeOf203
 v212:=Tryz.zeroValue203
 t213:=Tryz.underlying204
 a213:=Tryz.isAgg204
 z213:=Tryz.sizeOf204
 t232:=Tryz.underlying279
 a232:=Tryz.isAgg279
 z232:=Tryz.sizeOf279
 v232:=Tryz.zeroValue279
 t233:=Tryz.underlying280
 a233:=Tryz.isAgg280
 z233:=Tryz.sizeOf280
 v233:=Tryz.zeroValue280
 g15:=by kernel_rfl
 g16:=by kernel_rfl
 g17:=by kernel_rfl
 g18:=by kernel_rfl
 g19:=by kernel_rfl
 t80:=Tryz.underlying52
 a80:=Tryz.isAgg52
 z80:=Tryz.sizeOf52
 v80:=Tryz.zeroValue52
 i0:=by kernel_rfl
 i2:=by kernel_rfl
 i3:=by kernel_rfl
 i4:=by kernel_rfl
 i5:=by kernel_rfl
 i9:=by kernel_rfl
 i20:=by kernel_rfl
 i21:=by kernel_rfl
 i37:=by kernel_rfl
 i46:=by kernel_rfl
 i51:=by kernel_rfl
 i53:=by kernel_rfl
 i75:=by kernel_rfl
 i80:=by kernel_rfl
 i85:=by kernel_rfl
 i127:=by kernel_rfl
 i143:=by kernel_rfl
 i145:=by kernel_rfl
 i167:=by kernel_rfl
 i168:=by kernel_rfl
 i171:=by kernel_rfl
 i173:=by kernel_rfl
 i175:=by kernel_rfl
 i210:=by kernel_rfl
 i212:=by kernel_rfl
 i232:=by kernel_rfl
 i233:=by kernel_rfl
 m15:=by kernel_rfl
 m16:=by kernel_rfl
 m17:=by kernel_rfl
 m18:=by kernel_rfl
 m19:=by kernel_rfl
 c0:=by kernel_rfl
 c2:=by kernel_rfl
 c3:=by kernel_rfl
 c4:=by kernel_rfl
 c5:=by kernel_rfl
 c9:=by kernel_rfl
 c20:=by kernel_rfl
 c21:=by kernel_rfl
 c37:=by kernel_rfl
 c46:=by kernel_rfl
 c51:=by kernel_rfl
 c53:=by kernel_rfl
 c75:=by kernel_rfl
 c80:=by kernel_rfl
 c85:=by kernel_rfl
 c127:=by kernel_rfl
 c143:=by kernel_rfl
 c145:=by kernel_rfl
 c167:=by kernel_rfl
 c168:=by kernel_rfl
 c171:=by kernel_rfl
 c173:=by kernel_rfl
 c175:=by kernel_rfl
 c210:=by kernel_rfl
 c212:=by kernel_rfl
 c213:=by kernel_rfl
 c232:=by kernel_rfl
 c233:=by kernel_rfl}
open Go.RowKit in
theorem Tryz.strconv_ParseInt_10_at64_ok (s:ByteArray) (XZ:s.size≤9223372036854775806) (v:Int) (h:Lib.parseIntB 64 s.data.toList=.ok v) (w:World):
 Calls Tryz.prog 38 #[.string s,.int .i64 10,.int .i64 64] w fun e w'=>e=.returned (.tuple #[.int .i64 v,.nilIface])∧(w'=w∨∃t,w'=Lib.bytesWorld w 5 t):=Any.strconv_ParseInt_10_at64_ok Tryz.laysC174 s XZ v h w
open Go.RowKit in
theorem Tryz.strconv_ParseInt_10_at64_syntax (s:ByteArray) (Qy:s.size≤281474976710656) (h:Lib.parseIntB 64 s.data.toList=Lib.NumEnd.syntax) (ev:Value) (w:World) (hv:w.cell? ⟨1,0,none⟩=some ev) (X0:ev=.nilIface∨∃te pe,ev=.iface te pe):
 Calls Tryz.prog 38 #[.string s,.int .i64 10,.int .i64 64] w fun e w'=>∃N,e=.returned (.tuple #[.int .i64 (0),.iface 156 (.pointer (some ⟨N,0,none⟩))])∧w.heap.size≤N∧w'.heap[N]? =some (.cells #[.string ⟨#[80,97,114,115,101,73,110,116]⟩,.string s,ev] 200 (0,0))∧Below w.heap.size w w':=Any.strconv_ParseInt_10_at64_syntax Tryz.laysC174 s Qy h ev w hv X0
open Go.RowKit in
theorem Tryz.strconv_ParseInt_10_at64_range (s:ByteArray) (Qy:s.size≤281474976710656) (h:Lib.parseIntB 64 s.data.toList=.range) (ev:Value) (w:World) (hv:w.cell? ⟨2,0,none⟩=some ev) (X0:ev=.nilIface∨∃te pe,ev=.iface te pe):
 Calls Tryz.prog 38 #[.string s,.int .i64 10,.int .i64 64] w fun e w'=>∃N,e=.returned (.tuple #[.int .i64 (Lib.intSat 64 s.data.toList),.iface 156 (.pointer (some ⟨N,0,none⟩))])∧w.heap.size≤N∧w'.heap[N]? =some (.cells #[.string ⟨#[80,97,114,115,101,73,110,116]⟩,.string s,ev] 200 (0,0))∧Below w.heap.size w w':=Any.strconv_ParseInt_10_at64_range Tryz.laysC174 s Qy h ev w hv X0
end Go.Proofs
