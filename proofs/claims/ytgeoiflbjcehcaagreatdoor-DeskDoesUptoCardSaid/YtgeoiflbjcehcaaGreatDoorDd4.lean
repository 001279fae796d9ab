import Derived.Test.YtgeoiflbjcehcaaGreatDoorDd3
import Derived.ProofKit
set_option maxHeartbeats 4000000
set_option maxRecDepth 2000
set_option linter.unusedVariables false
set_option linter.unusedSimpArgs false
namespace Go.Proofs.YtgeoiflbjcehcaaGreatDoor
namespace X
open Go
section
variable {P:Program} {N:Nat} {ρ:Env} {S:Heap→Prop} {ty:TypeId} {σ:PH} {Γ:List HP} {K:KA}
theorem Rd.mv {x:Operand} {v:Value} (hv:ev ρ x=v:=by with_reducible (conv=>lhs;whnf)):Rd P ρ S (.move x) ty v:=.move hv
theorem Rd.CZ {x:Operand} {v:Value} (hv:ev ρ x=v:=by with_reducible (conv=>lhs;whnf)):Rd P ρ S (.assign x) ty v:=.assign hv
theorem Rd.pT {c x y:Operand} {v:Value} (hc:ev ρ c=.bool true) (hv:ev ρ x=v:=by with_reducible (conv=>lhs;whnf)):Rd P ρ S (.pick c x y) ty v:=.iC hc hv
theorem Rd.pF {c x y:Operand} {v:Value} (hc:ev ρ c=.bool false) (hv:ev ρ y=v:=by with_reducible (conv=>lhs;whnf)):Rd P ρ S (.pick c x y) ty v:=.QR hc hv
theorem Rd.pP {p:Prop} {inst:Decidable p} {b:Bool} {c x y:Operand} {v:Value} (hc:ev ρ c=.bool (@decide p inst)) (hp:@decide p inst=b:=by first|exact(rfl:decide _=true)|exact(rfl:decide _=false)|(refine aM ?_;assumption)|(refine aE ?_;assumption)|(refine aM ?_;omega)|(refine aE ?_;omega)) (hv:ev ρ (match b with|true=>x|false=>y)=v:=by with_reducible (conv=>lhs;whnf)):Rd P ρ S (.pick c x y) ty v:=.VP hc hp hv
theorem Rd.Bl {T:TypeId} {x:Operand} {g o:Nat} {v:Value} (hx:ev ρ x=.pointer (some ⟨g,o,none⟩)) (hl:∀h,S h→Ld P h T g o v:=by first|(exact Ld.bn (ae rfl) rfl (by((repeat (first|with_reducible exact dm.head|apply dm.tail));(first|done|fail))) rfl (by first|exact K3 (by first|rfl|assumption|(refine(dz _).trans ?_;assumption)|(simp[*];(first|done|fail)))|assumption|exact sI (by first|rfl|assumption|(refine(dz _).trans ?_;assumption)|(simp[*];(first|done|fail)))|(conv=>lhs;simp only[List.drop_succ_cons,List.drop_zero,List.take_succ_cons,List.take_zero])) (by first|rfl|assumption|(refine(dz _).trans ?_;assumption)|(simp[*];(first|done|fail))))|(exact Ld.at (ae rfl) rfl (At.Fu (by assumption)) (by first|rfl|assumption|(refine(dz _).trans ?_;assumption)|(simp[*];(first|done|fail))))|(exact Ld.WR (ae rfl) rfl (by((repeat (first|with_reducible exact dm.head|apply dm.tail));(first|done|fail))) rfl (by first|exact K3 (by first|rfl|assumption|(refine(dz _).trans ?_;assumption)|(simp[*];(first|done|fail)))|assumption|exact sI (by first|rfl|assumption|(refine(dz _).trans ?_;assumption)|(simp[*];(first|done|fail)))|(conv=>lhs;simp only[List.drop_succ_cons,List.drop_zero,List.take_succ_cons,List.take_zero])) (by first|rfl|assumption|(refine(dz _).trans ?_;assumption)|(simp[*];(first|done|fail))))):Rd P ρ S (.load T x) ty v:=.load hx hl
theorem Rd.yZ {T:TypeId} {x:Operand} {r:Ty} {g o:Nat} {v:Value} (hx:ev ρ x=.pointer (some ⟨g,o,none⟩)) (hT:aX P T=some r) (hk:r.k.agg=false) (hc:sQ S g o v:=by first|(exact sQ.aw (by((repeat (first|with_reducible exact dm.head|apply dm.tail));(first|done|fail))) (by first|rfl|assumption))|(exact sQ.Fu (by first|assumption))|(exact sQ.aS (by((repeat (first|with_reducible exact dm.head|apply dm.tail));(first|done|fail))) (by first|rfl|assumption))):Rd P ρ S (.load T x) ty v:=.load hx (Ld.Vm hT hk hc)
theorem Rd.adi {T T':TypeId} {x y:Operand} {a b:Int} (hx:ev ρ x=.int .i64 a) (hy:ev ρ y=.int .i64 b) (hr:-9223372036854775808≤a+b∧a+b≤9223372036854775807:=by omega):Rd P ρ S (.binOp .add T x y T') ty (.int .i64 (a+b)):=.Sm hx hy rfl hr
theorem Rd.sbi {T T':TypeId} {x y:Operand} {a b:Int} (hx:ev ρ x=.int .i64 a) (hy:ev ρ y=.int .i64 b) (hr:-9223372036854775808≤a-b∧a-b≤9223372036854775807:=by omega):Rd P ρ S (.binOp .sub T x y T') ty (.int .i64 (a-b)):=.Z1 hx hy rfl hr
theorem Rd.cvI {T1 T2:TypeId} {x:Operand} {kk k2:IntKind} {a c:Int} {r1 r2:Ty} (oW:aX P T1=some r1) (n8:aX P T2=some r2) (kP:r2.k=.int k2) (hx:ev ρ x=.int kk a) (hc:k2.wrap a=c:=by first|exact X.wrap64_in (by omega) (by omega)|exact SA (by omega) (by omega)|rfl):Rd P ρ S (.convert T1 T2 x) ty (.int k2 c):=.WS oW n8 kP hx hc
theorem Rd.fA {T:TypeId} {x:Operand} {f g o n m:Nat} {r:Ty} {fs:List (TypeId×Nat)} {ft:TypeId} {r':Ty} (hx:ev ρ x=.pointer (some ⟨g,o,none⟩)) (hT:aX P T=some r:=by exact ae rfl) (hk:r.k=.struct fs:=by rfl) (hf:fs[f]? =some (ft,n):=by rfl) (ON:aX P ft=some r':=by exact ae rfl) (hz:Nat.beq r'.size 0=false:=by rfl)
 (ho:o+n=m:=by first|(conv=>lhs;simp only[Nat.reduceAdd,Nat.zero_add,Nat.add_zero,Nat.reduceMul,Nat.mul_one,Int.toNat_natCast,Int.reduceToNat,Nat.zero_mul])|rfl):Rd P ρ S (.fieldAddr T x f) ty (.pointer (some ⟨g,m,none⟩)):=.fieldAddr hT hk hf ON hz hx ho
theorem Rd.K8 {T:TypeId} {x y:Operand} {g o len cap e sz m:Nat} {i:Int} {kk:IntKind} {r re:Ty} (hx:ev ρ x=.slice (some ⟨g,o,none⟩) len cap) (hy:ev ρ y=.int kk i) (hT:aX P T=some r:=by exact ae rfl) (hk:r.k=.slice e:=by rfl) (hE:aX P e=some re:=by exact ae rfl)
 (aV:0≤i∧i<len:=by first|omega|decide|(simp;omega)) (gO:re.size=sz:=by with_reducible (conv=>lhs;whnf)) (ho:o+i.toNat*sz=m:=by first|(conv=>lhs;simp only[Nat.reduceAdd,Nat.zero_add,Nat.add_zero,Nat.reduceMul,Nat.mul_one,Int.toNat_natCast,Int.reduceToNat,Nat.zero_mul])|rfl):Rd P ρ S (.indexAddr T x y) ty (.pointer (some ⟨g,m,none⟩)):=.Fk hT hk hE hx hy aV gO ho
theorem Rd.ixA {T:TypeId} {x y:Operand} {g o n e sz m:Nat} {i:Int} {kk:IntKind} {r re:Ty} (hx:ev ρ x=.pointer (some ⟨g,o,none⟩)) (hy:ev ρ y=.int kk i) (hT:aX P T=some r:=by exact ae rfl) (hk:r.k=.array n e:=by rfl) (hE:aX P e=some re:=by exact ae rfl)
 (aV:0≤i∧i<n:=by first|omega|decide|(simp;omega)) (gO:re.size=sz:=by with_reducible (conv=>lhs;whnf)) (ho:o+i.toNat*sz=m:=by first|(conv=>lhs;simp only[Nat.reduceAdd,Nat.zero_add,Nat.add_zero,Nat.reduceMul,Nat.mul_one,Int.toNat_natCast,Int.reduceToNat,Nat.zero_mul])|rfl):Rd P ρ S (.indexAddr T x y) ty (.pointer (some ⟨g,m,none⟩)):=.Fl hT hk hE hx hy aV gO ho
theorem Rd.WU {T:TypeId} {x y:Operand} {n e:Nat} {i:Int} {kk:IntKind} {r re:Ty} {cs:Array Value} {v:Value} (hx:ev ρ x=.agg cs) (hy:ev ρ y=.int kk i) (hT:aX P T=some r:=by exact ae rfl) (hk:r.k=.array n e:=by rfl) (hE:aX P e=some re:=by exact ae rfl) (KM:re.k.agg=false:=by rfl) (gO:re.size=1:=by rfl)
 (aV:0≤i∧i<n:=by first|omega|decide|(simp;omega)) (hv:cs[i.toNat]? =some v:=by first|assumption|rfl):Rd P ρ S (.index T x y) ty v:=.sJ hT hk hE KM gO hx hy aV hv
theorem Rd.bl {T:TypeId} {tb:Nat→Option Ty} {parts:List (Nat×Operand)} {ps:List (Nat×Value)} {r:Ty} {fs:List (TypeId×Nat)} {pl:List (Nat×Nat)} {cs:List Value} (Cw:∀T r,tb T=some r→aX P T=some r) (hT:tb T=some r) (hk:r.k=.struct fs) (zf:places tb fs=some pl)
 (hp:(parts.map fun p=>(p.1,ev ρ p.2))=ps:=by first|((repeat (first|exact K5|(apply K4;exact(by with_reducible (conv=>lhs;whnf)))));done)|rfl) (hb:yY (pl[·]?) ps r.zero=some cs:=by first|(apply Q8;exact(by conv=>lhs;whnf);(repeat (first|exact K6|(apply K7;rfl;exact(by conv=>lhs;whnf);exact(by conv=>lhs;whnf);exact(by first|exact lQ _|exact j8 _|rfl);exact(by first|rfl|assumption|(refine(dz _).trans ?_;assumption)|(simp[*];(first|done|fail)));exact(by first|exact bX _|exact gf|exact pH _|(rw[O5];decide;assumption;assumption)|decide|(simp[*];(first|done|fail))|(simp;omega));exact(by conv=>lhs;simp only[List.take_zero,List.take_succ_cons,List.drop_zero,List.drop_succ_cons,List.drop_nil,List.nil_append,List.cons_append,List.append_nil,Nat.reduceAdd,Nat.zero_add,Nat.add_zero]))));done)|rfl|assumption|(conv=>lhs;simp[yY,aQ,Value.cells, *])):Rd P ρ S (.build T parts.toArray) ty (.agg cs.toArray):=.build Cw hT hk zf hp hb
theorem Rd.WV {T:TypeId} {tb:Nat→Option Ty} {parts:List (Nat×Operand)} {ps:List (Nat×Value)} {r re:Ty} {n e:Nat} {cs:List Value} (Cw:∀T r,tb T=some r→aX P T=some r) (hT:tb T=some r) (hk:r.k=.array n e) (hE:tb e=some re)
 (hp:(parts.map fun p=>(p.1,ev ρ p.2))=ps:=by first|((repeat (first|exact K5|(apply K4;exact(by with_reducible (conv=>lhs;whnf)))));done)|rfl) (hb:yY (fun i=>some (i*re.size,re.size)) ps r.zero=some cs:=by first|(apply Q8;exact(by conv=>lhs;whnf);(repeat (first|exact K6|(apply K7;rfl;exact(by conv=>lhs;whnf);exact(by conv=>lhs;whnf);exact(by first|exact lQ _|exact j8 _|rfl);exact(by first|rfl|assumption|(refine(dz _).trans ?_;assumption)|(simp[*];(first|done|fail)));exact(by first|exact bX _|exact gf|exact pH _|(rw[O5];decide;assumption;assumption)|decide|(simp[*];(first|done|fail))|(simp;omega));exact(by conv=>lhs;simp only[List.take_zero,List.take_succ_cons,List.drop_zero,List.drop_succ_cons,List.drop_nil,List.nil_append,List.cons_append,List.append_nil,Nat.reduceAdd,Nat.zero_add,Nat.add_zero]))));done)|rfl|assumption|(conv=>lhs;simp[yY,aQ,Value.cells, *])):Rd P ρ S (.build T parts.toArray) ty (.agg cs.toArray):=.Bj Cw hT hk hE hp hb
theorem ax.bs {T e len:Nat} {tb:Nat→Option Ty} {parts:List (Nat×Operand)} {ps:List (Nat×Value)} {r re:Ty} {cs:List Value} (Cw:∀T r,tb T=some r→aX P T=some r) (hT:tb T=some r) (hk:r.k=.slice e) (hE:tb e=some re) (hz:re.zero.length=re.size)
 (rn:Nat.ble (len*re.size) 16777216=true) (hp:(parts.map fun p=>(p.1,ev ρ p.2))=ps:=by first|((repeat (first|exact K5|(apply K4;exact(by with_reducible (conv=>lhs;whnf)))));done)|rfl) (hb:yY (fun i=>some (i*re.size,re.size)) ps ((List.range (len*re.size)).map fun k=>re.zero.getD (k%re.size) undef)=some cs:=by first|(apply WT;exact(by conv=>lhs;whnf);rfl;exact(by conv=>lhs;simp only[zs,List.cons_append,List.nil_append]);(repeat (first|exact K6|(apply K7;rfl;exact(by conv=>lhs;whnf);exact(by conv=>lhs;whnf);exact(by first|exact lQ _|exact j8 _|rfl);exact(by first|rfl|assumption|(refine(dz _).trans ?_;assumption)|(simp[*];(first|done|fail)));exact(by first|exact bX _|exact gf|exact pH _|(rw[O5];decide;assumption;assumption)|decide|(simp[*];(first|done|fail))|(simp;omega));exact(by conv=>lhs;simp only[List.take_zero,List.take_succ_cons,List.drop_zero,List.drop_succ_cons,List.drop_nil,List.nil_append,List.cons_append,List.append_nil,Nat.reduceAdd,Nat.zero_add,Nat.add_zero]))));done)|rfl|assumption|(conv=>lhs;simp[yY,aQ,Value.cells, *])):
 ax P ρ σ Γ (.buildSlice T len parts.toArray) ty (fun v' aj al=>∃g,v'=.slice (some ⟨g,0,none⟩) len len∧σ=aj∧al=aw g cs e::Γ) ig:=.buildSlice Cw hT hk hE hz rn hp hb
theorem ax.jY {T e:TypeId} {x:Operand} {v:Value} {r re:Ty} {l:List Value} (hT:aX P T=some r) (hk:r.k=.slice e) (hE:aX P e=some re) (hx:ev ρ x=v:=by with_reducible (conv=>lhs;whnf)) (hl:v.cells=l.toArray:=by first|exact lQ _|exact j8 _|rfl) (Kt:l.length=re.size:=by first|rfl|assumption|(refine(dz _).trans ?_;assumption)|(simp[*];(first|done|fail))) (hz:re.zero.length=re.size:=by rfl) (hs:re.size≤1000:=by decide) (I3:Nat.beq re.size 0=false:=by rfl):
 ax P ρ σ Γ (.buildSlice T 1 #[(0,x)]) ty (fun v' aj al=>∃g,v'=.slice (some ⟨g,0,none⟩) 1 1∧σ=aj∧al=aw g l e::Γ) ig:=.Fm hT hk hE hx hl Kt hz hs I3
theorem ax.bx {T:TypeId} {x:Operand} {v:Value} {l:List Value} (hx:ev ρ x=v:=by with_reducible (conv=>lhs;whnf)) (hl:v.cells=l.toArray:=by first|exact lQ _|exact j8 _|rfl):ax P ρ σ Γ (.box T x) ty (fun v' aj al=>∃g,v'=.pointer (some ⟨g,0,none⟩)∧σ=aj∧al=aw g l T::Γ) ig:=.box hx hl
theorem ax.st {T:TypeId} {x y:Operand} {g o:Nat} {v:Value} {vs:List Value} {r:Ty} {l l':List Value} {T':TypeId} {al:List HP} (hT:aX P T=some r) (hx:ev ρ x=.pointer (some ⟨g,o,none⟩)) (s:dm Γ (aw g l T') al:=by((repeat (first|with_reducible exact dm.head|apply dm.tail));(first|done|fail))) (hy:ev ρ y=v:=by with_reducible (conv=>lhs;whnf)) (hv:v.cells=vs.toArray:=by first|exact lQ _|exact j8 _|rfl)
 (hn:vs.length=r.size:=by first|rfl|assumption|(refine(dz _).trans ?_;assumption)|(simp[*];(first|done|fail))) (gf:o+r.size≤l.length:=by first|exact bX _|exact gf|exact pH _|(rw[O5];decide;assumption;assumption)|decide|(simp[*];(first|done|fail))|(simp;omega)) (h1:dT vs:=by(repeat (first|assumption|exact ei _|exact kz rfl|refine fO rfl ?_|refine C0 ?_ ?_));(first|done|fail)) (hh:aQ l o vs=l':=by first|((with_reducible apply iB);(first|rfl|(simp[*];(first|done|fail))))|assumption|exact iP _|exact sR|exact sR _|(conv=>lhs;simp only[aQ,List.take_zero,List.take_succ_cons,List.drop_zero,List.drop_succ_cons,bF,List.length_nil,List.nil_append,List.cons_append,List.append_nil,List.append_eq,Nat.reduceAdd,Nat.zero_add,Nat.add_zero])|rfl):ax P ρ σ Γ (.store T x y) ty (fun v' aj Δ=>v'=undef∧σ=aj∧Δ=aw g l' T'::al) ig:=.store hT hx s hy hv hn gf h1 hh
theorem ax.cE {f:FuncId} {args:List Operand} {mE:Array TypeId} {vs:List Value} {R:Value→PH→List HP→Prop} {b6 Δ:List HP} (hc:ah P f vs.toArray σ b6 (aA R)) (hv:args.map (ev ρ)=vs) (he:ar Γ (b6++Δ):=by(repeat (first|exact ar.all _|(apply ar.take;focus (first|((repeat (first|with_reducible exact dm.head|apply dm.tail));done)|((repeat (first|exact dm.head|apply dm.tail));done)))|apply ar.od|apply ar.qy));(first|done|fail)):
 ax P ρ σ Γ (.call {callee:=.value (.func f),args:=args.toArray,argTypes:=mE}) ty (fun v aj al=>∃cr,R v aj cr∧al=cr++Δ) ig:=ax.call hc hv he
theorem ax.cV {f:FuncId} {fo:Operand} {first cap:List Value} {args:List Operand} {mE:Array TypeId} {vs:List Value} {R:Value→PH→List HP→Prop} {b6 Δ:List HP} (hf:ev ρ fo=.func (.func f) first.toArray cap.toArray)
 (hc:ah P f vs.toArray σ b6 (aA R)) (hv:first++args.map (ev ρ)++cap=vs) (he:ar Γ (b6++Δ):=by(repeat (first|exact ar.all _|(apply ar.take;focus (first|((repeat (first|with_reducible exact dm.head|apply dm.tail));done)|((repeat (first|exact dm.head|apply dm.tail));done)))|apply ar.od|apply ar.qy));(first|done|fail)):
 ax P ρ σ Γ (.call {callee:=.value fo,args:=args.toArray,argTypes:=mE}) ty (fun v aj al=>∃cr,R v aj cr∧al=cr++Δ) ig:=ax.Q7 hf hc hv he
theorem ax.kM {T e:TypeId} {x y:Operand} {r re:Ty} {v:Value} {n c g:Nat} {xs news:List Value} {cr al:List HP} {T':TypeId} (hT:aX P T=some r) (hk:r.k=.slice e) (hE:aX P e=some re) (hz:re.zero.length=re.size)
 (hs:ev ρ x=v) (hy:ev ρ y=.slice (some ⟨g,0,none⟩) 1 c) (hg:dm Γ (aw g news T') cr:=by((repeat (first|with_reducible exact dm.head|apply dm.tail));(first|done|fail))) (s:dm cr (aS e re.size v n xs) al:=by((repeat (first|with_reducible exact dm.head|apply dm.tail));(first|done|fail))) (hl:news.length=re.size:=by first|rfl|assumption|(refine(dz _).trans ?_;assumption)|(simp[*];(first|done|fail))) (h1:dT news:=by(repeat (first|assumption|exact ei _|exact kz rfl|refine fO rfl ?_|refine C0 ?_ ?_));(first|done|fail)) (ze:n+1≤maxLen:=by simp only[maxLen];omega) (hb:(n+1)*re.bytes≤140737488355328:=by first|omega|(simp only[];omega)):
 ax P ρ σ Γ (.call {callee:=.builtin .append,args:=#[x,y],argTypes:=#[T,T]}) ty (fun v' aj Δ=>∃p c,v'=.slice p (n+1) c∧σ=aj∧Δ=aS e re.size (.slice p (n+1) c) (n+1) (xs++news)::al) ig:=.OY hT hk hE hz hs hy hg s hl h1 ze hb
theorem XA.cl {c:Code} {Δ:List HP} (k:XA P N c ρ σ Δ K) (h:Γ=Δ:=by conv=>lhs;dsimp only[List.cons_append,List.nil_append]):XA P N c ρ σ Γ K:=h▸k
theorem DA.cl {e:Exit} {Δ:List HP} (k:DA K e ρ σ Δ) (h:Γ=Δ:=by conv=>lhs;dsimp only[List.cons_append,List.nil_append]):DA K e ρ σ Γ:=h▸k
section
variable {all:Array Oper} {rest:List Oper} {l:List Oper}
theorem az.cl {Δ:List HP} (k:az P N all l ρ σ Δ K) (h:Γ=Δ:=by conv=>lhs;dsimp only[List.cons_append,List.nil_append]):az P N all l ρ σ Γ K:=h▸k
theorem az.wq {p:Prop} {inst:Decidable p} {d:Option Nat} {op:Op} {pos:String} {af:Array Edge} {j:Nat} {b:Bool} {t:Nat} (hj:(all[j]?).bind (·.dst)=some t) (hb:ρ t=.bool (@decide p inst))
 (k:az P N all (⟨d,op,ty,pos,af,none⟩::rest) ρ σ Γ K) (hp:@decide p inst=b:=by first|exact(rfl:decide _=true)|exact(rfl:decide _=false)|(refine aM ?_;assumption)|(refine aE ?_;assumption)|(refine aM ?_;omega)|(refine aE ?_;omega)):az P N all (⟨d,op,ty,pos,af,some (j,b)⟩::rest) ρ σ Γ K:=.OX hj hb hp k
end
section
variable {ops:Array Oper} {da:PH} {b6:List HP} {z:List Nat} {i:Nat} {pl:List (Nat×Kd)} {op:Op} {pos:String} {af:Array Edge} {g:Option (Nat×Bool)}
theorem aP.cl {Δ:List HP} (k:aP P N ops da b6 z pl ρ σ Δ K) (h:Γ=Δ:=by conv=>lhs;dsimp only[List.cons_append,List.nil_append]):aP P N ops da b6 z pl ρ σ Γ K:=h▸k
theorem aP.V5 {d:Nat} {v:Value} (hi:ops[i]? =some ⟨some d,op,ty,pos,af,g⟩) (hd:Nat.blt d N=true) (hr:Rd P ρ (Ho da b6) op ty v) (k:aP P N ops da b6 z pl (dO ρ d v) σ Γ K) (hg:Gd ops ρ g true:=by first|exact Gd.free|exact Gd.Ol rfl rfl rfl|(apply Gd.Oj;rfl;rfl;exact(by first|exact(rfl:decide _=true)|exact(rfl:decide _=false)|(refine aM ?_;assumption)|(refine aE ?_;assumption)|(refine aM ?_;omega)|(refine aE ?_;omega));rfl)):aP P N ops da b6 z ((i,.rd)::pl) ρ σ Γ K:=.rd hi hd hg hr k
theorem aP.Zb {d:Nat} {v:Value} (hi:ops[i]? =some ⟨some d,op,ty,pos,af,g⟩) (hd:Nat.blt d N=true) (hr:Rd P ρ (fun _=>True) op ty v) (k:aP P N ops da b6 z pl (dO ρ d v) σ Γ K) (hg:Gd ops ρ g true:=by first|exact Gd.free|exact Gd.Ol rfl rfl rfl|(apply Gd.Oj;rfl;rfl;exact(by first|exact(rfl:decide _=true)|exact(rfl:decide _=false)|(refine aM ?_;assumption)|(refine aE ?_;assumption)|(refine aM ?_;omega)|(refine aE ?_;omega));rfl)):aP P N ops da b6 z ((i,.pu)::pl) ρ σ Γ K:=.pu hi hd hg hr k
theorem aP.afB {d:Nat} (hi:ops[i]? =some ⟨some d,op,ty,pos,af,g⟩) (hd:Nat.blt d N=true) (k:aP P N ops da b6 z pl (dO ρ d undef) σ Γ K) (hg:Gd ops ρ g false:=by first|exact Gd.Ol rfl rfl rfl|exact Gd.un rfl rfl|(apply Gd.Oj;rfl;rfl;exact(by first|exact(rfl:decide _=true)|exact(rfl:decide _=false)|(refine aM ?_;assumption)|(refine aE ?_;assumption)|(refine aM ?_;omega)|(refine aE ?_;omega));rfl)):aP P N ops da b6 z ((i,.rd)::pl) ρ σ Γ K:=.off hi hd hg k
theorem aP.Bm {d:Nat} (hi:ops[i]? =some ⟨some d,op,ty,pos,af,g⟩) (hd:Nat.blt d N=true) (k:aP P N ops da b6 z pl (dO ρ d undef) σ Γ K) (hg:Gd ops ρ g false:=by first|exact Gd.Ol rfl rfl rfl|exact Gd.un rfl rfl|(apply Gd.Oj;rfl;rfl;exact(by first|exact(rfl:decide _=true)|exact(rfl:decide _=false)|(refine aM ?_;assumption)|(refine aE ?_;assumption)|(refine aM ?_;omega)|(refine aE ?_;omega));rfl)):aP P N ops da b6 z ((i,.pu)::pl) ρ σ Γ K:=.wZ hi hd hg k
end
section
variable {all:Array Oper} {rest:List Oper} {l:List Oper} {d:Nat} {dd:Option Nat} {op:Op} {pos:String} {af:Array Edge} {j t:Nat} {b c:Bool} {p:Prop} {inst:Decidable p}
theorem zG (k:az P N all (⟨dd,op,ty,pos,af,none⟩::rest) ρ σ Γ K) (hj:(all[j]?).bind (·.dst)=some t:=by exact rfl) (hb:ρ t=.bool c:=by exact rfl) (hc:c=b:=by first|exact rfl|exact(by first|exact(rfl:decide _=true)|exact(rfl:decide _=false)|(refine aM ?_;assumption)|(refine aE ?_;assumption)|(refine aM ?_;omega)|(refine aE ?_;omega))):az P N all (⟨dd,op,ty,pos,af,some (j,b)⟩::rest) ρ σ Γ K:=.wanted hj (hc▸hb) k
def Off (v:Value) (b:Bool):Prop:=v=undef∨∃c,v=.bool c∧c=!b
theorem zH (k:az P N all rest (dO ρ d undef) σ Γ K) (hd:Nat.blt d N=true:=by exact rfl) (hj:(all[j]?).bind (·.dst)=some t:=by exact rfl) (hb:Off (ρ t) b:=by first|exact Or.inr ⟨_,rfl,rfl⟩|exact Or.inl rfl|exact Or.inr ⟨_,rfl,(by first|exact(rfl:decide _=true)|exact(rfl:decide _=false)|(refine aM ?_;assumption)|(refine aE ?_;assumption)|(refine aM ?_;omega)|(refine aE ?_;omega))⟩):az P N all (⟨some d,op,ty,pos,af,some (j,b)⟩::rest) ρ σ Γ K:=by
 rcases hb with h|⟨c,h,rfl⟩
 ·exact .uu hd hj h k
 ·exact .wV hd hj h (by cases b<;>rfl) k
end
section
variable {S:Heap→Prop} {op:Op}
theorem zL {al:List HP} {R:HP} (s:dm Γ R al:=by((repeat (first|with_reducible exact dm.head|apply dm.tail));(first|done|fail))):dm Γ R al:=s
theorem zM {l:List (Nat×Value)} (h:Bi ρ l:=by(repeat (first|exact trivial|refine⟨rfl,?_⟩|refine⟨Eq.trans rfl (congrArg Value.bool afD.symm),?_⟩));(first|done|fail)):Bi ρ l:=h
theorem zK {L:List (Nat×Nat)} {er:Env} (h:iy L ρ er:=by(repeat (first|exact iy.refl _ _|refine iy.dO ?_ rfl|refine iy.jz ?_ rfl|refine iy.VZ ?_));(first|done|fail)):iy L ρ er:=h
theorem zP {v:Value} (h:Rd P ρ S op ty v:=by first|exact Rd.pT rfl|exact Rd.pF rfl|exact Rd.pP rfl):Rd P ρ S op ty v:=h
theorem zI {v:Value} (h:Rd P ρ S op ty v:=by first|exact Rd.adi rfl rfl|exact Rd.add rfl rfl):Rd P ρ S op ty v:=h
theorem zJ {v:Value} (h:Rd P ρ S op ty v:=by first|exact Rd.Z3 rfl|exact Rd.not rfl):Rd P ρ S op ty v:=h
theorem zC {Δ:List HP} (h:Γ=Δ:=by conv=>lhs;dsimp only[List.cons_append,List.nil_append]):Γ=Δ:=h
theorem zX {aj:PH} (h:σ.sub aj:=by first|exact PH.sub.refl _|assumption|(refine PH.sub.trans ?_ (by assumption);assumption)):σ.sub aj:=h
theorem zD {Δ:List HP} (h:ar Γ Δ:=by(repeat (first|exact ar.all _|(apply ar.take;focus (first|((repeat (first|with_reducible exact dm.head|apply dm.tail));done)|((repeat (first|exact dm.head|apply dm.tail));done)))|apply ar.od|apply ar.qy));(first|done|fail)):ar Γ Δ:=h
theorem zY {b c:Bool} (h:b=c:=by first|rfl|exact(by first|exact(rfl:decide _=true)|exact(rfl:decide _=false)|(refine aM ?_;assumption)|(refine aE ?_;assumption)|(refine aM ?_;omega)|(refine aE ?_;omega))):b=c:=h
end
abbrev zR:=@XA.region
abbrev zN:=@az.nil
abbrev zS:=@XA.seq
abbrev zT:=@DA.bI
abbrev zO:=@az.rd
section
variable {all:Array Oper} {rest:List Oper} {d:Nat} {pos:String} {af:Array Edge} {v:Value}
theorem zA {x:Operand} (hd:Nat.blt d N=true) (k:az P N all rest (dO ρ d v) σ Γ K) (hv:ev ρ x=v:=by with_reducible (conv=>lhs;whnf)):az P N all (⟨some d,.move x,ty,pos,af,none⟩::rest) ρ σ Γ K:=az.rd hd (.move hv) k
theorem zB {T:TypeId} {x:Operand} {r:Ty} {g o:Nat} (hd:Nat.blt d N=true) (hx:ev ρ x=.pointer (some ⟨g,o,none⟩)) (hT:aX P T=some r) (hk:r.k.agg=false) (k:az P N all rest (dO ρ d v) σ Γ K) (hc:sQ (Ho σ Γ) g o v:=by first|(exact sQ.aw (by((repeat (first|with_reducible exact dm.head|apply dm.tail));(first|done|fail))) (by first|rfl|assumption))|(exact sQ.Fu (by first|assumption))|(exact sQ.aS (by((repeat (first|with_reducible exact dm.head|apply dm.tail));(first|done|fail))) (by first|rfl|assumption))):az P N all (⟨some d,.load T x,ty,pos,af,none⟩::rest) ρ σ Γ K:=az.rd hd (Rd.yZ hx hT hk hc) k
theorem zV {T:TypeId} {x:Operand} {f g o n m:Nat} {r:Ty} {fs:List (TypeId×Nat)} {ft:TypeId} {r':Ty} (hd:Nat.blt d N=true) (hx:ev ρ x=.pointer (some ⟨g,o,none⟩)) (k:az P N all rest (dO ρ d (.pointer (some ⟨g,m,none⟩))) σ Γ K) (hT:aX P T=some r:=by exact ae rfl) (hk:r.k=.struct fs:=by rfl) (hf:fs[f]? =some (ft,n):=by rfl) (ON:aX P ft=some r':=by exact ae rfl) (hz:Nat.beq r'.size 0=false:=by rfl)
 (ho:o+n=m:=by first|(conv=>lhs;simp only[Nat.reduceAdd,Nat.zero_add,Nat.add_zero,Nat.reduceMul,Nat.mul_one,Int.toNat_natCast,Int.reduceToNat,Nat.zero_mul])|rfl):az P N all (⟨some d,.fieldAddr T x f,ty,pos,af,none⟩::rest) ρ σ Γ K:=az.rd hd (Rd.fA hx hT hk hf ON hz ho) k
end
theorem zE {Δ:List HP} (he:ar Γ Δ:=by(repeat (first|exact ar.nil _|(apply ar.bB;focus (first|((repeat (first|with_reducible exact dm.head|apply dm.tail));done)|((repeat (first|exact dm.head|apply dm.tail));done)))|apply ar.dU|apply ar.rL));(first|done|fail)):ar Γ Δ:=he
theorem stays {da aj:PH} {al b6:List HP} {J:Prop} (k:J) (hs:da.sub aj:=by first|exact PH.sub.refl _|assumption|(refine PH.sub.trans ?_ (by assumption);assumption)) (he:ar al b6:=by(repeat (first|exact ar.nil _|(apply ar.bB;focus (first|((repeat (first|with_reducible exact dm.head|apply dm.tail));done)|((repeat (first|exact dm.head|apply dm.tail));done)))|apply ar.dU|apply ar.rL));(first|done|fail)):(da.sub aj∧ar al b6)∧J:=⟨⟨hs,he⟩,k⟩
end
end X
namespace X
open Go
variable {P:Program} {N:Nat} {ρ:Env} {h:Heap} {K:lP} {ops:Array Oper} {S:Heap→Prop} {z:List Nat}
def kZ (z:List Nat) (ops:Array Oper) (listed:Array Bool):Bool:=(List.range ops.size).all fun i=>listed.getD i false||z.contains i
structure XQ (P:Program) (N:Nat) (ops:Array Oper) (S:Heap→Prop) (z:List Nat) (fuel:Nat) (listed:Array Bool) (ρ:Env) (h:Heap) (K:lP):Prop where
 out:∀(w0:World) (a:Act) (w:World),Region.noSelect ops=true→kQ ops listed→gC w0 w→w.heap=h→e9 N a ρ→(kZ z ops listed=true∨S h)→ob P ops (ph w0 a.defers N K) (fun w=>S w.heap) z fuel listed a w
structure Ra (P:Program) (N:Nat) (ops:Array Oper) (S:Heap→Prop) (z:List Nat) (fuel:Nat) (listed:Array Bool) (i:Nat) (ρ:Env) (h:Heap) (K:lP):Prop where
 out:∀(w0:World) (a:Act) (w:World),Region.noSelect ops=true→kQ ops listed→gC w0 w→w.heap=h→e9 N a ρ→(kZ z ops listed=true∨S h)→wpOp P ops (ph w0 a.defers N K) i (fun a' w'=>(z.contains i=true∨(S w.heap→S w'.heap))∧ob P ops (ph w0 a.defers N K) (fun w=>S w.heap) z fuel (listed.setIfInBounds i true) a' w') a w
theorem XQ.nil {fuel:Nat} {listed:Array Bool} (hr:(Region.ready .any ops listed).isEmpty=true) (hk:K .normal ρ h):XQ P N ops S z fuel listed ρ h K:=by
 refine⟨fun w0 a w hs fG rn hh he hS=>?_⟩;(have hv:Region.ready .any ops listed=[]:=by simpa using hr);have hq:ph w0 a.defers N K .normal a w:=⟨rfl,rn,ρ,.of he,hh▸hk⟩
 cases fuel with
 |zero=>exact⟨hv,hq⟩
 |succ n=>exact⟨fun _=>hq,by rw[hv];intro i hi;cases hi⟩
theorem XQ.V5 {fuel i d:Nat} {listed bc:Array Bool} {op:Op} {ty:TypeId} {pos:String} {af:Array Edge} {g:Option (Nat×Bool)} {v:Value} (hi:ops[i]? =some ⟨some d,op,ty,pos,af,g⟩) (hd:Nat.blt d N=true)
 (hv:(Region.free .any ops listed i&&(Region.ready .any ops listed).contains i&&wX ops z i&&!kZ z ops listed)=true) (hl:listed.setIfInBounds i true=bc) (hy:∀a,e9 N a ρ→YieldsIf P ops (fun w=>S w.heap) ⟨some d,op,ty,pos,af,g⟩ v a) (k:XQ P N ops S z fuel bc (dO ρ d v) h K):XQ P N ops S z (fuel+1) listed ρ h K:=by
 subst hl;refine⟨fun w0 a w hs fG rn hh he hS=>?_⟩;simp only[Bool.and_eq_true] at hv;have KS:S h:=hS.resolve_left (by simpa using hv.2);have hk:=k.out w0 (a.put (some d) v) w hs (fG.set (by simpa using hv.1.1.2)) rn hh (he.put hd v) (.inr KS);exact sL hi (Region.noSelect_spec hs) (fun c a' w' hq=>hq) hv.1.2 fuel listed a w (Region.free_spec hi hv.1.1.1) (by simpa using hv.1.1.2) fG (hy a he) (by show S w.heap;rw[hh];exact KS) hk
theorem XQ.pu {fuel i d:Nat} {listed bc:Array Bool} {op:Op} {ty:TypeId} {pos:String} {af:Array Edge} {g:Option (Nat×Bool)} {v:Value} (hi:ops[i]? =some ⟨some d,op,ty,pos,af,g⟩) (hd:Nat.blt d N=true)
 (hv:(Region.free .any ops listed i&&(Region.ready .any ops listed).contains i&&(!kZ z ops listed||kZ z ops bc))=true) (hl:listed.setIfInBounds i true=bc) (hy:∀a,e9 N a ρ→YieldsIf P ops (fun _=>True) ⟨some d,op,ty,pos,af,g⟩ v a) (k:XQ P N ops S z fuel bc (dO ρ d v) h K):XQ P N ops S z (fuel+1) listed ρ h K:=by
 subst hl;refine⟨fun w0 a w hs fG rn hh he hS=>?_⟩;simp only[Bool.and_eq_true] at hv;have hk:=k.out w0 (a.put (some d) v) w hs (fG.set (by simpa using hv.1.2)) rn hh (he.put hd v) (hS.imp (fun hl=>by have:=hv.2;rw[hl] at this;simpa using this) id);exact vw hi (Region.noSelect_spec hs) (fun c a' w' hq=>hq) fuel listed a w (Region.free_spec hi hv.1.1) (by simpa using hv.1.2) fG (hy a he) hk
theorem XQ.w1 {fuel i:Nat} {listed:Array Bool} (hr:(Region.ready .any ops listed==[i])=true) (k:Ra P N ops S z fuel listed i ρ h K):XQ P N ops S z (fuel+1) listed ρ h K:=by
 (have ny:Region.ready .any ops listed=[i]:=by simpa using hr);refine⟨fun w0 a w hs fG rn hh he hS=>⟨fun e=>(by rw[ny] at e;cases e),fun j hj=>?_⟩⟩;rw[ny,List.mem_singleton] at hj;subst hj;exact k.out w0 a w hs fG rn hh he hS
theorem XQ.w2 {fuel i j:Nat} {listed:Array Bool} (hr:(Region.ready .any ops listed==[i,j])=true) (k1:Ra P N ops S z fuel listed i ρ h K) (k2:Ra P N ops S z fuel listed j ρ h K):XQ P N ops S z (fuel+1) listed ρ h K:=by
 (have ny:Region.ready .any ops listed=[i,j]:=by simpa using hr);refine⟨fun w0 a w hs fG rn hh he hS=>⟨fun e=>(by rw[ny] at e;cases e),fun q hq=>?_⟩⟩;rw[ny] at hq;simp only[List.mem_cons,List.not_mem_nil,or_false] at hq;rcases hq with rfl|rfl
 ·exact k1.out w0 a w hs fG rn hh he hS
 ·exact k2.out w0 a w hs fG rn hh he hS
theorem Ra.wr {fuel i:Nat} {listed bc:Array Bool} {d:Option Nat} {op:Op} {ty:TypeId} {pos:String} {af:Array Edge} {g:Option (Nat×Bool)} {R:Value→Heap→Prop} {pk:List PanicEntry→Heap→Prop}
 (hi:ops[i]? =some ⟨d,op,ty,pos,af,g⟩) (hd:gu N d=true) (hg:Gd ops ρ g true) (oY:(Region.ready .any ops listed).contains i=true) (hl:listed.setIfInBounds i true=bc) (hr:Wr P ρ h op ty R pk)
 (k:∀v h',R v h'→((z.contains i=true∧kZ z ops bc=true)∨S h')∧XQ P N ops S z fuel bc (jz ρ d v) h' K) (kp:∀c h',pk c h'→K (.panic c) ρ h'):Ra P N ops S z fuel listed i ρ h K:=by
 subst hl;refine⟨fun w0 a w hs fG rn hh he hS=>?_⟩;unfold wpOp;simp only[hi,hg.wanted he,if_true];refine .inl (hr.out d pos af g a w _ _ he.eval hh (fun v w' h2 h3=>?_) (fun c w' h2 h3=>⟨rfl,rn.trans h2,ρ,trivial,kp c _ h3⟩));obtain⟨KS,hk⟩:=k v _ h3;have:=hk.out w0 (a.put d v) w' hs (fG.set (by simpa using oY)) (rn.trans h2) rfl (he.KL hd v) (KS.imp (·.2) id);rw[put_defers] at this;exact⟨KS.imp (·.1) (fun h _=>h),this⟩
theorem mM {id:Nat} (hm:P.follows .mixedOrders=true) (S:Heap→Prop) (z:List Nat) (hv:Region.noSelect ops=true) (hS:S h) (hx:XQ P N ops S z ops.size (Array.replicate ops.size false) ρ h K):X P N (.region id ops true) ρ h K:=by
 refine⟨fun w0 a w hs hh he=>?_⟩;refine wp_region_any hm (rJ (S:=fun w=>S w.heap) (z:=z) _ _ _ _ ?_);exact hx.out w0 a _ hv (fun j oj _ hl=>by simp[Array.getElem?_replicate] at hl;split at hl<;>simp at hl) (hs.trans ⟨rfl,rfl,rfl⟩) hh he (.inr hS)
end X
namespace X
variable {P:Program} {N:Nat} {ρ:Env} {σ:PH} {Γ:List HP} {K:KA} {ops:Array Oper} {da:PH} {b6:List HP} {z:List Nat}
structure cX (P:Program) (N:Nat) (ops:Array Oper) (da:PH) (b6:List HP) (z:List Nat) (fuel:Nat) (listed:Array Bool) (ρ:Env) (σ:PH) (Γ:List HP) (K:KA):Prop where
 out:∀f h,Holds σ Γ f h→(kZ z ops listed=true∨da.sub σ∧ar Γ b6)→XQ P N ops (Ho da b6) z fuel listed ρ h (KF f K)
structure ji (P:Program) (N:Nat) (ops:Array Oper) (da:PH) (b6:List HP) (z:List Nat) (fuel:Nat) (listed:Array Bool) (i:Nat) (ρ:Env) (σ:PH) (Γ:List HP) (K:KA):Prop where
 out:∀f h,Holds σ Γ f h→(kZ z ops listed=true∨da.sub σ∧ar Γ b6)→Ra P N ops (Ho da b6) z fuel listed i ρ h (KF f K)
theorem XA.mM {id:Nat} (hm:P.follows .mixedOrders=true) (da:PH) (b6:List HP) (z:List Nat) (n:Nat) (l0:Array Bool) (hn:ops.size=n) (hl0:Array.replicate n false=l0) (hv:Region.noSelect ops=true) (hS:da.sub σ) (hE:ar Γ b6) (hx:cX P N ops da b6 z n l0 ρ σ Γ K):XA P N (.region id ops true) ρ σ Γ K:=by
 subst hl0;subst hn;exact⟨fun f h hh=>X.mM hm (Ho da b6) z hv (hh.G4 ⟨hS,hE⟩) (hx.out f h hh (.inr ⟨hS,hE⟩))⟩
theorem cX.nil {fuel:Nat} {listed:Array Bool} (hr:(Region.ready .any ops listed).isEmpty=true) (hk:DA K .normal ρ σ Γ):cX P N ops da b6 z fuel listed ρ σ Γ K:=⟨fun f h hh _=>XQ.nil hr (hk.out f h hh)⟩
theorem cX.rd {fuel i d:Nat} {listed bc:Array Bool} {op:Op} {ty:TypeId} {pos:String} {af:Array Edge} {g:Option (Nat×Bool)} {v:Value} (hi:ops[i]? =some ⟨some d,op,ty,pos,af,g⟩) (hd:Nat.blt d N=true)
 (hv:(Region.free .any ops listed i&&(Region.ready .any ops listed).contains i&&wX ops z i&&!kZ z ops listed)=true) (hl:listed.setIfInBounds i true=bc) (hg:Gd ops ρ g true) (hr:Rd P ρ (Ho da b6) op ty v) (k:cX P N ops da b6 z fuel bc (dO ρ d v) σ Γ K):cX P N ops da b6 z (fuel+1) listed ρ σ Γ K:=by
 (have ix:¬kZ z ops listed=true:=by simp only[Bool.and_eq_true] at hv;simpa using hv.2);exact⟨fun f h hh hs=>XQ.V5 hi hd hv hl (fun a he=>.inl ⟨hg.wanted he,fun w' OS=>by rw[he.eval];exact hr.out _ _ _ _ w' OS⟩) (k.out f h hh (.inr (hs.resolve_left ix)))⟩
theorem cX.pu {fuel i d:Nat} {listed bc:Array Bool} {op:Op} {ty:TypeId} {pos:String} {af:Array Edge} {g:Option (Nat×Bool)} {v:Value} (hi:ops[i]? =some ⟨some d,op,ty,pos,af,g⟩) (hd:Nat.blt d N=true)
 (hv:(Region.free .any ops listed i&&(Region.ready .any ops listed).contains i&&(!kZ z ops listed||kZ z ops bc))=true) (hl:listed.setIfInBounds i true=bc) (hg:Gd ops ρ g true) (hr:Rd P ρ (fun _=>True) op ty v) (k:cX P N ops da b6 z fuel bc (dO ρ d v) σ Γ K):cX P N ops da b6 z (fuel+1) listed ρ σ Γ K:=by
 refine⟨fun f h hh hs=>XQ.pu hi hd hv hl (fun a he=>.inl ⟨hg.wanted he,fun w' _=>by rw[he.eval];exact hr.out _ _ _ _ w' trivial⟩) (k.out f h hh (hs.imp (fun hq=>?_) id))⟩;simp only[Bool.and_eq_true] at hv;have:=hv.2;rw[hq] at this;simpa using this
theorem cX.w1 {fuel i:Nat} {listed:Array Bool} (hr:(Region.ready .any ops listed==[i])=true) (k:ji P N ops da b6 z fuel listed i ρ σ Γ K):cX P N ops da b6 z (fuel+1) listed ρ σ Γ K:=by
 exact⟨fun f h hh hs=>XQ.w1 hr (k.out f h hh hs)⟩
theorem cX.w2 {fuel i j:Nat} {listed:Array Bool} (hr:(Region.ready .any ops listed==[i,j])=true) (k1:ji P N ops da b6 z fuel listed i ρ σ Γ K) (k2:ji P N ops da b6 z fuel listed j ρ σ Γ K):cX P N ops da b6 z (fuel+1) listed ρ σ Γ K:=by
 exact⟨fun f h hh hs=>XQ.w2 hr (k1.out f h hh hs) (k2.out f h hh hs)⟩
theorem ji.fw {fuel i:Nat} {listed bc:Array Bool} {d:Option Nat} {op:Op} {ty:TypeId} {pos:String} {af:Array Edge} {g:Option (Nat×Bool)} {R:Value→PH→List HP→Prop}
 (hi:ops[i]? =some ⟨d,op,ty,pos,af,g⟩) (hd:gu N d=true) (hg:Gd ops ρ g true) (oY:(Region.ready .any ops listed).contains i=true) (hl:listed.setIfInBounds i true=bc) (hr:ax P ρ σ Γ op ty R ig)
 (k:∀v aj al,R v aj al→(da.sub aj∧ar al b6)∧cX P N ops da b6 z fuel bc (jz ρ d v) aj al K):ji P N ops da b6 z fuel listed i ρ σ Γ K:=
 ⟨fun f h hh hs=>Ra.wr hi hd hg oY hl (hr.out f h hh) (fun v h' ⟨aj,al,a,b⟩=>⟨.inr (b.G4 (k v aj al a).1),(k v aj al a).2.out f h' b (.inr (k v aj al a).1)⟩) (fun c h' ⟨aj,al,a,b⟩=>a.elim)⟩
theorem ji.b7 {fuel i:Nat} {listed bc:Array Bool} {d:Option Nat} {op:Op} {ty:TypeId} {pos:String} {af:Array Edge} {g:Option (Nat×Bool)} {R:Value→PH→List HP→Prop}
 (hi:ops[i]? =some ⟨d,op,ty,pos,af,g⟩) (hd:gu N d=true) (hg:Gd ops ρ g true) (oY:(Region.ready .any ops listed).contains i=true) (hl:listed.setIfInBounds i true=bc) (he:(z.contains i&&kZ z ops bc)=true) (hr:ax P ρ σ Γ op ty R ig)
 (k:∀v aj al,R v aj al→cX P N ops da b6 z fuel bc (jz ρ d v) aj al K):ji P N ops da b6 z fuel listed i ρ σ Γ K:=by
 simp only[Bool.and_eq_true] at he;exact⟨fun f h hh hs=>Ra.wr hi hd hg oY hl (hr.out f h hh) (fun v h' ⟨aj,al,a,b⟩=>⟨.inl he,(k v aj al a).out f h' b (.inl he.2)⟩) (fun c h' ⟨aj,al,a,b⟩=>a.elim)⟩
theorem cX.re {fuel:Nat} {listed:Array Bool} {Δ:List HP} (e:Γ=Δ) (k:cX P N ops da b6 z fuel listed ρ σ Δ K):cX P N ops da b6 z fuel listed ρ σ Γ K:=e▸k
theorem XA.cut {c:Code} (M:Env→PH→List HP→Prop) (hx:XA P N c ρ σ Γ (qZ M K)) (hk:∀er aj al,M er aj al→DA K .normal er aj al):XA P N c ρ σ Γ K:=by
 refine⟨fun f h hh=>X.mono (hx.out f h hh) ?_⟩;rintro e er h' ⟨aj,al,a,b⟩
 cases e with
 |normal=>exact(hk _ _ _ a).out f h' b
 |_=>exact⟨aj,al,a,b⟩
theorem XA.join {c:Code} {τ:Type} (L:List (Nat×Nat)) (E:τ→List (Nat×Value)) (I:τ→PH→List HP→Prop) (hx:XA P N c ρ σ Γ (qZ (fun er aj al=>iy L ρ er∧∃x Δ,Bi er (E x)∧ar al Δ∧I x aj Δ) K))
 (hk:∀x δ aj Δ,I x aj Δ→DA K .normal ((E x).foldl (fun r p=>dO r p.1 p.2) (dq L ρ δ)) aj Δ):XA P N c ρ σ Γ K:=by
 refine XA.cut _ hx ?_;rintro er aj al ⟨hK,x,Δ,hM,hE,hI⟩;have:=hk x er aj Δ hI;rw[Fp hK,pE hM] at this;exact DA.eX hE this
abbrev tT:Bool:=true
abbrev fF:Bool:=false
theorem qr {fuel d:Nat} {listed:Array Bool} {op:Op} {ty:TypeId} {pos:String} {af:Array Edge} {v:Value} (i:Nat) (bc:Array Bool) (hi:ops[i]? =some ⟨some d,op,ty,pos,af,none⟩) (hr:Rd P ρ (Ho da b6) op ty v) (k:cX P N ops da b6 z fuel bc (dO ρ d v) σ Γ K) (hd:Nat.blt d N=true:=by exact rfl)
 (hv:(Region.free .any ops listed i&&(Region.ready .any ops listed).contains i&&wX ops z i&&!kZ z ops listed)=true:=by kernel_rfl) (hl:listed.setIfInBounds i true=bc:=by exact rfl):cX P N ops da b6 z (fuel+1) listed ρ σ Γ K:=cX.rd hi hd hv hl Gd.free hr k
theorem qp {fuel d:Nat} {listed:Array Bool} {op:Op} {ty:TypeId} {pos:String} {af:Array Edge} {v:Value} (i:Nat) (bc:Array Bool) (hi:ops[i]? =some ⟨some d,op,ty,pos,af,none⟩) (hr:Rd P ρ (fun _=>True) op ty v) (k:cX P N ops da b6 z fuel bc (dO ρ d v) σ Γ K) (hd:Nat.blt d N=true:=by exact rfl)
 (hv:(Region.free .any ops listed i&&(Region.ready .any ops listed).contains i&&(!kZ z ops listed||kZ z ops bc))=true:=by kernel_rfl) (hl:listed.setIfInBounds i true=bc:=by exact rfl):cX P N ops da b6 z (fuel+1) listed ρ σ Γ K:=cX.pu hi hd hv hl Gd.free hr k
theorem qw {fuel i:Nat} {listed:Array Bool} {d:Option Nat} {op:Op} {ty:TypeId} {pos:String} {af:Array Edge} {R:Value→PH→List HP→Prop} (bc:Array Bool) (hi:ops[i]? =some ⟨d,op,ty,pos,af,none⟩) (hr:ax P ρ σ Γ op ty R ig)
 (k:∀v aj al,R v aj al→(da.sub aj∧ar al b6)∧cX P N ops da b6 z fuel bc (jz ρ d v) aj al K) (hd:gu N d=true:=by exact rfl) (oY:(Region.ready .any ops listed).contains i=true:=by kernel_rfl) (hl:listed.setIfInBounds i true=bc:=by exact rfl):ji P N ops da b6 z fuel listed i ρ σ Γ K:=ji.fw hi hd Gd.free oY hl hr k
theorem qa {fuel:Nat} {listed:Array Bool} (i:Nat) (k:ji P N ops da b6 z fuel listed i ρ σ Γ K) (hr:(Region.ready .any ops listed==[i])=true:=by kernel_rfl):cX P N ops da b6 z (fuel+1) listed ρ σ Γ K:=cX.w1 hr k
theorem zu {i d:Nat} {pl:List (Nat×Kd)} {op:Op} {ty:TypeId} {pos:String} {af:Array Edge} {v:Value} (hi:ops[i]? =some ⟨some d,op,ty,pos,af,none⟩) (hd:Nat.blt d N=true) (hr:Rd P ρ (fun _=>True) op ty v) (k:aP P N ops da b6 z pl (dO ρ d v) σ Γ K):aP P N ops da b6 z ((i,.pu)::pl) ρ σ Γ K:=aP.pu hi hd Gd.free hr k
abbrev zw:=@az.fw
section
variable {all:Array Oper} {rest:List Oper} {d:Nat} {ty:TypeId} {pos:String} {af:Array Edge} {v:Value}
theorem yA {x:Operand} (k:az P N all rest (dO ρ d v) σ Γ K) (hd:Nat.blt d N=true:=by exact rfl) (hv:ev ρ x=v:=by with_reducible (conv=>lhs;whnf)):az P N all (⟨some d,.move x,ty,pos,af,none⟩::rest) ρ σ Γ K:=az.rd hd (.move hv) k
theorem yS {x:Operand} (k:az P N all rest (dO ρ d v) σ Γ K) (hd:Nat.blt d N=true:=by exact rfl) (hv:ev ρ x=v:=by with_reducible (conv=>lhs;whnf)):az P N all (⟨some d,.assign x,ty,pos,af,none⟩::rest) ρ σ Γ K:=az.rd hd (.assign hv) k
theorem yV {T:TypeId} {x:Operand} {f g o n m:Nat} {r:Ty} {fs:List (TypeId×Nat)} {ft:TypeId} {r':Ty} (k:az Tryz.prog N all rest (dO ρ d (.pointer (some ⟨g,m,none⟩))) σ Γ K) (hx:ev ρ x=.pointer (some ⟨g,o,none⟩):=by exact rfl) (hT:aX Tryz.prog T=some r:=by exact ae rfl) (hk:r.k=.struct fs:=by rfl) (hf:fs[f]? =some (ft,n):=by rfl) (ON:aX Tryz.prog ft=some r':=by exact ae rfl) (hz:Nat.beq r'.size 0=false:=by rfl)
 (ho:o+n=m:=by first|(conv=>lhs;simp only[Nat.reduceAdd,Nat.zero_add,Nat.add_zero,Nat.reduceMul,Nat.mul_one,Int.toNat_natCast,Int.reduceToNat,Nat.zero_mul])|rfl) (hd:Nat.blt d N=true:=by exact rfl):az Tryz.prog N all (⟨some d,.fieldAddr T x f,ty,pos,af,none⟩::rest) ρ σ Γ K:=az.rd hd (Rd.fA hx hT hk hf ON hz ho) k
theorem yB {T:TypeId} {x:Operand} {r:Ty} {g o:Nat} (k:az Tryz.prog N all rest (dO ρ d v) σ Γ K) (hx:ev ρ x=.pointer (some ⟨g,o,none⟩):=by exact rfl) (hT:aX Tryz.prog T=some r:=by exact ae rfl) (hk:r.k.agg=false:=by exact rfl) (hc:sQ (Ho σ Γ) g o v:=by first|(exact sQ.aw (by((repeat (first|with_reducible exact dm.head|apply dm.tail));(first|done|fail))) (by first|rfl|assumption))|(exact sQ.Fu (by first|assumption))|(exact sQ.aS (by((repeat (first|with_reducible exact dm.head|apply dm.tail));(first|done|fail))) (by first|rfl|assumption))) (hd:Nat.blt d N=true:=by exact rfl):az Tryz.prog N all (⟨some d,.load T x,ty,pos,af,none⟩::rest) ρ σ Γ K:=az.rd hd (Rd.yZ hx hT hk hc) k
theorem yE {x y:Operand} {kk:IntKind} {a b:Int} {T T':TypeId} (k:az P N all rest (dO ρ d (.bool (decide (a=b)))) σ Γ K) (hx:ev ρ x=.int kk a:=by exact rfl) (hy:ev ρ y=.int kk b:=by exact rfl) (hd:Nat.blt d N=true:=by exact rfl):az P N all (⟨some d,.binOp .eql T x y T',ty,pos,af,none⟩::rest) ρ σ Γ K:=az.rd hd (Rd.eql hx hy) k
variable {j t:Nat} {b c:Bool}
theorem gA {x:Operand} (k:az P N all rest (dO ρ d v) σ Γ K) (hj:(all[j]?).bind (·.dst)=some t:=by exact rfl) (hb:ρ t=.bool c:=by exact rfl) (hc:c=b:=by first|exact rfl|exact(by first|exact(rfl:decide _=true)|exact(rfl:decide _=false)|(refine aM ?_;assumption)|(refine aE ?_;assumption)|(refine aM ?_;omega)|(refine aE ?_;omega))) (hd:Nat.blt d N=true:=by exact rfl) (hv:ev ρ x=v:=by with_reducible (conv=>lhs;whnf)):az P N all (⟨some d,.move x,ty,pos,af,some (j,b)⟩::rest) ρ σ Γ K:=zG (yA k hd hv) hj hb hc
theorem gE {x y:Operand} {kk:IntKind} {a e:Int} {T T':TypeId} (k:az P N all rest (dO ρ d (.bool (decide (a=e)))) σ Γ K) (hj:(all[j]?).bind (·.dst)=some t:=by exact rfl) (hb:ρ t=.bool c:=by exact rfl) (hc:c=b:=by first|exact rfl|exact(by first|exact(rfl:decide _=true)|exact(rfl:decide _=false)|(refine aM ?_;assumption)|(refine aE ?_;assumption)|(refine aM ?_;omega)|(refine aE ?_;omega))) (hx:ev ρ x=.int kk a:=by exact rfl) (hy:ev ρ y=.int kk e:=by exact rfl) (hd:Nat.blt d N=true:=by exact rfl):az P N all (⟨some d,.binOp .eql T x y T',ty,pos,af,some (j,b)⟩::rest) ρ σ Γ K:=zG (yE k hx hy hd) hj hb hc
theorem gV {T:TypeId} {x:Operand} {f g o n m:Nat} {r:Ty} {fs:List (TypeId×Nat)} {ft:TypeId} {r':Ty} (k:az Tryz.prog N all rest (dO ρ d (.pointer (some ⟨g,m,none⟩))) σ Γ K) (hj:(all[j]?).bind (·.dst)=some t:=by exact rfl) (hb:ρ t=.bool c:=by exact rfl) (hc:c=b:=by first|exact rfl|exact(by first|exact(rfl:decide _=true)|exact(rfl:decide _=false)|(refine aM ?_;assumption)|(refine aE ?_;assumption)|(refine aM ?_;omega)|(refine aE ?_;omega))) (hx:ev ρ x=.pointer (some ⟨g,o,none⟩):=by exact rfl) (hT:aX Tryz.prog T=some r:=by exact ae rfl) (hk:r.k=.struct fs:=by rfl) (hf:fs[f]? =some (ft,n):=by rfl) (ON:aX Tryz.prog ft=some r':=by exact ae rfl) (hz:Nat.beq r'.size 0=false:=by rfl)
 (ho:o+n=m:=by first|(conv=>lhs;simp only[Nat.reduceAdd,Nat.zero_add,Nat.add_zero,Nat.reduceMul,Nat.mul_one,Int.toNat_natCast,Int.reduceToNat,Nat.zero_mul])|rfl) (hd:Nat.blt d N=true:=by exact rfl):az Tryz.prog N all (⟨some d,.fieldAddr T x f,ty,pos,af,some (j,b)⟩::rest) ρ σ Γ K:=zG (yV k hx hT hk hf ON hz ho hd) hj hb hc
theorem gB {T:TypeId} {x:Operand} {r:Ty} {g o:Nat} (k:az Tryz.prog N all rest (dO ρ d v) σ Γ K) (hj:(all[j]?).bind (·.dst)=some t:=by exact rfl) (hb:ρ t=.bool c:=by exact rfl) (he:c=b:=by first|exact rfl|exact(by first|exact(rfl:decide _=true)|exact(rfl:decide _=false)|(refine aM ?_;assumption)|(refine aE ?_;assumption)|(refine aM ?_;omega)|(refine aE ?_;omega))) (hx:ev ρ x=.pointer (some ⟨g,o,none⟩):=by exact rfl) (hT:aX Tryz.prog T=some r:=by exact ae rfl) (hk:r.k.agg=false:=by exact rfl) (hc:sQ (Ho σ Γ) g o v:=by first|(exact sQ.aw (by((repeat (first|with_reducible exact dm.head|apply dm.tail));(first|done|fail))) (by first|rfl|assumption))|(exact sQ.Fu (by first|assumption))|(exact sQ.aS (by((repeat (first|with_reducible exact dm.head|apply dm.tail));(first|done|fail))) (by first|rfl|assumption))) (hd:Nat.blt d N=true:=by exact rfl):az Tryz.prog N all (⟨some d,.load T x,ty,pos,af,some (j,b)⟩::rest) ρ σ Γ K:=zG (yB k hx hT hk hc hd) hj hb he
end
theorem yC {all:Array Oper} {rest:List Oper} {d:Option Nat} {ty:TypeId} {pos:String} {af:Array Edge} {f:FuncId} {args:List Operand} {mE:Array TypeId} {vs:List Value} {v:Value} {b6 G Δ Ω:List HP} (hc:ah P f vs.toArray σ b6 (aA fun u aj al=>u=v∧σ=aj∧al=G)) (k:az P N all rest (jz ρ d v) σ Ω K) (hv:args.map (ev ρ)=vs:=by exact rfl)
 (he:ar Γ (b6++Δ):=by(repeat (first|exact ar.all _|(apply ar.take;focus (first|((repeat (first|with_reducible exact dm.head|apply dm.tail));done)|((repeat (first|exact dm.head|apply dm.tail));done)))|apply ar.od|apply ar.qy));(first|done|fail)) (ho:G++Δ=Ω:=by conv=>lhs;dsimp only[List.cons_append,List.nil_append]) (hd:gu N d=true:=by exact rfl):az P N all (⟨d,.call {callee:=.value (.func f),args:=args.toArray,argTypes:=mE},ty,pos,af,none⟩::rest) ρ σ Γ K:=
 az.fw hd (ax.cE hc hv he) (fun u aj al h=>by obtain⟨cr,⟨rfl,rfl,rfl⟩,rfl⟩:=h;exact ho▸k)
abbrev yF:=@XA.aI
abbrev yT:=@XA.aY
end X
namespace X
open Go
theorem Wr.og {P:Program} {ρ:Env} {h:Heap} {T e:TypeId} {x y:Operand} {ty:TypeId} {r re:Ty} {n m c g o:Nat} {p0:Option Addr} {xs news:List Value} (hT:aX P T=some r) (hk:r.k=.slice e) (hE:aX P e=some re) (hz:re.zero.length=re.size)
 (hx:∀j u,xs[j]? =some u→∃g0 o0,p0=some ⟨g0,o0,none⟩∧Ks h g0 (o0+j) u) (hp:p0=none→n=0) (O6:xs.length=n*re.size) (hs:ev ρ x=.slice p0 n n) (bG:Row h g o news) (hy:ev ρ y=.slice (some ⟨g,o,none⟩) m c) (hl:news.length=m*re.size) (h1:dT news) (hm:0<m) (ze:n+m≤maxLen) (hb:(n+m)*re.bytes≤140737488355328):
 Wr P ρ h (.call {callee:=.builtin .append,args:=#[x,y],argTypes:=#[T,T]}) ty (fun v' h'=>zd h' e re.size v' (n+m) (xs++news) (fun k=>h.size≤k)∧Fs h h' none) qY:=by
 cases p0 with
 |none=>
  have:=hp rfl;subst this;have Rb:xs=[]:=List.eq_nil_of_length_eq_zero (by simpa using O6);subst Rb;refine⟨fun d pos af gd a w next Q he hw hn Sv=>?_⟩;refine(Wr.append (F:=fun _=>False) hT hk hE hz (zd.nil _ _ _ _) hs bG hy hl h1 hm ze hb).out d pos af gd a w next Q he hw (fun v' w' s q=>hn v' w' s ⟨q.1.V7 (fun g _ hg=>hg.elim (fun z=>z.elim) id),q.2.1⟩) (fun _ _ _ q=>q.elim)
 |some a0=>
  (refine Wr.run fun d pos af gd w hw=>?_);obtain⟨dd,i,z,e1,e2,-⟩:=aF hT;obtain⟨wW,i',z',sA,rI,mH,oa,Fo,Bh,E4⟩:=aF hE;rw[hk] at e2;(cases dd<;>simp[kindOf] at e2);rw[e2] at e1;clear e2;(have eL:∀j u,news[j]? =some u→w.cell? ((⟨g,o,none⟩:Addr).add j)=some u:=fun j u hu=>by rw[addr_add];exact(bG.Sk hu).cell hw);(have za:z'.cells.size=re.size:=by rw[←Array.length_toList,E4,hz]);(have Ss:n+m≤9223372036854775807:=by simp only[maxLen] at ze;omega);(have hlen:(xs++news).length=(n+m)*re.size:=by rw[bq,O6,hl,Nat.add_mul]);have ux:news.length=m*i'.size:=by rw[oa];exact hl
  have rq:∀v' w',(Builtin.append_ #[T,T] ty #[.slice (some a0) n n,.slice (some ⟨g,o,none⟩) m c]).run P w=.ok v' w'→(execOp (ev ρ) ⟨d,.call {callee:=.builtin .append,args:=#[x,y],argTypes:=#[T,T]},ty,pos,af,gd⟩).run P w=.ok (.value v') w':=fun v' w' hr=>by
   simp only[execOp,resolve,invoke,builtin,Sem.run_bind,Sem.run_pure,Result.andThen_ok,List.map_toArray,List.map_cons,List.map_nil,hs,hy,hr]
  have holds:∀j u,xs[j]? =some u→w.cell? (a0.add j)=some u:=fun j u hu=>by
   obtain⟨g0,o0,e0,hc⟩:=hx j u hu;simp only[Option.some.injEq] at e0;rw[e0,addr_add];exact hc.cell hw
  have hr:=run_append_grow (P:=P) w T ty e i' z' e1 mH Bh a0 n n xs (by rw[oa];exact O6) holds ⟨g,o,none⟩ m c news ux eL (by omega) (by omega) (growslice_fits (by omega) (by rw[Fo];exact hb));have Fj:=grownCap_ge w (n+m) n e;have vy:grownCap w (n+m) n e≤maxLen:=grownCap_le_maxLen w (n+m) n e ze;refine⟨_,_,rq _ _ hr,⟨rfl,rfl,rfl⟩,⟨hlen,.inr ⟨w.heap.size,_,(xs.toArray++news.toArray++Builtin.zeroCells z'.cells (grownCap w (n+m) n e-(n+m))).toList,rfl,by rw[←hw];exact bX _,?_,Fj,vy,?_,?_⟩⟩,⟨by rw[←hw];simp[World.alloc],fun k hk _=>by rw[←hw] at hk⊢;exact lg hk⟩⟩
  ·exact⟨by rw[Array.toArray_toList];exact lh rfl⟩
  ·simp only[Array.length_toList,Array.size_append,List.size_toArray,size_zeroCells,za,O6,hl,←Nat.add_mul];apply Nat.mul_le_mul_right;omega
  ·simp only[Array.toList_append,List.append_assoc];rw[←List.append_assoc,←hlen];exact List.take_left
theorem G5 {e size n c:Nat} {p:Option Addr} {xs:List Value}:∀m,aS e size (.slice p n c) n xs m→n≤c∧c≤maxLen∧(p=none→n=0):=by
 rintro m ⟨h1,⟨h2,rfl⟩|⟨g,cap,h2,cur,h3,h4,h5,h6,h7⟩⟩
 ·exact⟨cg _,by simp only[Value.slice.injEq] at h2;rw[h2.2.2];exact cg _,fun _=>rfl⟩
 ·simp only[Value.slice.injEq] at h2;obtain⟨rfl,-,rfl⟩:=h2;exact⟨h4,h5,fun e=>by cases e⟩
section
variable {P:Program} {ρ:Env} {S:Heap→Prop} {ty:TypeId}
theorem Rd.sS {T:TypeId} {x y:Operand} {r re:Ty} {e len cap:Nat} {a:Option Addr} {i:Nat} {kk:IntKind} (hT:aX P T=some r) (hk:r.k=.slice e) (hE:aX P e=some re) (hx:ev ρ x=.slice a len cap) (hy:ev ρ y=.int kk i) (hi:i≤cap):Rd P ρ S (.slice T x none (some y) none) ty (.slice a i cap):=by
 have:=Rd.sliceTo (P:=P) (S:=S) (ty:=ty) hT hk hE hx hy ⟨by omega,by omega⟩;simpa using this
end
end X
namespace X
open Go
variable {P:Program} {N:Nat} {ρ:Env} {σ:PH} {Γ:List HP} {K:KA}
theorem xg {o:Oper} {a:Act} {next next':Act→World→Prop} {Q Q':Exit→Act→World→Prop} (hn:∀a w,next a w→next' a w) (hp:∀c a w,Q (.panic c) a w→Q' (.panic c) a w) (ho:LetsOut Q→LetsOut Q'):∀{r:Result Next},o.upon P a next Q r→o.upon P a next' Q' r:=by
 intro r h;unfold Oper.upon at h⊢;split at h
 ·exact hn _ _ h
 ·exact hn _ _ h
 ·exact hn _ _ h
 ·refine Calls.mono h ?_;rintro e w' he
  cases e with
  |returned v=>exact hn _ _ he
  |panicked c=>exact hp _ _ _ he
  |outgrown=>exact ho he
 ·exact Rows.mono h (fun v w' hv=>hn _ _ hv)
 ·exact hp _ _ _ h
 ·exact h.elim
theorem XO.append {all:Array Oper} {l2:List Oper} {l1:List Oper} {h:Heap} {K:lP} (hx:XO P N all l1 ρ h (G0 (fun ρ h=>XO P N all l2 ρ h K) K)):XO P N all (l1++l2) ρ h K:=by
 refine⟨fun w0 a w hs hh he=>?_⟩;have h0:=hx.out w0 a w hs hh he
 have key:∀(l1:List Oper) (a1:Act) (w1:World),wpList P all (ph w0 a.defers N (G0 (fun ρ h=>XO P N all l2 ρ h K) K)) l1 a1 w1→wpList P all (ph w0 a.defers N K) (l1++l2) a1 w1:=by
  intro l1
  induction l1 with
  |nil=>
   intro a1 w1 h1;obtain⟨e1,e2,er,e3,e4⟩:ph w0 a.defers N (G0 (fun ρ h=>XO P N all l2 ρ h K) K) .normal a1 w1:=h1;have h2:XO P N all l2 er w1.heap K:=e4;have:=h2.out w0 a1 w1 e2 rfl e3;rw[e1] at this;exact this
  |cons o l ih=>
   intro a1 w1 h1;simp only[List.cons_append];unfold wpList at h1⊢;split
   ·rename_i hw;rw[aq hw] at h1;(have ho:LetsOut (ph w0 a.defers N (G0 (fun ρ h=>XO P N all l2 ρ h K) K))→LetsOut (ph w0 a.defers N K):=fun⟨a2,w2,q⟩=>⟨a2,w2,q⟩);refine h1.imp (fun hq=>xg (fun a' w'=>ih a' w') (fun c a' w' q=>q) ho hq) (fun hq=>⟨hq.1,ho hq.2⟩)
   ·rename_i hw;rw[ag hw] at h1;exact ih _ _ h1
 exact key l1 a w h0
theorem az.join {all:Array Oper} {l l1 l2:List Oper} {τ:Type} (hl:l=l1++l2) (L:List (Nat×Nat)) (E:τ→List (Nat×Value)) (I:τ→PH→List HP→Prop)
 (hx:az P N all l1 ρ σ Γ (qZ (fun er aj al=>iy L ρ er∧∃x Δ,Bi er (E x)∧ar al Δ∧I x aj Δ) K))
 (hk:∀x δ aj Δ,I x aj Δ→az P N all l2 ((E x).foldl (fun r p=>dO r p.1 p.2) (dq L ρ δ)) aj Δ K):az P N all l ρ σ Γ K:=by
 subst hl;refine⟨fun f h hh=>XO.append ?_⟩;have h0:=hx.out f h hh;refine⟨fun w0 a w hs hw he=>?_⟩;have h1:=h0.out w0 a w hs hw he
 have key:∀(l:List Oper) (a1:Act) (w1:World),wpList P all (ph w0 a.defers N (KF f (qZ (fun er aj al=>iy L ρ er∧∃x Δ,Bi er (E x)∧ar al Δ∧I x aj Δ) K))) l a1 w1→wpList P all (ph w0 a.defers N (G0 (fun ρ h=>XO P N all l2 ρ h (KF f K)) (KF f K))) l a1 w1:=by
  intro l
  induction l with
  |nil=>
   rintro a1 w1 ⟨e1,e2,er,e3,aj,al,⟨k1,x,Δ,k2,k3,k4⟩,e5⟩;refine⟨e1,e2,er,e3,?_⟩;have:=(hk x er aj Δ k4).out f w1.heap (e5.eX k3);rw[Fp k1,pE k2] at this;exact this
  |cons o l ih=>
   intro a1 w1 h1;unfold wpList at h1⊢;(have ho:LetsOut (ph w0 a.defers N (KF f (qZ (fun er aj al=>iy L ρ er∧∃x Δ,Bi er (E x)∧ar al Δ∧I x aj Δ) K)))→LetsOut (ph w0 a.defers N (G0 (fun ρ h=>XO P N all l2 ρ h (KF f K)) (KF f K))):=fun⟨a2,w2,q⟩=>⟨a2,w2,q⟩);split
   ·rename_i hw;rw[aq hw] at h1;exact h1.imp (fun hq=>xg (fun a' w'=>ih a' w') (fun c a' w' q=>q) ho hq) (fun hq=>⟨hq.1,ho hq.2⟩)
   ·rename_i hw;rw[ag hw] at h1;exact ih _ _ h1
 exact key l1 a w h1
end X
end Go.Proofs.YtgeoiflbjcehcaaGreatDoor
namespace Go.Proofs.YtgeoiflbjcehcaaGreatDoor
open Go X Go.ChangeShapes Go.WideShapes Go.ChangeAt Go.RowKit
variable {H:Type} {enc:TypeId×Value→H} {P:Program}
theorem C1 (hl:laidOutB P=true) {W W':World} (hb:Below W.heap.size W W'):∀(ts:List TypeId) {vs:List Value} {ds:List (DataW H)} {ps:List MemPlace},(∀t∈ts,P.readableRec t=true∧t<P.types.size)→
 DataW.TrodAll enc P W 0 (fun _=>true) true ts vs ds ps→(∀p∈ps,p.block<W.heap.size)→DataW.TrodAll enc P W' 0 (fun b=>decide (b<W.heap.size)) true ts vs ds ps
 |[],_,_,_,_,h,_=>by
  obtain⟨rfl,rfl,rfl⟩:=trodAll_nil h;exact trodAll_mk0
 |t::ts,_,_,_,ht,h,hp=>by
  obtain⟨v,Vn,d,ds',p,q,rfl,rfl,rfl,h1,h2⟩:=trodAll_cons h;have WW:=ht t (by simp);exact⟨p,q,Below.trod hl WW.1 WW.2 h1 hb (fun x hx=>hp x (by simp[hx])),C1 hl hb ts (fun t' ht'=>ht t' (by simp[ht'])) h2 (fun x hx=>hp x (by simp[hx])),rfl⟩
theorem K9 {W W':World} (hs:gC W W') (hx:Ext W.heap W'.heap):Below W.heap.size W W':=⟨hs.os,hs.tape,hs.output,hx.size,hx.get⟩
theorem Ja {fid:FuncId} {f:Func} {s:ChangeSpec} {W:World} {args:Array Value} {ds gs:List (DataW H)} {before:List MemPlace} {tb:TypeId} (hl:laidOutB P=true)
 (pq:(f.params.toList.all fun t=>P.readableRec t&&decide (t<P.types.size))=true) (hv:s.vars=[]) (hrt:f.resultTypes=#[tb]) (hub:P.underlying tb=some .bool) (SB:s.fn H (ds++gs)={results:=[.lit (.bool true)],args:=ds})
 (hW:DataW.Whole enc P f.params.toList s.vars false W args.toList ds gs before) (hc:js P fid args W.heap (Ret fun v h'=>v=.bool true∧Ext W.heap h')):
 Calls P fid args W fun e W'=>∃v,e=.returned v∧s.post enc P f false true false false W args v W':=by
 refine(hc.2 W rfl).mono ?_;rintro e W' ⟨hs,hr⟩
 cases e with
 |returned v=>
  obtain⟨rfl,hx⟩:=hr;have hb:=K9 hs hx;have aV:=hW.lt;have hW0:=hW;obtain⟨p,q,hA,hV,rfl,-,-⟩:=hW;rw[hv] at hV;obtain⟨rfl,rfl⟩:=trodVars_none hV;refine⟨_,rfl,ds,[],p++[],[],p,[],hW0,?_,?_,?_,hb.frame _,fun e=>by cases e⟩
  ·rw[SB,hrt];exact trodAll_mk1 (shut_bool hub true)
  ·rw[SB];refine C1 hl hb _ ?_ hA (fun x hx=>aV x (by simp[hx]));intro t ht;have:=List.all_eq_true.1 pq t ht;simpa using this
  ·rw[SB,hv];rfl
 |panicked c=>exact hr.elim
 |outgrown=>exact hr.elim
end Go.Proofs.YtgeoiflbjcehcaaGreatDoor
