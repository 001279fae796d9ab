import Derived.Test.YtgeoiflbjcehcaaGreatDoorDj20
set_option maxHeartbeats 4000000
set_option maxRecDepth 2000
set_option linter.unusedVariables false
set_option linter.unusedSimpArgs false
namespace Go.Proofs.YtgeoiflbjcehcaaGreatDoor
open Go X
section
variable {P:Program} {ρ:Env} {h:Heap} {ty:TypeId} {σ:PH} {Γ:List HP}
theorem Wr.GV {T e m:Nat} {x y:Operand} {kx ky:IntKind} {r re:Ty} (hT:av P T=some r) (hk:r.k=.slice e) (hE:av P e=some re) (hx:ev ρ x=.int kx 0) (hy:ev ρ y=.int ky 0) (hn:h.size=m):
 Wr P ρ h (.makeSlice T x y) ty (fun v' h'=>v'=.slice (some ⟨m,0,none⟩) 0 0∧h'=h.push (.cells ([]:List Value).toArray e (0,0))) X.mI:=by
 subst hn;(refine Wr.run fun d pos af gd w hw=>?_);obtain⟨dd,i,z,e1,e2,-⟩:=aD hT;obtain⟨tO,i',z',rN,qI,jz,kA,z8,vk,zf⟩:=aD hE;rw[hk] at e2;(cases dd<;>simp[kindOf] at e2);rw[e2] at e1;clear e2;have YT:IntKind.i64.wrap 0=0:=rfl;(have n4:¬(0*re.bytes>roomBytes):=by simp);refine⟨_,w.alloc (.cells ([]:List Value).toArray e (0,0)),?_,⟨rfl,rfl,rfl⟩,rfl,by rw[←hw];rfl⟩;simp only[execOp,Instr.makeSlice,Sem.run_bind,run_underlying e1,Result.andThen_ok,sizeOf,typeInfo,run_program,jz,kA,z8,Sem.run_pure,zeroValue,vk,hx,hy,asInt,asIntOf,Result.andThen_ok,YT];rw[if_neg (by simp)];simp[askRoom,newRow,hw,sizeOf,typeInfo,jz];congr 2;apply Array.ext';simp
theorem X.aC.YU {T e n:Nat} {x y:Operand} {kx ky:IntKind} {r re:Ty} {zs:List Value} (hT:av P T=some r) (hk:r.k=.slice e) (hE:av P e=some re) (hx:ev ρ x=.int kx n) (hy:ev ρ y=.int ky n) (hz:re.zero.length=re.size) (bQ:re.size=1) (hb:re.bytes*n≤16777216) (hs:n≤16777216)
 (vm:((List.range (n*re.size)).map fun k=>re.zero.getD (k%re.size) undef)=zs):aC P ρ σ Γ (.makeSlice T x y) ty (fun v' ag ah=>∃g,v'=.slice (some ⟨g,0,none⟩) n n∧σ=ag∧ah=au g zs e::Γ) fw:=by
 cases n with
 |zero=>
  (have Qt:zs=[]:=by rw[←vm];simp);subst Qt;exact Wr.H0 (Q:=fun h v h'=>v=.slice (some ⟨h.size,0,none⟩) 0 0∧h'=h.push (cellsOf ([]:List Value) e)) (fun _ _=>Wr.GV hT hk hE hx hy rfl) fun f h v h' hh ⟨e1,e2⟩=>⟨σ,_,⟨h.size,e1,rfl,rfl⟩,e2▸hh.alloc _ _⟩
 |succ n=>exact X.aC.mkS hT hk hE hx hy hz hb hs (by rw[bQ];omega) vm
end
theorem nE (n:Nat) {z:List Value} (hz:z=[i64 0]):((List.range (n*1)).map fun k=>z.getD (k%1) undef)=ints (List.replicate n 0):=by
 subst hz;rw[ints,Nat.mul_one]
 induction n with
 |zero=>rfl
 |succ n ih=>rw[List.range_succ,List.map_append,ih,List.replicate_succ'];simp[Nat.mod_one]
theorem D9:(Tryz.prog.info? 173).bind (·.zero)=some (.int .i64 0):=by kernel_rfl
theorem GX:∃ms,Tryz.prog.underlying 20=some (.interface ms):=⟨#[],by kernel_rfl⟩
section
variable (σ:PH) (g10 g5 g6 g7 gr gc nc:Nat) (v0 v1 vi:Value) (po:Option Addr) (no co fuel left:Nat) (hf:fuel≤3000) (hs:left≤fuel) (r0 r1:List Value) (xT:r0.length=3) (zi:r1.length=1)
include hf hs xT zi
theorem Ln:
 bU Tryz.prog 110 #[ptr g10,ptr g5,ptr g6,ptr g7] .returning σ [au g10 [ptr gr] 170,au g5 [i64 fuel] 3,au g6 r0 75,au g7 r1 3,au gr [v0,v1,.slice (some ⟨gc,0,none⟩) nc nc,vi,.slice po no co,i64 left] 172]
  (fun u' ag ah=>settle u'=.returning∧σ=ag∧ah=[au g6 [i64 0,.slice po no co,.slice (some ⟨gc,0,none⟩) nc nc] 75,au g7 [i64 ((fuel:Int)-left)] 3]):=by
 obtain⟨ms,YV⟩:=GX;refine bU.uA Tryz.func110 rfl rfl rfl rfl ?_;dsimp only[recv];have fR:aJ r0 0 [i64 0,.slice po no co,.slice (some ⟨gc,0,none⟩) nc nc]=[i64 0,.slice po no co,.slice (some ⟨gc,0,none⟩) nc nc]:=eZ xT;have n6:aJ r1 0 [i64 ((fuel:Int)-left)]=[i64 ((fuel:Int)-left)]:=eZ zi;(have ey:0+xk.size≤r0.length:=by rw[xT];exact Nat.le_refl _);(have lH:∀_:Unit,0+HZ.size≤r1.length:=fun _=>by rw[zi];exact Nat.le_refl _);refine bq ?_;refine zO rfl (Rd.Av (ad rfl) rfl D9 rfl) ?_;refine cg ?_;refine zO rfl (Rd.sw YV rfl) ?_;refine aO ?_;refine bq ?_;refine fZ 18 349399821 [16,17] (aw.bP (R:=au g10 _ _) zL (aw.bP (R:=au g5 _ _) zL (aw.bP (R:=au gr _ _) zL (aw.nil _)))) ?_;refine ic ?_;refine aK.bj rfl rfl Gd.free (by kernel_rfl) (aC.st (ad rfl) rfl) ?_;rintro _ _ _ ⟨rfl,rfl,rfl⟩;refine aK.bj rfl rfl Gd.free (by kernel_rfl) (aC.st (ad rfl) rfl) ?_;rintro _ _ _ ⟨rfl,rfl,rfl⟩;refine b3 ?_;exact fU rfl ⟨rfl,rfl,rfl⟩
theorem CL (c:Int):
 bU Tryz.prog 110 #[ptr g10,ptr g5,ptr g6,ptr g7] (.panicking (oP c)) σ [au g10 [ptr gr] 170,au g5 [i64 fuel] 3,au g6 r0 75,au g7 r1 3,au gr [v0,v1,.slice (some ⟨gc,0,none⟩) nc nc,vi,.slice po no co,i64 left] 172]
  (fun u' ag ah=>settle u'=.returning∧σ=ag∧ah=[au g6 [i64 c,.slice po no co,.slice (some ⟨gc,0,none⟩) nc nc] 75,au g7 [i64 ((fuel:Int)-left)] 3]):=by
 obtain⟨ms,YV⟩:=GX;refine bU.uA Tryz.func110 rfl rfl rfl rfl ?_;dsimp only[recv,oP];have fR:aJ r0 0 [i64 c,.slice po no co,.slice (some ⟨gc,0,none⟩) nc nc]=[i64 c,.slice po no co,.slice (some ⟨gc,0,none⟩) nc nc]:=eZ xT;have n6:aJ r1 0 [i64 ((fuel:Int)-left)]=[i64 ((fuel:Int)-left)]:=eZ zi;(have ey:0+xk.size≤r0.length:=by rw[xT];exact Nat.le_refl _);(have lH:∀_:Unit,0+HZ.size≤r1.length:=fun _=>by rw[zi];exact Nat.le_refl _);refine bq ?_;refine zO rfl (Rd.KD (ad rfl) rfl rfl) ?_;refine cg ?_;refine zO rfl (Rd.sv YV rfl) ?_;refine aO ?_;refine bq ?_;refine fZ 18 349399821 [16,17] (aw.bP (R:=au g10 _ _) zL (aw.bP (R:=au g5 _ _) zL (aw.bP (R:=au gr _ _) zL (aw.nil _)))) ?_;refine ic ?_;refine aK.bj rfl rfl Gd.free (by kernel_rfl) (aC.st (ad rfl) rfl) ?_;rintro _ _ _ ⟨rfl,rfl,rfl⟩;refine aK.bj rfl rfl Gd.free (by kernel_rfl) (aC.st (ad rfl) rfl) ?_;rintro _ _ _ ⟨rfl,rfl,rfl⟩;refine b3 ?_;exact fU rfl ⟨rfl,rfl,rfl⟩
end
theorem aG.Vo {P:Program} {ρ:Env} {σ:PH} {Γ:List HP} {fn:Func} {t1 t2 t3:Tmp} {T1 T2:TypeId} {g1 o1 g2 o2:Nat} {v1 v2 v3:Value} (hf:fn.results=#[.cell t1 T1,.cell t2 T2,.tmp t3]) (h1:ρ t1=.pointer (some ⟨g1,o1,none⟩)) (h2:ρ t2=.pointer (some ⟨g2,o2,none⟩)) (h3:ρ t3=v3)
 (l1:∀h,Ho σ Γ h→Ld P h T1 g1 o1 v1) (l2:∀h,Ho σ Γ h→Ld P h T2 g2 o2 v2):aG P fn ρ σ Γ (.tuple #[v1,v2,v3]):=fun h hh w a hw he=>by
 have e1:=he.get t1;rw[h1] at e1;simp at e1;have e2:=he.get t2;rw[h2] at e2;simp at e2;have e3:=he.get t3;rw[h3] at e3;simp at e3;simp[results,hf,e1,e2,e3,asAddr,l1 h hh w hw,l2 h hh w hw]
def CM (σ:PH) (p:Pr) (inp:List Int) (fuel:Int):Value→PH→List HP→Prop:=fun v ag ah=>σ.sub ag∧ah=[]∧if bR p≠0 then v=.tuple #[.agg #[i64 0,.slice none 0 0,.slice none 0 0],i64 0,i64 (bR p)]
 else if 40<inp.length∨fuel<0∨3000<fuel then v=.tuple #[.agg #[i64 0,.slice none 0 0,.slice none 0 0],i64 0,i64 1]
 else ∃(c:Int) (s:RS) (vo vc:Value),oS p inp fuel.toNat c s∧v=.tuple #[.agg #[i64 c,vo,vc],i64 (fuel-s.left),i64 0]∧aV ag vo s.out∧aV ag vc s.cells∧s.left≤fuel.toNat
theorem bU.conv {P:Program} {f:FuncId} {vs:Array Value} {u:FrameMode} {σ:PH} {Γ bp Δ:List HP} {R R':FrameMode→PH→List HP→Prop} (hc:bU P f vs u σ bp R) (he:aw Γ (bp++Δ))
 (k:∀u' ag ah fr h,R u' ag ah→Holds ag (ah++Δ) fr h→∃dq ot,R' u' dq ot∧Holds dq ot fr h):bU P f vs u σ Γ R':=fun fr h hh w hw=>by
 obtain⟨f',a,b⟩:=(hh.eS he).aside;refine(hc f' h a w hw).mono ?_;rintro e u' w' ⟨h1,h2,ag,ah,h3,h4⟩;obtain⟨dq,ot,h5,h6⟩:=k u' ag ah fr w'.heap h3 (b _ _ _ h4);exact⟨h1,h2,dq,ot,h5,h6⟩
theorem wc (σ bV:PH) (p:Pr) (inp:List Int) (fn:Func) (Qm:fn.results=#[.cell 6 75,.cell 7 3,.tmp 8]) (ρ:Env) (Γ:List HP) (g10 g5 g6 g7 gr gc nc:Nat) (v0 v1 vi:Value) (po:Option Addr) (co fuel left:Nat) (cells out Ic:List Int) (c:Int) (u:FrameMode) (r0 r1:List Value)
 (Dg:bV.sub σ) (h6:ρ 6=ptr g6) (h7:ρ 7=ptr g7) (h8:ρ 8=i64 0) (wR:bR p=0) (hi:inp.length≤40) (hf:fuel≤3000) (hl:left≤fuel) (dY:cells.length=nc) (ES:nc≤48) (eH:oS p inp fuel c ⟨cells,Ic,out,left⟩)
 (KE:bU Tryz.prog 110 #[ptr g10,ptr g5,ptr g6,ptr g7] u σ [au g10 [ptr gr] 170,au g5 [i64 fuel] 3,au g6 r0 75,au g7 r1 3,au gr [v0,v1,.slice (some ⟨gc,0,none⟩) nc nc,vi,.slice po out.length co,i64 left] 172]
  (fun u' ag ah=>settle u'=.returning∧σ=ag∧ah=[au g6 [i64 c,.slice po out.length co,.slice (some ⟨gc,0,none⟩) nc nc] 75,au g7 [i64 ((fuel:Int)-left)] 3]))
 (hΓ:aw Γ ([au g10 [ptr gr] 170,au g5 [i64 fuel] 3,au g6 r0 75,au g7 r1 3,au gr [v0,v1,.slice (some ⟨gc,0,none⟩) nc nc,vi,.slice po out.length co,i64 left] 172]++[au gc (ints cells) 2,bn 2 1 (.slice po out.length co) out.length (ints out)])):
 bU Tryz.prog 110 #[ptr g10,ptr g5,ptr g6,ptr g7] u σ Γ (fun u' ag ah=>settle u'=.returning∧∃v,aG Tryz.prog fn ρ ag ah v∧∃Δ,aw ah Δ∧aE (CM bV p inp fuel) (.returned v) ag Δ):=by
 (refine bU.conv KE hΓ ?_);rintro u' ag ah fr h ⟨hu,rfl,rfl⟩ hh;simp only[List.cons_append,List.nil_append] at hh;obtain⟨dq,⟨⟩,hz,bT,hh2⟩:=eN (R:=au gc (ints cells) 2) hh zL vw kD;obtain⟨lB,⟨⟩,hy,fc,hh3⟩:=eN (R:=bn 2 1 (.slice po out.length co) _ _) hh2 zL dp aU;refine⟨lB,_,⟨hu,_,aG.Vo Qm h6 h7 h8 (Ld.bN (ad rfl) rfl zL rfl (by first|exact bJ (by first|rfl|assumption|(refine(aj _).trans ?_;assumption)|(simp[*];(first|done|fail)))|assumption|exact aI (by first|rfl|assumption|(refine(aj _).trans ?_;assumption)|(simp[*];(first|done|fail)))|(conv=>lhs;simp only[List.drop_succ_cons,List.drop_zero,List.take_succ_cons,List.take_zero])) (by first|rfl|assumption|(refine(aj _).trans ?_;assumption)|(simp[*];(first|done|fail)))) (Ld.SA (ad rfl) rfl (by first|(exact j3.au zL (by first|rfl|assumption))|(exact j3.wN (by first|assumption))|(exact j3.bn zL (by first|rfl|assumption)))),[],aw.nil _,(Dg.trans bT).trans fc,rfl,?_⟩,hh3⟩;rw[if_neg (fun h=>h wR),if_neg (by omega)];refine⟨c,⟨cells,Ic,out,left⟩,_,_,eH,rfl,⟨po,co,rfl,hy.1,hy.2.1,?_⟩,⟨some ⟨gc,0,none⟩,nc,by simp[dY],by simp[dY],by simp only[maxLen];omega,fun _=>⟨gc,0,rfl,hz.mono fc⟩⟩,hl⟩;intro h0;exact hy.2.2.2 h0
theorem Oz (σ:PH) (cs:List Value) (p:Pr) (iv:Value) (inp:List Int) (fuel:Int) (hp:fY σ cs p) (hi:aV σ iv inp):
 ae Tryz.prog 68 #[.agg cs.toArray,iv,i64 fuel] σ [] (aE (CM σ p inp fuel)):=by
 have oq:=hp;obtain⟨vs,bs,rfl,hv,hb⟩:=hp;obtain⟨pv,cv,rfl,kK,KC⟩:=hv.shape;obtain⟨pi,ci,rfl,rf,B7⟩:=hi.shape;simp only[maxLen] at B7;have fR:aJ xk.zero 0 [i64 0,.slice none 0 0,.slice none 0 0]=[i64 0,.slice none 0 0,.slice none 0 0]:=rfl;have ey:0+xk.size≤xk.zero.length:=Nat.le_refl _;by_cases hc:bR p≠0
 ·refine ox Tryz.func68 rfl rfl rfl ?_;(refine nT.seq ?_;refine b3 ?_;refine cN fun g3=>?_;refine cN fun g5=>?_);refine cR (fun g6=>?_) (ad rfl);refine cR (fun g7=>?_) (ad rfl);refine bq ?_;refine nT.seq ?_;refine bq ?_;refine zw rfl (aC.cE (kJ σ _ p oq) rfl) ?_;rintro _ _ _ ⟨_,⟨rfl,rfl,rfl⟩,rfl⟩;refine az.cl ?_;refine a8 ?_;refine XA.bG rfl (decide_eq_true hc) ?_;refine cg ?_;exact ao.ret (aG.Vo rfl rfl rfl rfl (Ld.bN (ad rfl) rfl zL rfl (by first|exact bJ (by first|rfl|assumption|(refine(aj _).trans ?_;assumption)|(simp[*];(first|done|fail)))|assumption|exact aI (by first|rfl|assumption|(refine(aj _).trans ?_;assumption)|(simp[*];(first|done|fail)))|(conv=>lhs;simp only[List.drop_succ_cons,List.drop_zero,List.take_succ_cons,List.take_zero])) (by first|rfl|assumption|(refine(aj _).trans ?_;assumption)|(simp[*];(first|done|fail)))) (Ld.SA (ad rfl) rfl (by first|(exact j3.au zL (by first|rfl|assumption))|(exact j3.wN (by first|assumption))|(exact j3.bn zL (by first|rfl|assumption))))) (aw.nil _) ⟨.refl _,rfl,by rw[if_pos hc]⟩
 ·by_cases a1:40<inp.length
  ·refine ox Tryz.func68 rfl rfl rfl ?_;(refine nT.seq ?_;refine b3 ?_;refine cN fun g3=>?_;refine cN fun g5=>?_);refine cR (fun g6=>?_) (ad rfl);refine cR (fun g7=>?_) (ad rfl);refine bq ?_;refine nT.seq ?_;refine bq ?_;refine zw rfl (aC.cE (kJ σ _ p oq) rfl) ?_;rintro _ _ _ ⟨_,⟨rfl,rfl,rfl⟩,rfl⟩;refine az.cl ?_;refine a8 ?_;refine XA.aR rfl (decide_eq_false hc) ?_;refine aN ?_;refine nT.seq ?_;refine cr ?_;refine mQ ?_;refine aW ?_;exact ao.ret (aG.Vo rfl rfl rfl rfl (Ld.bN (ad rfl) rfl zL rfl (by first|exact bJ (by first|rfl|assumption|(refine(aj _).trans ?_;assumption)|(simp[*];(first|done|fail)))|assumption|exact aI (by first|rfl|assumption|(refine(aj _).trans ?_;assumption)|(simp[*];(first|done|fail)))|(conv=>lhs;simp only[List.drop_succ_cons,List.drop_zero,List.take_succ_cons,List.take_zero])) (by first|rfl|assumption|(refine(aj _).trans ?_;assumption)|(simp[*];(first|done|fail)))) (Ld.SA (ad rfl) rfl (by first|(exact j3.au zL (by first|rfl|assumption))|(exact j3.wN (by first|assumption))|(exact j3.bn zL (by first|rfl|assumption))))) (aw.nil _) ⟨.refl _,rfl,by rw[if_neg hc,if_pos (by omega)]⟩
  by_cases a2:fuel<0
  ·refine ox Tryz.func68 rfl rfl rfl ?_;(refine nT.seq ?_;refine b3 ?_;refine cN fun g3=>?_;refine cN fun g5=>?_);refine cR (fun g6=>?_) (ad rfl);refine cR (fun g7=>?_) (ad rfl);refine bq ?_;refine nT.seq ?_;refine bq ?_;refine zw rfl (aC.cE (kJ σ _ p oq) rfl) ?_;rintro _ _ _ ⟨_,⟨rfl,rfl,rfl⟩,rfl⟩;refine az.cl ?_;refine a8 ?_;refine XA.aR rfl (decide_eq_false hc) ?_;refine aN ?_;refine nT.seq ?_;refine cr ?_;refine mQ ?_;refine aW ?_;exact ao.ret (aG.Vo rfl rfl rfl rfl (Ld.bN (ad rfl) rfl zL rfl (by first|exact bJ (by first|rfl|assumption|(refine(aj _).trans ?_;assumption)|(simp[*];(first|done|fail)))|assumption|exact aI (by first|rfl|assumption|(refine(aj _).trans ?_;assumption)|(simp[*];(first|done|fail)))|(conv=>lhs;simp only[List.drop_succ_cons,List.drop_zero,List.take_succ_cons,List.take_zero])) (by first|rfl|assumption|(refine(aj _).trans ?_;assumption)|(simp[*];(first|done|fail)))) (Ld.SA (ad rfl) rfl (by first|(exact j3.au zL (by first|rfl|assumption))|(exact j3.wN (by first|assumption))|(exact j3.bn zL (by first|rfl|assumption))))) (aw.nil _) ⟨.refl _,rfl,by rw[if_neg hc,if_pos (by omega)]⟩
  by_cases a3:3000<fuel
  ·refine ox Tryz.func68 rfl rfl rfl ?_;(refine nT.seq ?_;refine b3 ?_;refine cN fun g3=>?_;refine cN fun g5=>?_);refine cR (fun g6=>?_) (ad rfl);refine cR (fun g7=>?_) (ad rfl);refine bq ?_;refine nT.seq ?_;refine bq ?_;refine zw rfl (aC.cE (kJ σ _ p oq) rfl) ?_;rintro _ _ _ ⟨_,⟨rfl,rfl,rfl⟩,rfl⟩;refine az.cl ?_;refine a8 ?_;refine XA.aR rfl (decide_eq_false hc) ?_;refine aN ?_;refine nT.seq ?_;refine cr ?_;refine mQ ?_;refine aW ?_;exact ao.ret (aG.Vo rfl rfl rfl rfl (Ld.bN (ad rfl) rfl zL rfl (by first|exact bJ (by first|rfl|assumption|(refine(aj _).trans ?_;assumption)|(simp[*];(first|done|fail)))|assumption|exact aI (by first|rfl|assumption|(refine(aj _).trans ?_;assumption)|(simp[*];(first|done|fail)))|(conv=>lhs;simp only[List.drop_succ_cons,List.drop_zero,List.take_succ_cons,List.take_zero])) (by first|rfl|assumption|(refine(aj _).trans ?_;assumption)|(simp[*];(first|done|fail)))) (Ld.SA (ad rfl) rfl (by first|(exact j3.au zL (by first|rfl|assumption))|(exact j3.wN (by first|assumption))|(exact j3.bn zL (by first|rfl|assumption))))) (aw.nil _) ⟨.refl _,rfl,by rw[if_neg hc,if_pos (by omega)]⟩
  (have wR:bR p=0:=by omega);obtain⟨f,rfl⟩:∃f:Nat,fuel=f:=⟨fuel.toNat,by omega⟩;obtain⟨hz,Gh⟩:=lU wR;obtain⟨hV,-,h1,zn⟩:=dr wR;have gD:=dU h1;obtain⟨nc,Ad⟩:∃nc:Nat,sizes p.vars=(nc:Int):=⟨(sizes p.vars).toNat,by omega⟩;have dy:=BU σ _ p oq hz Gh;rw[Ad] at dy;obtain⟨c,s,eH⟩:=D8 p inp f;(refine ox Tryz.func68 rfl rfl rfl ?_;refine nT.seq ?_;refine b3 ?_;refine cN fun g3=>?_;refine cN fun g5=>?_);refine cR (fun g6=>?_) (ad rfl);refine cR (fun g7=>?_) (ad rfl);refine bq ?_;refine nT.seq ?_;refine bq ?_;refine zw rfl (aC.cE (kJ σ _ p oq) rfl) ?_;rintro _ _ _ ⟨_,⟨rfl,rfl,rfl⟩,rfl⟩;refine az.cl ?_;refine a8 ?_;refine XA.aR rfl (decide_eq_false hc) ?_;refine aN ?_;refine nT.seq ?_;refine cr ?_;refine lz ?_;refine aN ?_;refine nT.seq ?_;refine XA.join [(10,10),(29,36)] (fun x:Nat×(Nat×Nat)=>[(10,ptr x.1)]) (fun x ag ah=>σ=ag∧ah=[au x.1 [ptr x.2.1] 170,au x.2.1 [.slice pv p.vars.length cv,bs,.slice (some ⟨x.2.2,0,none⟩) nc nc,.slice pi inp.length ci,.slice none 0 0,i64 f] 172,au x.2.2 (ints (List.replicate nc 0)) 2,au g3 [.slice pv p.vars.length cv,bs] 69,au g5 [i64 f] 3,au g6 xk.zero 75,au g7 HZ.zero 3]) ?_ ?_
  ·skip;refine XA.n7 (by kernel_rfl) _ _ [6,9] 10 #[false,false,false,false,false,false,false,false,false,false] rfl rfl (by kernel_rfl) (PH.sub.refl _) (aw.bP (R:=au g3 _ _) zL (aw.bP (R:=au g5 _ _) zL (aw.nil _))) ?_;refine qr 0 #[tT,fF,fF,fF,fF,fF,fF,fF,fF,fF] rfl (Rd.Ah rfl) ?_;refine qr 1 #[tT,tT,fF,fF,fF,fF,fF,fF,fF,fF] rfl (Rd.Ah rfl) ?_;refine qp 4 #[tT,tT,fF,fF,tT,fF,fF,fF,fF,fF] rfl Rd.mv ?_;refine qr 5 #[tT,tT,fF,fF,tT,tT,fF,fF,fF,fF] rfl (Rd.EN rfl (ad rfl) rfl) ?_;refine cC.w2 (i:=2) (j:=8) (by kernel_rfl) ?_ ?_
   ·refine qw #[tT,tT,tT,fF,tT,tT,fF,fF,fF,fF] rfl (aC.cE dy rfl) ?_;rintro _ _ _ ⟨_,⟨rfl,rfl,rfl⟩,rfl⟩;refine⟨⟨zX,zE⟩,cC.re zC ?_⟩;refine cC.w2 (i:=3) (j:=8) (by kernel_rfl) ?_ ?_
    ·refine qw #[tT,tT,tT,tT,tT,tT,fF,fF,fF,fF] rfl (X.aC.YU (n:=nc) (zs:=ints (List.replicate nc 0)) (ad rfl) rfl (ad rfl) rfl rfl rfl rfl (by show 8*nc≤_;omega) (by omega) (nE nc rfl)) ?_;rintro _ _ _ ⟨CN,rfl,rfl,rfl⟩;refine⟨⟨zX,zE⟩,cC.re zC ?_⟩;refine qp 6 #[tT,tT,tT,tT,tT,tT,tT,fF,fF,fF] rfl (Rd.bl (fun _ _=>ad) rfl rfl rfl) ?_;refine cC.w2 (i:=7) (j:=8) (by kernel_rfl) ?_ ?_
     ·refine qw #[tT,tT,tT,tT,tT,tT,tT,tT,fF,fF] rfl aC.bx ?_;rintro _ _ _ ⟨wP,rfl,rfl,rfl⟩;refine⟨⟨zX,zE⟩,cC.re zC ?_⟩;refine qa 8 ?_;refine qw #[tT,tT,tT,tT,tT,tT,tT,tT,tT,fF] rfl (aC.alloc (ad rfl)) ?_;rintro _ _ _ ⟨g10,rfl,rfl,rfl⟩;refine⟨⟨zX,zE⟩,cC.re zC ?_⟩;refine qa 9 ?_;refine iN.bj (aQ:=#[tT,tT,tT,tT,tT,tT,tT,tT,tT,tT]) rfl rfl Gd.free (by kernel_rfl) rfl (by kernel_rfl) (aC.st (ad rfl) rfl) ?_;rintro _ _ _ ⟨rfl,rfl,rfl⟩;refine cC.re zC ?_;refine cC.nil rfl ?_;refine DA.bE ⟨zK,(g10,(wP,CN)),_,zM,?_,rfl,rfl⟩;exact zE
     ·refine qw #[tT,tT,tT,tT,tT,tT,tT,fF,tT,fF] rfl (aC.alloc (ad rfl)) ?_;rintro _ _ _ ⟨g10,rfl,rfl,rfl⟩;refine⟨⟨zX,zE⟩,cC.re zC ?_⟩;refine qa 7 ?_;refine qw #[tT,tT,tT,tT,tT,tT,tT,tT,tT,fF] rfl aC.bx ?_;rintro _ _ _ ⟨wP,rfl,rfl,rfl⟩;refine⟨⟨zX,zE⟩,cC.re zC ?_⟩;refine qa 9 ?_;refine iN.bj (aQ:=#[tT,tT,tT,tT,tT,tT,tT,tT,tT,tT]) rfl rfl Gd.free (by kernel_rfl) rfl (by kernel_rfl) (aC.st (ad rfl) rfl) ?_;rintro _ _ _ ⟨rfl,rfl,rfl⟩;refine cC.re zC ?_;refine cC.nil rfl ?_;refine DA.bE ⟨zK,(g10,(wP,CN)),_,zM,?_,rfl,rfl⟩;exact zE
    ·refine qw #[tT,tT,tT,fF,tT,tT,fF,fF,tT,fF] rfl (aC.alloc (ad rfl)) ?_;rintro _ _ _ ⟨g10,rfl,rfl,rfl⟩;refine⟨⟨zX,zE⟩,cC.re zC ?_⟩;refine qa 3 ?_;refine qw #[tT,tT,tT,tT,tT,tT,fF,fF,tT,fF] rfl (X.aC.YU (n:=nc) (zs:=ints (List.replicate nc 0)) (ad rfl) rfl (ad rfl) rfl rfl rfl rfl (by show 8*nc≤_;omega) (by omega) (nE nc rfl)) ?_;rintro _ _ _ ⟨CN,rfl,rfl,rfl⟩;refine⟨⟨zX,zE⟩,cC.re zC ?_⟩;refine qp 6 #[tT,tT,tT,tT,tT,tT,tT,fF,tT,fF] rfl (Rd.bl (fun _ _=>ad) rfl rfl rfl) ?_;refine qa 7 ?_;refine qw #[tT,tT,tT,tT,tT,tT,tT,tT,tT,fF] rfl aC.bx ?_;rintro _ _ _ ⟨wP,rfl,rfl,rfl⟩;refine⟨⟨zX,zE⟩,cC.re zC ?_⟩;refine qa 9 ?_;refine iN.bj (aQ:=#[tT,tT,tT,tT,tT,tT,tT,tT,tT,tT]) rfl rfl Gd.free (by kernel_rfl) rfl (by kernel_rfl) (aC.st (ad rfl) rfl) ?_;rintro _ _ _ ⟨rfl,rfl,rfl⟩;refine cC.re zC ?_;refine cC.nil rfl ?_;refine DA.bE ⟨zK,(g10,(wP,CN)),_,zM,?_,rfl,rfl⟩;exact zE
   ·refine qw #[tT,tT,fF,fF,tT,tT,fF,fF,tT,fF] rfl (aC.alloc (ad rfl)) ?_;rintro _ _ _ ⟨g10,rfl,rfl,rfl⟩;refine⟨⟨zX,zE⟩,cC.re zC ?_⟩;refine qa 2 ?_;refine qw #[tT,tT,tT,fF,tT,tT,fF,fF,tT,fF] rfl (aC.cE dy rfl) ?_;rintro _ _ _ ⟨_,⟨rfl,rfl,rfl⟩,rfl⟩;refine⟨⟨zX,zE⟩,cC.re zC ?_⟩;refine qa 3 ?_;refine qw #[tT,tT,tT,tT,tT,tT,fF,fF,tT,fF] rfl (X.aC.YU (n:=nc) (zs:=ints (List.replicate nc 0)) (ad rfl) rfl (ad rfl) rfl rfl rfl rfl (by show 8*nc≤_;omega) (by omega) (nE nc rfl)) ?_;rintro _ _ _ ⟨CN,rfl,rfl,rfl⟩;refine⟨⟨zX,zE⟩,cC.re zC ?_⟩;refine qp 6 #[tT,tT,tT,tT,tT,tT,tT,fF,tT,fF] rfl (Rd.bl (fun _ _=>ad) rfl rfl rfl) ?_;refine qa 7 ?_;refine qw #[tT,tT,tT,tT,tT,tT,tT,tT,tT,fF] rfl aC.bx ?_;rintro _ _ _ ⟨wP,rfl,rfl,rfl⟩;refine⟨⟨zX,zE⟩,cC.re zC ?_⟩;refine qa 9 ?_;refine iN.bj (aQ:=#[tT,tT,tT,tT,tT,tT,tT,tT,tT,tT]) rfl rfl Gd.free (by kernel_rfl) rfl (by kernel_rfl) (aC.st (ad rfl) rfl) ?_;rintro _ _ _ ⟨rfl,rfl,rfl⟩;refine cC.re zC ?_;refine cC.nil rfl ?_;refine DA.bE ⟨zK,(g10,(wP,CN)),_,zM,?_,rfl,rfl⟩;exact zE
  rintro⟨g10,wP,CN⟩ δ _ _ ⟨rfl,rfl⟩;dsimp only[eb,List.foldl];refine b3 ?_;refine nT.defer (caps:=#[ptr g10,ptr g5,ptr g6,ptr g7]) (enters Tryz.func110 rfl rfl) rfl (by simp only[List.map_toArray,List.map_cons,List.map_nil]) ?_;refine nS.seq ?_;refine nS.region ?_;refine gj.rd rfl (Rd.EN rfl (ad rfl) rfl) ?_;refine gj.rd rfl (Rd.fA rfl) ?_;refine gj.rd rfl (Rd.EN rfl (ad rfl) rfl) ?_;obtain⟨g,r,hl,he⟩:=eH;(have YW:(sizes p.vars).toNat=nc:=by omega);(have iM:start p inp f=⟨List.replicate nc 0,inp,[],f⟩:=by rw[start,YW]);rw[iM] at hl;have hF:rI p.vars nc ⟨List.replicate nc 0,inp,[],f⟩:=⟨by simp,Ad.symm,by show f<_;omega,by show 0+f<_;omega⟩;have hL:=wa g σ p p.body (fun x _=>Rt σ p h1 hz Gh g x) bs wP pv cv bs CN nc _ (.slice pi inp.length ci) none 0 r oq hb hV hF hi hl;have hle:=gW (kq p.vars g) _ _ _ hl;simp only[List.length_nil,show ints []=[] from rfl] at hL
  cases r with
  |error q=>
   obtain⟨c0,s0⟩:=q;obtain⟨cells,Ic,out,left⟩:=s0;have Dw:left≤f:=hle.left;(have Lo:cells.length=nc:=by have:=hle.cl;simpa[rJ] using this);refine gj.die rfl (lx.err hL) rfl zD ?_;rintro _ _ _ ⟨rfl,rfl,ql,qm,qn,iT,rfl⟩;have sx:oS p inp f c0 ⟨cells,Ic,out,left⟩:=⟨g,_,by rw[iM];exact hl,rfl⟩
   exact wc σ σ p inp _ rfl _ _ g10 g5 g6 g7 wP CN nc _ _ ql qm qn f left cells out Ic c0 _ _ _ (.refl _) rfl rfl rfl wR (by omega) (by omega) Dw Lo (by omega) sx
    (CL σ g10 g5 g6 g7 wP CN nc _ _ ql qm _ qn f left (by omega) Dw _ _ rfl rfl c0) zE
  |ok s1=>
   obtain⟨cells,Ic,out,left⟩:=s1;have Dw:left≤f:=hle.left;(have Lo:cells.length=nc:=by have:=hle.cl;simpa[rJ] using this);refine gj.call rfl (lx.ok hL) rfl zD ?_;rintro _ _ _ ⟨rfl,rfl,ql,qm,qn,iT,rfl⟩;simp only[List.cons_append,List.nil_append];refine gj.nil ?_;show nS _ _ _ _ _ _ _;refine nS.seq ?_;refine nS.region ?_;refine gj.rd rfl (Rd.EN rfl (ad rfl) rfl) ?_
   cases left with
   |zero=>
    have sx:oS p inp f 13 ⟨cells,Ic,out,0⟩:=⟨g,_,by rw[iM];exact hl,rfl⟩;refine gj.die rfl (kn σ wP _ _ _ _ _) rfl zD ?_;rintro _ _ _ ⟨rfl,rfl,rfl⟩
    exact wc σ σ p inp _ rfl _ _ g10 g5 g6 g7 wP CN nc _ _ ql qm qn f 0 cells out Ic 13 _ _ _ (.refl _) rfl rfl rfl wR (by omega) (by omega) Dw Lo (by omega) sx
     (CL σ g10 g5 g6 g7 wP CN nc _ _ ql qm _ qn f 0 (by omega) Dw _ _ rfl rfl 13) zE
   |succ left=>
    have sx:oS p inp f 0 ⟨cells,Ic,out,left⟩:=⟨g,_,by rw[iM];exact hl,by simp[D7,cx,Lm]⟩;refine gj.call rfl (fP σ wP _ _ _ _ _ left (by omega)) rfl zD ?_;rintro _ _ _ ⟨rfl,rfl,rfl⟩;refine gj.nil ?_;show nS _ _ _ _ _ _ _;refine nS.ret ?_
    exact wc σ σ p inp _ rfl _ _ g10 g5 g6 g7 wP CN nc _ _ ql qm qn f left cells out Ic 0 _ _ _ (.refl _) rfl rfl rfl wR (by omega) (by omega) (by omega) Lo (by omega) sx
     (Ln σ g10 g5 g6 g7 wP CN nc _ _ ql qm _ qn f left (by omega) (by omega) _ _ rfl rfl) zE
section
variable {P:Program} {ρ:Env} {σ:PH} {Γ:List HP}
end
section
variable {P:Program} {ρ:Env} {σ:PH} {Γ:List HP}
end
section
variable (σ:PH) (g:Nat) (v0 v1 v2 v4 v5 v6 v7 k0 k1 k2 k3 k4 k5 ov wr:Value)
end
theorem tg {p:Pr} (h:bR p=0) {i:Nat} {x:In} (hx:(ak p)[i]? =some x):
 bX x.op≤ln ((ak p).take i)∧ln ((ak p).take (i+1))≤24∧((x.op=13∨x.op=14)→ln ((ak p).take (i+1))=0)∧(x.op=16↔i=(ak p).length-1)∧nC (sizes p.vars) x:=by
 obtain⟨hF,hz,-⟩:=qg h;generalize aH p.vars p.body 0=L at hF hz;have hc:ak p=aH p.vars p.body 0++[⟨16,0,0,0⟩]:=rfl;obtain⟨hF,hz,-⟩:=qg h;rw[hc] at hx⊢;generalize aH p.vars p.body 0=L at*;(have hlen:(L++[(⟨16,0,0,0⟩:In)]).length-1=L.length:=by simp);rw[hlen];by_cases hi:i<L.length
 ·rw[List.getElem?_append_left hi] at hx;have:=Fit.at hF hx;rw[List.take_append_of_le_length (by omega),List.take_append_of_le_length (by omega)];simp only[Int.zero_add] at this;exact⟨this.1,this.2.1,this.2.2.1,⟨fun e=>absurd e this.2.2.2.2,fun e=>absurd e (by omega)⟩,this.2.2.2.1⟩
 ·have rf:i<(L++[(⟨16,0,0,0⟩:In)]).length:=(List.getElem?_eq_some_iff.1 hx).1;rw[List.length_append,List.length_singleton] at rf;(have hie:i=L.length:=by omega);subst hie;rw[List.getElem?_append_right (Nat.le_refl _),Nat.sub_self] at hx;simp only[List.getElem?_cons_zero,Option.some.injEq] at hx;subst hx;rw[List.take_left,List.take_of_length_le (by simp),cJ,hz,gZ];refine⟨by simp[bX],by simp[dl,bX,fB],fun g=>by simp at g,⟨fun _=>rfl,fun _=>rfl⟩,⟨fun g=>by simp at g,fun g=>by simp at g⟩⟩
theorem uU {p:Pr} (h:bR p=0) {x:In} (hx:x∈ak p) (ho:x.op=13∨x.op=14):∃j:Nat,x.a=j∧j<(ak p).length∧ln ((ak p).take j)=0:=by
 have hc:ak p=aH p.vars p.body 0++[⟨16,0,0,0⟩]:=rfl;obtain⟨-,-,hJ⟩:=qg h;rw[hc] at hx⊢;rcases List.mem_append.1 hx with hx|hx
 ·obtain⟨j,e,hj,hz⟩:=hJ x hx ho;exact⟨j,by rw[e];congr 1;omega,by rw[List.length_append,List.length_singleton];omega,by rw[List.take_append_of_le_length hj,hz]⟩
 ·rw[List.mem_singleton.1 hx] at ho;simp at ho
theorem mF {σ:PH} {p:Option Addr} {n c:Nat} {xs:List Int} (hx:xs.length=n) (h:n≤c∧c≤maxLen∧(ints xs).length=n*1∧(0<n→∃g o,p=some ⟨g,o,none⟩∧cz σ g o (ints xs))):aV σ (.slice p n c) xs:=by
 subst hx;exact⟨p,c,rfl,h.1,h.2.1,h.2.2.2⟩
structure lW (code:List In) (inp:List Int) (b:Be) (x:In):Prop where
 st:b.m.st=0
 at_:code[b.m.next]? =some x
 pop:bX x.op≤b.m.stack.length
 cell:nC b.m.cells.length x
 goto:(x.op=13∨x.op=14)→0≤x.a
 stack:b.m.stack.length≤900
 cells:b.m.cells.length≤1000
 code:code.length≤1000000
 rd:b.m.rd≤1000000
 outs:b.out.length≤1000000
 outn:b.m.outn≤b.out.length
section
variable {C:List In} {inp:List Int}
def eX (C:List In) (inp:List Int) (f:Nat) (b:Be) (f':Nat) (b':Be):Prop:=f'≤f∧runM C inp f b=((runM C inp f' b').1,(runM C inp f' b').2+(f-f'))
theorem eX.refl (f:Nat) (b:Be):eX C inp f b f b:=⟨Nat.le_refl _,by simp⟩
theorem eX.trans {f f1 f2:Nat} {b b1 b2:Be} (h:eX C inp f b f1 b1) (k:eX C inp f1 b1 f2 b2):eX C inp f b f2 b2:=by
 refine⟨Nat.le_trans k.1 h.1,?_⟩;rw[h.2,k.2];have:=h.1;have:=k.1;simp only[Prod.mk.injEq,true_and];omega
theorem eX.step {f:Nat} {b:Be} {x:In} (h0:b.m.st=0) (hx:C[b.m.next]? =some x):eX C inp (f+1) b f (aL inp false x (bump b)):=by
 refine⟨Nat.le_succ _,?_⟩;rw[runM,if_neg (by rw[h0];simp),b5,hx];simp
def wS (C:List In) (pc:Nat) (L:List In):Prop:=∀i x,L[i]? =some x→C[pc+i]? =some x
theorem wS.left {pc:Nat} {L M:List In} (h:wS C pc (L++M)):wS C pc L:=fun i x hx=>h i x (by rw[List.getElem?_append_left (List.getElem?_eq_some_iff.1 hx).1];exact hx)
theorem wS.right {pc:Nat} {L M:List In} (h:wS C pc (L++M)):wS C (pc+L.length) M:=fun i x hx=>by
 rw[Nat.add_assoc];exact h _ x (by rw[List.getElem?_append_right (Nat.le_add_right _ _),Nat.add_sub_cancel_left];exact hx)
theorem wS.one {pc:Nat} {x:In} (h:wS C pc [x]):C[pc]? =some x:=h 0 x rfl
def eg (b:Be) (n:Nat) (st:List Int):Be:={b with m:={b.m with next:=n,stack:=st}}
def Fin (c:Int) (f:Nat) (b:Be):Prop:=(c=13∧f=0∧b.m.st=0)∨((c=11∨c=12)∧b.m.st=c+2)
def OA (b:Be) (c:Int) (f:Nat) (b':Be):Prop:=b'.m.cells=b.m.cells∧b'.out=b.out∧b'.wrong=b.wrong∧Fin c f b'
def GY (C:List In) (inp:List Int) (vs:List Va) (x:Ex):Prop:=∀(pc:Nat) (b:Be) (f:Nat),wS C pc (aA vs x)→b.m.next=pc→b.m.st=0→
 (∀v f',b4 vs b.m.cells x f=.ok (v,f')→eX C inp f b f' (eg b (pc+(aA vs x).length) (v::b.m.stack)))∧
 (∀c f',b4 vs b.m.cells x f=.error (c,f')→∃b',eX C inp f b f' b'∧OA b c f' b')
theorem CO (vs:List Va):∀(l:List Ex),(∀x∈l,GY C inp vs x)→∀(pc:Nat) (b:Be) (f:Nat),wS C pc (bm vs l)→b.m.next=pc→b.m.st=0→
 (∀xs f',cP vs b.m.cells l f=.ok (xs,f')→eX C inp f b f' (eg b (pc+(bm vs l).length) (xs.reverse++b.m.stack)))∧
 (∀c f',cP vs b.m.cells l f=.error (c,f')→∃b',eX C inp f b f' b'∧OA b c f' b')
 |[],_,pc,b,f,_,hn,_=>by
  refine⟨fun xs f' h=>?_,fun c f' h=>(by cases h)⟩;cases h;(have:eg b (pc+(bm vs []).length) ([].reverse++b.m.stack)=b:=by subst hn;rfl);rw[this];exact eX.refl _ _
 |x::l,hx,pc,b,f,hC,hn,h0=>by
  rw[bm] at hC⊢;obtain⟨h1,h2⟩:=hx x (by simp) pc b f hC.left hn h0;rw[cP]
  cases e1:b4 vs b.m.cells x f with
  |error q=>
   obtain⟨c,k⟩:=q;refine⟨fun xs f' h=>(by cases h),fun c' f' h=>?_⟩;cases h;exact h2 _ _ e1
  |ok q=>
   obtain⟨v,f1⟩:=q;have g1:=h1 _ _ e1;obtain⟨k1,k2⟩:=CO vs l (fun y hy=>hx y (by simp[hy])) (pc+(aA vs x).length) (eg b (pc+(aA vs x).length) (v::b.m.stack)) f1 hC.right rfl h0;change (∀xs f',cP vs b.m.cells l f1=_→_) at k1;change (∀c f',cP vs b.m.cells l f1=_→_) at k2;simp only
   cases e2:cP vs b.m.cells l f1 with
   |error q=>
    obtain⟨c,k⟩:=q;refine⟨fun xs f' h=>(by cases h),fun c' f' h=>?_⟩;cases h;obtain⟨b',g2,s2⟩:=k2 _ _ e2;exact⟨b',g1.trans g2,s2⟩
   |ok q=>
    obtain⟨xs,f2⟩:=q;refine⟨fun ys f' h=>?_,fun c' f' h=>(by cases h)⟩;cases h;have g2:=g1.trans (k1 _ _ e2)
    have e:eg (eg b (pc+(aA vs x).length) (v::b.m.stack)) (pc+(aA vs x).length+(bm vs l).length) (xs.reverse++(v::b.m.stack))=eg b (pc+(aA vs x++bm vs l).length) ((v::xs).reverse++b.m.stack):=by
     simp only[eg,List.length_append,List.reverse_cons,List.append_assoc,List.cons_append,List.nil_append,Nat.add_assoc]
    rw[←e];exact g2
theorem Ry (vs:List Va) (x:Ex) {nv:Nat}:ra nv x→GY C inp vs x:=by
 refine Ex.ind (P:=fun x=>ra nv x→GY C inp vs x) ?_ x;intro op v n l ih hV pc b f hC hn h0;rw[ra] at hV;obtain⟨tY,Rj,-,-,GD⟩:=hV;rw[aA] at hC⊢;obtain⟨h1,h2⟩:=CO vs l (fun y hy=>ih y hy (GD.mem y hy)) pc b f hC.left hn h0;have hx:=(hC.right).one;rw[b4]
 cases e1:cP vs b.m.cells l f with
 |error q=>
  obtain⟨c,k⟩:=q;refine⟨fun xs f' h=>(by cases h),fun c' f' h=>?_⟩;cases h;exact h2 _ _ e1
 |ok q=>
  obtain⟨xs,f1⟩:=q;have g1:=h1 _ _ e1;have hlen:=Ri vs b.m.cells l f e1
  cases f1 with
  |zero=>
   refine⟨fun v f' h=>(by cases h),fun c' f' h=>?_⟩;cases h;exact⟨_,g1,rfl,rfl,rfl,.inl ⟨rfl,rfl,h0⟩⟩
  |succ f1=>
   have g2:=g1.trans (eX.step (f:=f1) (b:=eg b (pc+(bm vs l).length) (xs.reverse++b.m.stack)) h0 hx);(have hof:s7 (f1+1)=.ok f1:=by simp[s7]);simp only[hof];(have CP:(pc+(bm vs l).length)+1=pc+(bm vs l++[lu vs op v n]).length:=by rw[List.length_append,List.length_singleton,Nat.add_assoc]);(have tR:(xs.length:Int)=partsOf op:=by rw[hlen];exact Rj);by_cases q1:op=1
   ·subst q1;obtain rfl:xs=[]:=List.eq_nil_of_length_eq_zero (by have:partsOf 1=0:=rfl;omega);refine⟨fun w f' h=>?_,fun c' f' h=>(by cases h)⟩;cases h;rw[←CP];exact g2
   by_cases q2:op=2
   ·subst q2;obtain rfl:xs=[]:=List.eq_nil_of_length_eq_zero (by have:partsOf 2=0:=rfl;omega);refine⟨fun w f' h=>?_,fun c' f' h=>(by cases h)⟩;cases h;rw[←CP];exact g2
   by_cases q3:op=3
   ·subst q3
    obtain⟨a,rfl⟩:∃a,xs=[a]:=by
     match xs,tR with
     |[a],_=>exact⟨a,rfl⟩
     |[],h=>exact absurd h (by decide)
     |_::_::_,h=>have:partsOf 3=1:=rfl;rw[this,List.length_cons,List.length_cons] at h;omega
    by_cases hk:a<0∨fu vs v≤a
    ·have hr:jG vs b.m.cells 3 v n [a] f1=.error (11,f1):=if_pos hk;rw[hr];refine⟨fun w f' h=>(by cases h),fun c' f' h=>?_⟩;cases h;have e:aL inp false (lu vs 3 v n) (bump (eg b (pc+(bm vs l).length) ([a].reverse++b.m.stack)))={b with m:={b.m with next:=pc+(bm vs l).length+1,stack:=b.m.stack,st:=13}}:=if_pos hk;rw[e] at g2;exact⟨_,g2,rfl,rfl,rfl,.inr ⟨by decide,rfl⟩⟩
    ·have hr:jG vs b.m.cells 3 v n [a] f1=.ok (b.m.cells.getD (cellOf vs v+a).toNat 0,f1):=if_neg hk;rw[hr];refine⟨fun w f' h=>?_,fun c' f' h=>(by cases h)⟩;cases h;have e:aL inp false (lu vs 3 v n) (bump (eg b (pc+(bm vs l).length) ([a].reverse++b.m.stack)))=eg b (pc+(bm vs l).length+1) (b.m.cells.getD (cellOf vs v+a).toNat 0::b.m.stack):=if_neg hk;rw[e] at g2;rw[←CP];exact g2
   (have zn:4≤op∧op≤8:=by omega);have zr:partsOf op=2:=by rw[partsOf,if_neg (by omega),if_neg q3,if_pos zn]
   obtain⟨a,c,rfl⟩:∃a c,xs=[a,c]:=by
    match xs,tR with
    |[a,c],_=>exact⟨a,c,rfl⟩
    |[],h=>rw[zr] at h;simp at h
    |[_],h=>rw[zr] at h;simp at h
    |_::_::_::_,h=>rw[zr,List.length_cons,List.length_cons,List.length_cons] at h;omega
   (have hr:jG vs b.m.cells op v n [a,c] f1=.ok (fh op a c,f1):=by rw[jG,if_neg q1,if_neg q2,if_neg q3];rfl);rw[hr];refine⟨fun w f' h=>?_,fun c' f' h=>(by cases h)⟩;cases h
   have Vp:∀(b1:Be) (s:List Int),b1.m.stack=c::a::s→aL inp false (lu vs op v n) b1={b1 with m:={b1.m with stack:=fh op a c::s}}:=fun b1 s hs=>by
    rw[aL];simp only[Gx,if_neg q1,if_neg q2,if_neg q3,if_pos zn,hs]
   have e:=Vp (bump (eg b (pc+(bm vs l).length) ([a,c].reverse++b.m.stack))) b.m.stack rfl;rw[e] at g2;rw[←CP];exact g2
end
end Go.Proofs.YtgeoiflbjcehcaaGreatDoor
