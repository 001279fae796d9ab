/- The law DeskJoins holds, where what it reads is of bulk at most 1048576: what lines tell one behind the other they tell together; what was asked again is told again; two desks know nothing of each other. Condition: the given card's own, that the variables of the library that it lists hold what it lays. -/
import Derived.Test.YtgeoiflbjcehcaaGreatDoorDj30
import Derived.SliceStrings
import Derived.Deep.DeepHandedRow
import Derived.Test.YtgeoiflbjcehcaaGreatDoorCards
import Derived.Test.YtgeoiflbjcehcaaGreatDoorTie
set_option maxHeartbeats 4000000
set_option maxRecDepth 2000
set_option linter.unusedVariables false
set_option linter.unusedSimpArgs false
namespace Go.Proofs.YtgeoiflbjcehcaaGreatDoor
open Go X Go.RowKit
abbrev OU:List (String×DataW Unit):=[("math/bits.deBruijn32tab",Rows.laid_math_bits_deBruijn32tab),("math/bits.deBruijn64tab",Rows.laid_math_bits_deBruijn64tab),("internal/strconv.uint64pow10",Rows.laid_internal_strconv_uint64pow10),("unicode/utf8.acceptRanges",Rows.laid_unicode_utf8_acceptRanges),("strconv.ErrRange",Rows.laid_strconv_ErrRange),("strconv.ErrSyntax",Rows.laid_strconv_ErrSyntax),("unicode/utf8.first",Rows.laid_unicode_utf8_first)]
theorem ze {W:World} (h:laidMet Tryz.prog OU W):rP (ek W.heap)∧lp (ek W.heap):=by
 have ht:=Lib.tabIs_of_head (P:=Tryz.prog) (W:=W) (k:=.u64) (zs:=Lib.pow10Tab) (g:=3) (t:=203) (e:=80) (n:=20) (by kernel_rfl) (by kernel_rfl) (by kernel_rfl) (by kernel_rfl) (by kernel_rfl) (by kernel_rfl) h.tail.tail;obtain⟨f,vD,zt,QQ⟩:=HY;obtain⟨a1,s1,nU,-,-,-⟩:=laid_sentinel h.tail.tail.tail.tail (g:=2) (by kernel_rfl) (ti:=87) (by kernel_rfl) lL.choose_spec HX (te:=254) (by kernel_rfl) vD zt QQ (by kernel_rfl) (by kernel_rfl) (by kernel_rfl);obtain⟨a2,s2,rE,-,-,-⟩:=laid_sentinel h.tail.tail.tail.tail.tail (g:=1) (by kernel_rfl) (ti:=87) (by kernel_rfl) lL.choose_spec HX (te:=254) (by kernel_rfl) vD zt QQ (by kernel_rfl) (by kernel_rfl) (by kernel_rfl);refine⟨fun w hw=>?_,_,_,Db (by kernel_rfl) rE,.inr ⟨_,_,rfl⟩,Db (by kernel_rfl) nU,.inr ⟨_,_,rfl⟩⟩;unfold Lib.TabIs at ht⊢;exact Sw hw ht
def Sx (d:DataW Unit):Array Value:=match d with
 |.agg l=>(l.map fun d=>(zd d).toList).flatten.toArray
 |_=>#[]
noncomputable def nQ (os:Os):World:=
 {vf os with heap:=((vf os).heap.modify 5 (setCells (Sx Rows.laid_unicode_utf8_acceptRanges))).modify 4 (setCells (zd Rows.laid_unicode_utf8_first))}
set_option maxRecDepth 100000 in
theorem tH (os:Os) (args:Array Value):laidMet Tryz.prog OU ((nQ os).forCall (fun _ _=>0) ⟨#[],args,[]⟩).memory:=
 laidMet_of_run' 8 (by kernel_rfl) (by kernel_rfl)
theorem vg {H:Type}:∀(l:List ByteArray),kv l+l.length≤Rows.uptoBulkAll (Go.ChangeShapes.strs (H:=H) l)
 |[]=>Nat.le_refl _
 |s::l=>by
  have:=vg (H:=H) l;show kv (s::l)+_≤Rows.uptoBulkAll (DataW.lit (.string s.data.toList)::Go.ChangeShapes.strs l);have e:s.data.toList.length=s.size:=Array.length_toList;simp only[Rows.uptoBulkAll,Rows.uptoBulk,kv,List.length_cons] at this⊢;omega
theorem EJ {H:Type} {enc:TypeId×Value→H} {W:World} {fuel:Nat} {cs:List Value} {x:DataW H×List MemPlace} (h:DataW.trod enc Tryz.prog W 0 (fun _=>true) true fuel 22 cs=some x):∃v xs,cs=[v]∧bO 1 n9 (ek W.heap) v xs∧kv xs+xs.length≤Rows.uptoBulk x.1:=by
 obtain⟨xs,v,rfl,hv⟩:=(Dec.slice (ad rfl) rfl (ad rfl) rfl (by decide) (Dec.str (ad rfl) rfl):Dec Tryz.prog 22 (Xz 1 n9)).out h;refine⟨v,xs,rfl,hv,?_⟩;rcases Go.ChangeShapes.open_strings (by kernel_rfl:Tryz.prog.underlying 22=some (.slice 9)) (by kernel_rfl) (by kernel_rfl) h with ⟨BH,rfl⟩|⟨a,len,cap,ss,BH,-,hl,-,hz,rfl,eA,-⟩
 ·simp only[List.cons.injEq,and_true] at BH;obtain⟨p,c,e,-,-⟩:=hv.shape;rw[BH] at e;simp only[Value.slice.injEq] at e;have:xs=[]:=List.eq_nil_of_length_eq_zero e.2.1.symm;subst this;exact Nat.zero_le _
 ·simp only[List.cons.injEq,and_true] at BH;subst BH;obtain⟨p,c,e,-,-⟩:=hv.shape;simp only[Value.slice.injEq] at e;obtain⟨-,hlen,-⟩:=e;have abC:len≤ss.length:=by rw[hz];simp only[if_true];exact hl
  have hxs:xs=ss.take len:=by
   apply List.ext_getElem?;intro i;rcases Nat.lt_or_ge i len with hi|hi
   ·obtain⟨y,hy⟩:∃y,xs[i]? =some y:=⟨_,List.getElem?_eq_getElem (by omega)⟩;obtain⟨g,o,row,ea,⟨rfl,-⟩,-,bL⟩:=hv.at hy;simp only[Option.some.injEq] at ea;subst ea;have hc:=CV (w:=W) (uv _) bL;have AI:=eA i (by omega);rw[addr_add] at AI;rw[Nat.mul_one,AI] at hc;simp only[Option.some.injEq,Value.string.injEq] at hc;rw[hy,List.getElem?_take,if_pos hi,List.getElem?_eq_getElem (by omega),←hc,List.getD_eq_getElem?_getD,List.getElem?_eq_getElem (by omega)];rfl
   ·rw[List.getElem?_eq_none (by omega),List.getElem?_eq_none (by rw[List.length_take];omega)]
  rw[hxs];have:=vg (H:=H) (ss.take len);show _≤Rows.uptoBulk (DataW.slice _ _);simp only[Rows.uptoBulk];omega
end Go.Proofs.YtgeoiflbjcehcaaGreatDoor
namespace Go.Proofs.YtgeoiflbjcehcaaGreatDoor
open Go X Go.ChangeShapes Go.WideShapes Go.ChangeAt Go.RowKit
set_option maxRecDepth 100000 in
theorem qG (os:Os) (started:os.Started) (H:Type) (enc:TypeId×Value→H) (F:Stop.Interp):
 ReturnsInHanded {} Tryz.checked os 4 .any ((Rows.OpenSpec.upto Rows.deskJoinsSpec).preRow enc Tryz.prog Tryz.f4 Rows.deskJoinsUptoRow.domain false Rows.deskJoinsUptoRow.laid) (((Rows.OpenSpec.upto Rows.deskJoinsSpec).at F).post enc Tryz.prog Tryz.f4 false true false false):=by
 obtain⟨places,hx⟩:∃places,DataW.whole enc Tryz.prog ((nQ os).forCall (fun _ _=>0) ⟨#[],#[.slice none 0 0,.int .i64 0],[]⟩).memory Tryz.f4.params.toList Rows.deskJoinsSpec.vars false (#[.slice none 0 0,.int .i64 0]:Array Value).toList 8=some ([.nil,.lit (.int .i64 0)],[],places):=⟨[],by kernel_rfl⟩
 refine returnsInHanded_of_row (C:=Tryz.checked) (s:=Rows.OpenSpec.upto Rows.deskJoinsSpec) Tryz.own started (by kernel_rfl) Tryz.func4
  (witness_row_at (enc:=enc) (C:=Tryz.checked) false (nQ os) #[.slice none 0 0,.int .i64 0] rfl (by kernel_rfl) (by kernel_rfl) (by kernel_rfl)
   (OpenSpec.preRow_of_cond 8 hx (by kernel_rfl) (fun k hk=>by cases hk;kernel_rfl) (by kernel_rfl) (tH os _))) ?_
 intro W base args ds gs before V3 hW _ V4 _ hL _ _;have V5:∀(j:Nat) t v,Tryz.f4.params[j]? =some t→args[j]? =some v→Value.okWide Tryz.prog W .any base t v:=V3;have V6:=V4 _ rfl;have hW':=hW;obtain⟨p,q,hA0,hV,rfl,hfz,WA⟩:=hW;have hA:DataW.TrodAll enc Tryz.prog W 0 (fun _=>true) true [22,3] args.toList ds p:=hA0;obtain⟨v0,v1,d0,d1,p0,p1,rfl,rfl,rfl,h0,h1⟩:=trodAll_two hA;(have hb:Tryz.prog.underlying 4=some .bool:=by kernel_rfl);obtain⟨rfl,rfl⟩:=trodVars_none hV;have XY:Rows.uptoBulkAll [d0,d1]≤1048576:=of_decide_eq_true V6;simp only[Rows.uptoBulkAll] at XY;refine Dm (fid:=4) (s:=Rows.deskJoinsSpec) (tb:=4) Tryz.laidOut (by kernel_rfl) rfl rfl hb rfl hW' (xr ?_);obtain⟨hT,hE⟩:=ze hL;obtain⟨fa,h0⟩:=h0;obtain⟨a0,l0,c0,rfl⟩:=okWide_slice (by kernel_rfl:Tryz.prog.underlying 22=some (.slice 9)) (V5 0 _ v0 rfl rfl);obtain⟨va,xs0,e0,wU,z0⟩:=EJ h0;obtain rfl:Value.slice a0 l0 c0=va:=(List.cons.inj (show [Value.slice a0 l0 c0]=[va] from e0)).1;obtain⟨p0',c0',q0,-,-⟩:=wU.shape;simp only[Value.slice.injEq] at q0;obtain⟨rfl,rfl,rfl⟩:=q0;obtain⟨n1,e1,ln1,un1⟩:=(Dec.int (ad rfl) rfl).one (ad rfl) rfl (V5 1 _ v1 rfl rfl) h1 Ft;simp only[List.cons.injEq,and_true] at e1;subst e1;simp only at z0;exact(L4 _ xs0 _ _ n1 wU (by omega) (by omega) hT hE).post fun v ag ah ⟨a,b,c⟩=>⟨ah,⟨a,b⟩,aw.refl _⟩
theorem uo:Rows.DeskJoinsUptoSaid:=
 OpenClaim.holds_of_cond 4 Tryz.f4 rfl rfl rfl rfl rfl rfl rfl ⟨rfl,rfl,rfl,rfl,rfl⟩ rfl rfl rfl rfl rfl (by kernel_rfl) Tryz.func4 (by kernel_rfl)
  (of_decide_eq_true (by kernel_rfl)) (by unfold Func.isWrapper;first|(rw[if_pos (by decide+kernel)];kernel_rfl)|(rw[if_neg (by decide+kernel)];exact⟨rfl,rfl⟩))
  (fun os started H enc _ F=>by rw[OpenClaim.pre_eq_preRow];exact qG os started H enc F)
theorem deskJoins_holds:Rows.DeskJoinsUptoCardSaid:=
 Claim7.holds_tied_plain_at .later [] _ _ _ _ uo (fun _ h=>by cases h) (by kernel_rfl) (fun _ h=>by cases h) deskJoinsUpto_row_tie rfl ⟨rfl,rfl⟩ (by kernel_rfl) rfl
  (fun f fn hf Qm=>by
   obtain rfl:f=4:=Option.some.inj ((show Tryz.prog.funcNamed "overwinter/overwinterlaw.DeskJoins" =some 4 by kernel_rfl).symm.trans hf) |>.symm;obtain rfl:fn=Tryz.f4:=(Option.some.inj (Tryz.func4.symm.trans Qm)).symm
   exact⟨by kernel_rfl,fun j t ht=>by
    (have hm:t∈[22,3]:=by simpa using Array.mem_of_getElem? ht);have bF:([22,3].all fun u=>!Tryz.prog.wantsStandIn u)=true:=by kernel_rfl
    exact(show Tryz.prog.wantsStandIn t=false by simpa using List.all_eq_true.1 bF t hm)⟩)
  (by kernel_rfl)
end Go.Proofs.YtgeoiflbjcehcaaGreatDoor
