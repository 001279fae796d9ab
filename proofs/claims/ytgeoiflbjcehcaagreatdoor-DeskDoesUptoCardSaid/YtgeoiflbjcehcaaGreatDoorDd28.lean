/- The law DeskDoes holds, where what it reads is of bulk at most 1048576: every Do is as the document says, one behind the other. Condition: the given card's own, that the variables of the library that it lists hold what it lays. -/
import Derived.Test.YtgeoiflbjcehcaaGreatDoorDd27
import Derived.LaidLaws
import Derived.Stop.LaidErr
import Derived.RowKit3
import Derived.RowKitTokens
import Derived.ChangeMaps5
import Derived.Handed
import Derived.SizedLaws
import Derived.SliceStrings
import Derived.Deep.DeepHandedRow
import Derived.Test.YtgeoiflbjcehcaaGreatDoorCards
import Derived.Test.YtgeoiflbjcehcaaGreatDoorTie
set_option maxHeartbeats 4000000
set_option maxRecDepth 2000
set_option linter.unusedVariables false
set_option linter.unusedSimpArgs false
namespace Go.Proofs.YtgeoiflbjcehcaaGreatDoor
open Go X
def EX:List ByteArray:=[⟨#[124,108,101,116,32,97,32,49]⟩,⟨#[124,40,114,101,97,100,32,97,41,32,40,112,114,105,110,116,32,40,118,97,114,32,97,41,41,32,40,99,111,109,109,105,116,41]⟩,⟨#[105,110,112,117,116,32,55]⟩,⟨#[110,111,119]⟩,⟨#[98,111,111,116]⟩,⟨#[114,117,110,32,50]⟩,⟨#[110,111,119]⟩,⟨#[99,114,97,115,104,32,48]⟩,⟨#[114,117,110,32,57]⟩,⟨#[110,111,119]⟩,⟨#[105,100,101,97,108,32,57]⟩,⟨#[120]⟩]
def adB:ByteArray:=⟨List.toArray (List.append [119,104,97,116,10,111,107,10,100,105,100,32,50,10,99,111,100,101,32,49,51,10,111,117,116,10,99,101,108,108,115,32,55,10,100,105,100,32,48,10,100,105,100,32,53,10,99,111,100,101] [32,48,10,111,117,116,32,55,10,99,101,108,108,115,32,55,10,116,111,111,107,32,53,10,99,111,100,101,32,48,10,111,117,116,32,55,10,99,101,108,108,115,32,55,10,119,104,97,116,10])⟩
set_option maxRecDepth 20000 in
theorem Oe:dR ByteArray.empty (dy Qm EX).2=adB:=by kernel_rfl
theorem Kp:dj EX=(0,0):=by kernel_rfl
theorem Kq:gN EX≤150000:=by decide+kernel
theorem QP:nZ EX≤1000:=by decide+kernel
theorem Of {σ:PH} {g n c:Nat} {xs:List ByteArray} (bG:cH σ g 0 (xs.map Value.string)) (hx:∀x∈xs,x.size≤maxLen) (hn:n=xs.length) (hc:n≤c) (hm:c≤maxLen):bV 1 pw σ (.slice (some ⟨g,0,none⟩) n c) xs:=
 ug (k:=xs.length) hx hn ⟨hc,hm,List.length_map ..,fun _=>⟨g,0,rfl,bG⟩⟩
theorem vX.mono {σ aj:PH} {gd:Nat} {d:nt} {k:Nat} {Γ:List HP} (h:vX σ gd d k Γ) (hs:σ.sub aj):vX aj gd d k Γ:=by
 obtain⟨q,sl,pt,ct,pi,ci,xv,cr,a,b,c,d⟩:=h;exact⟨q,sl,pt,ct,pi,ci,xv,cr,a.mono hs,b,c.mono hs,d⟩
set_option maxRecDepth 20000 in
theorem QQ (σ:PH) (hT:py σ) (hE:kT σ):ah Tryz.prog 5 #[] σ [] (aA fun v aj al=>v=.bool true∧σ.sub aj∧al=[]):=by
 have hbs:=QP;have hbc:=Kq;refine zf0 Tryz.func5 ?_;refine bg ?_;refine zw rfl (ax.cE (Od σ) rfl) ?_;rintro _ _ _ ⟨cr,⟨g,rfl,rfl,hD⟩,rfl⟩;refine az.cl ?_;refine az.eX C8 ?_;refine zw rfl (ax.bs (fun _ _=>ae) rfl rfl rfl rfl rfl) ?_;rintro _ _ _ ⟨g5,rfl,rfl,rfl⟩;refine az.mX (R:=aw g5 _ _) zL Bp oh ?_;rintro cO ⟨⟩ bG bz;have uR:bV 1 pw cO (.slice (some ⟨g5,0,none⟩) EX.length 12) EX:=Of bG (fun x hx=>by have:=ED x hx;simp only[maxLen];omega) rfl (bX _) kB;have hd:=dbl cO g Qm 0 EX _ 12 cr (hD.mono bz) uR (by show 0+nZ EX≤_;omega) (hT.mono bz) (hE.mono bz) ad;refine zw rfl (ax.cE hd rfl ar.US) ?_;rintro _ cL _ ⟨mY,⟨bT,UN⟩,rfl⟩;refine az.eX C8 ?_;rcases UN with ⟨hF,-⟩|⟨-,-,-,rfl,Ow⟩
 ·exact absurd Kp hF
 rw[Oe];refine cx ?_;refine di (fun g2=>?_) (ae rfl);refine cp ?_;(first|(refine zG ?_;refine zO rfl (Rd.fE rfl rfl) ?_)|refine zH ?_);refine dc ?_;exact bC rfl rfl ⟨congrArg Value.bool (aM rfl),bz.trans bT,rfl⟩
theorem ar.Cs {A B:List HP}:ar (A++B) (B++A):=fun m x=>by
 obtain⟨m1,m2,a,b,c,d,e⟩:=Sat.append x;exact Sat.join b a c.symm e d
theorem ar.mid {R:HP} {A B:List HP}:ar (R::(A++B)) (A++(R::B)):=fun m ⟨n1,n2,a,b,c,d,e⟩=>by
 obtain⟨m1,m2,p,q,r,s,t⟩:=Sat.append b;exact Sat.join (m1:=m1) (m2:=n1.or m2) p ⟨n1,m2,a,q,c.mono (.refl _) t,PH.uz _ _,PH.uA (c.mono (.refl _) t)⟩ (PH.ic (c.symm.mono s (.refl _)).symm r.symm).symm (s.trans e) (PH.w9 d (t.trans e))
theorem ar.Y4 {R:HP} {A B:List HP}:ar (A++(R::B)) (R::(A++B)):=fun m x=>by
 obtain⟨m1,m2,p,⟨n1,n2,a,b,c,d,e⟩,r,s,t⟩:=Sat.append x;refine⟨n1,m1.or n2,a,Sat.join p b (r.mono (.refl _) e) (PH.uz _ _) (PH.uA (r.mono (.refl _) e)),?_,d.trans t,PH.w9 s (e.trans t)⟩;exact(PH.ic (r.mono (.refl _) d) c.symm).symm
theorem EY:∀(l:List ByteArray) (i:Int),CK i l≠(0,0)→(CK i l).1≠0
 |[],_,h=>absurd rfl h
 |s::l,i,h=>by
  rw[CK] at h⊢;split
  ·show (14:Int)≠0;decide
  ·rename_i hs;rw[ag hs] at h;exact EY l (i+1) h
theorem GZ {ls:List ByteArray} (h:dj ls≠(0,0)):(dj ls).1≠0:=by
 rw[dj] at h⊢;split
 ·decide
 ·rename_i hl;rw[ag hl] at h;exact EY ls 0 h
theorem Vg (σ:PH) (a b:List ByteArray) (pa pb:Option Addr) (ca cb:Nat) (ha:bV 1 pw σ (.slice pa a.length ca) a) (hb:bV 1 pw σ (.slice pb b.length cb) b) (hza:nZ a≤2000000) (hzb:nZ b≤2000000) (hna:a.length≤2000000) (Xk:b.length≤2000000) (hT:py σ) (hE:kT σ):
 ah Tryz.prog 3 #[.slice pa a.length ca,.slice pb b.length cb] σ [] (aA fun v aj al=>v=.bool true∧σ.sub aj∧al=[]):=by
 refine cw Tryz.func3 ?_;refine bJ ?_;refine zw rfl (ax.cE (QQ σ hT hE) rfl) ?_;rintro _ cO _ ⟨_,⟨rfl,bz,rfl⟩,rfl⟩;refine az.cl ?_;refine bt ?_;have CD:=ha.mono bz (fun _ _ h=>h);have Ml:=hb.mono bz (fun _ _ h=>h);have oW:=hT.mono bz;have Cz:=hE.mono bz;refine az.join (List.take_append_drop 16 _).symm [(14,29)] (fun y:Bool=>[(29,.bool y)]) (fun y aj al=>cO.sub aj∧(y=false→nZ a≤9000∧gy a≤25∧nZ b≤9000∧gy b≤25)∧al=[]) ?_ ?_
 ·by_cases h1:((a.length:Nat):Int)>200
  ·refine lR ?_;refine⟨bQ,true,_,zM,?_,⟨.refl _,fun h=>(by cases h),rfl⟩⟩
   ·exact zE
  by_cases h2:((b.length:Nat):Int)>200
  ·refine lR ?_;refine⟨bQ,true,_,zM,?_,⟨.refl _,fun h=>(by cases h),rfl⟩⟩
   ·exact zE
  by_cases h3:9000<nZ a∨25<gy a
  ·refine aR ?_;refine zG ?_;refine zw rfl (ax.cE (GY cO a pa ca CD ad ad) rfl) ?_;rintro _ cL _ ⟨_,⟨rfl,bT,rfl⟩,rfl⟩;refine az.cl ?_;refine bg ?_;refine⟨bQ,true,_,zM,?_,⟨bT,fun h=>(by cases h),rfl⟩⟩
   ·exact zE
  ·refine aR ?_;refine zG ?_;refine zw rfl (ax.cE (GY cO a pa ca CD ad ad) rfl) ?_;rintro _ cL _ ⟨_,⟨rfl,bT,rfl⟩,rfl⟩;refine az.cl ?_;refine cx ?_;refine zG ?_;refine zw rfl (ax.cE (GY cL b pb cb (Ml.mono bT (fun _ _ h=>h)) ad ad) rfl) ?_;rintro _ fZ _ ⟨_,⟨rfl,cQ,rfl⟩,rfl⟩;refine az.cl ?_;refine cx ?_;refine⟨bQ,(decide (9000<nZ b∨25<gy b)),_,zM,?_,⟨bT.trans cQ,fun h=>(by have:=of_decide_eq_false h;omega),rfl⟩⟩
   ·exact zE
 rintro y Dc cL _ ⟨bT,hy,rfl⟩;dsimp only[dq,List.foldl];refine aU ?_;have kV:=bz.trans bT;have n8:=oW.mono bT;have xx:=Cz.mono bT
 cases y with
 |true=>
  refine bJ ?_;exact bC rfl rfl ⟨rfl,kV,rfl⟩
 |false=>
  obtain⟨z1,z2,z3,z4⟩:=hy rfl;have hca:=sx a;have Xg:=sx b;refine dc ?_;refine zw rfl (ax.cE (Od cL) rfl) ?_;rintro _ _ _ ⟨Γd,⟨gd,rfl,rfl,hD⟩,rfl⟩;refine az.cl ?_;refine az.eX C8 ?_;(refine a8 ?_;refine cP fun CG=>?_;refine bg ?_;refine zw rfl (ax.bs (fun _ _=>ae) rfl rfl rfl rfl rfl) ?_);rintro _ _ _ ⟨g35,rfl,rfl,rfl⟩;(refine aR ?_;refine XA.gen [(4,_),(5,_),(6,_),(7,_),(8,_)] iX fun δ=>?_);dsimp only[List.foldl];refine XA.loop [(4,4),(8,11),(36,78)] (fun i:Nat=>[(8,i64 i)]) (fun i aj al=>cL.sub aj∧i≤2∧∃(d:nt) (k:Nat) (told:ByteArray) (cr mY:List HP),vX aj gd d k cr∧rH aj CG d told k mY∧k≤75000*i∧vr d.text≤9000*i∧al=aw g35 [.slice pa a.length ca,.slice pb b.length cb] 22::(cr++mY)) (fun i=>2-i) 0 eb (Δ0:=_) ?_ (⟨.refl _,au,Qm,0,ByteArray.empty,Γd,[vY CG ByteArray.empty (.slice none 0 0) (.slice none 0 0) (.pointer none),aS 9 1 (.slice none 0 0) 0 []],hD,⟨none,0,none,0,.pointer none,[],⟨none,0,rfl,bX _,cg _,fun h=>absurd h (Nat.not_lt_zero _)⟩,(fun x hx=>by cases hx),⟨rfl,rfl⟩,rfl⟩,cg _,cg _,rfl⟩) ?_
  ·exact ar.bB dm.head (ar.trans (ar.bB dm.head (ar.dU (e:=9) (size:=1) (ar.refl _))) (ar.Cs (A:=[_,_])))
  rintro i Zf fZ _ ⟨cQ,hi,d,k,told,cr,mY,hY,hR,KJ,Oo,rfl⟩;dsimp only[dq,List.foldl];by_cases aV:i<2
  ·obtain⟨ls,pl,cl,eL,uR,w1,w2⟩:∃ls pl cl,([.slice pa a.length ca,.slice pb b.length cb]:List Value)[i]? =some (.slice pl ls.length cl)∧bV 1 pw fZ (.slice pl ls.length cl) ls∧nZ ls≤9000∧gN ls≤75000:=by
    rcases Nat.lt_or_ge i 1 with h|h
    ·(obtain rfl:i=0:=by omega);exact⟨a,pa,ca,rfl,CD.mono (bT.trans cQ) (fun _ _ h=>h),z1,ad⟩
    ·(obtain rfl:i=1:=by omega);exact⟨b,pb,cb,rfl,Ml.mono (bT.trans cQ) (fun _ _ h=>h),z3,ad⟩
   have hd:=dbl fZ gd d k ls pl cl cr hY uR ad (n8.mono cQ) (xx.mono cQ) ad;refine bg ?_;refine iQ ?_;refine cp ?_;refine zw rfl (ax.cE hd rfl ar.mid) ?_;rintro v qf _ ⟨UY,⟨jU,UN⟩,rfl⟩;refine az.eX ar.Y4 ?_;have Vh:=uR.mono jU (fun _ _ h=>h);have hR4:=hR.mono jU;rcases UN with ⟨hF,rfl,hY2⟩|⟨hF,gO,EF,rfl,hY2⟩
   ·have hfc:=GZ hF;refine cx ?_;refine di (fun g10=>?_) (ae rfl);refine aR ?_;refine yC (ES qf ls pl cl Vh) ?_;refine di (fun g11=>?_) (ae rfl);refine bJ ?_;refine zO rfl (X.Rd.Ap rfl rfl) ?_;refine a8 ?_;(first|(refine zG ?_;refine zO rfl (Rd.neqs rfl rfl) ?_)|refine zH ?_);refine bY ?_;(have Vy:¬(ByteArray.empty≠(⟨#[]⟩:ByteArray)):=fun h=>h rfl);refine XA.aI rfl (by first|rfl|exact aE Vy) ?_;refine eA ?_;(first|refine zH ?_);(first|(refine zG ?_;refine zO rfl (Rd.neqs rfl rfl) ?_)|refine zH ?_);refine dB ?_;refine⟨bQ,i+1,_,zM,?_,⟨cQ.trans jU,aV,d,k,told,UY,mY,hY2,hR4,ad,ad,rfl⟩,ad⟩
    ·exact ar.trans ar.tail (ar.trans ar.tail (ar.refl _))
   ·have WW:=mV ls d;have oY:=Y2 qf CG d told k ls pl cl mY hR4 Vh ad (n8.mono (cQ.trans jU)) (xx.mono (cQ.trans jU)) ad EF gO;have hfw:=ES qf ls pl cl Vh;rw[hF] at hfw;refine cx ?_;refine di (fun g10=>?_) (ae rfl);refine aR ?_;refine yC (hfw) ?_;refine di (fun g11=>?_) (ae rfl);refine bJ ?_;refine zO rfl (X.Rd.Ap rfl rfl) ?_;refine a8 ?_;(first|(refine zG ?_;refine zO rfl (Rd.neqs rfl rfl) ?_)|refine zH ?_);refine iA ?_;refine zG ?_;refine zw rfl (ax.cE oY rfl (ar.Cs (A:=_::_::_::UY))) ?_;rintro _ Uz _ ⟨VI,⟨rfl,CL,hR5⟩,rfl⟩;(have Vy:¬(dR ByteArray.empty (dy d ls).2≠dR ByteArray.empty (dy d ls).2):=fun h=>h rfl);(first|(refine zG ?_;refine zO rfl (Rd.neqs rfl rfl) ?_)|refine zH ?_);refine cx ?_;refine XA.aI rfl (by first|rfl|exact aE Vy) ?_;refine bt ?_;refine⟨bQ,i+1,_,zM,?_,⟨cQ.trans (jU.trans CL),aV,(dy d ls).1,k+gN ls,_,UY,VI,hY2.mono CL,hR5,ad,ad,rfl⟩,ad⟩
    ·exact ar.trans ar.Cs (ar.trans ar.tail ar.tail)
  ·refine bg ?_;refine ik ?_;refine cp ?_;exact bC rfl rfl ⟨rfl,kV.trans cQ,rfl⟩
end Go.Proofs.YtgeoiflbjcehcaaGreatDoor
namespace Go.Proofs.YtgeoiflbjcehcaaGreatDoor
open Go X Go.RowKit
theorem star: "*" ++ "errors.errorString" = "*errors.errorString" :=by decide
theorem Og (u:TypeId) (h:Tryz.prog.typeName? 3 u=some "*errors.errorString"):u=252:=
 typeName_ptr_named (nm:= "errors.errorString") (by rw[star];kernel_rfl) aC au u (by rw[star];exact h)
theorem Vi {W w:World} {n:String} {cs:Array Value} (hw:(ie W.heap).le w.heap) (h:W.var? Tryz.prog n=some cs):w.var? Tryz.prog n=some cs:=by
 unfold World.var? at h⊢
 cases hg:Tryz.prog.globalNamed n with
 |none=>simp[hg] at h
 |some g=>
  simp only[hg,Option.bind_some] at h⊢
  cases ho:W.heap[g]? with
  |none=>simp[ho] at h
  |some o=>
   have:=hw g o ho;rw[this];rw[ho] at h;exact h
theorem IY {W:World} {n:String} {g:Nat} {cs:Array Value} (hg:Tryz.prog.globalNamed n=some g) (h:W.var? Tryz.prog n=some cs):cH (ie W.heap) g 0 cs.toList:=by
 unfold World.var? at h;simp only[hg,Option.bind_some] at h;split at h
 ·rename_i Zh T fr he;cases h;exact⟨_,_,_,he,by rw[List.drop_zero];exact List.take_of_length_le (bX _)⟩
 ·cases h
theorem Y5 {α:Type} {l:List α} (h:l.length=1):∃a,l=[a]:=by
 match l,h with
 |[a],_=>exact⟨a,rfl⟩
theorem Oh:∃f:Field,Tryz.prog.underlying 254=some (.struct #[f])∧f.type=9∧f.offset=0:=by
 (have hu:Tryz.prog.underlying 254=some (.struct (Tryz.prog.fieldsOf 254)):=by kernel_rfl);(have hf:(Tryz.prog.fieldsOf 254).toList.map (fun f=>(f.type,f.offset))=[(9,0)]:=by kernel_rfl);obtain⟨f,hl⟩:=Y5 (l:=(Tryz.prog.fieldsOf 254).toList) (by simpa using congrArg List.length hf);rw[hl] at hf;simp only[List.map_cons,List.map_nil,List.cons.injEq,Prod.mk.injEq,and_true] at hf;refine⟨f,?_,hf.1,hf.2⟩;rw[hu,←Array.toArray_toList (xs:=Tryz.prog.fieldsOf 254),hl]
abbrev adD:ByteArray:={data:=#[105,110,118,97,108,105,100,32,115,121,110,116,97,120]}
abbrev adE:ByteArray:={data:=#[118,97,108,117,101,32,111,117,116,32,111,102,32,114,97,110,103,101]}
noncomputable def low:Nat:=(World.holding Tryz.prog default ⟨#[],#[],[]⟩).heap.size
def setCells (cs:Array Value):Obj→Obj
 |.cells _ t frozen=>.cells cs t frozen
 |o=>o
def EZ (d:DataW Unit):Array Value:=match d with
 |.agg l=>(l.map fun d=>match d with|.lit (.int k z)=>Value.int k z|_=>undef).toArray
 |_=>#[]
noncomputable def Ba (os:Os):World:=
 let w0:=World.holding Tryz.prog os ⟨#[.cells #[.string adD] 254,.cells #[.string adE] 254],#[],[]⟩
 {w0 with heap:=((((w0.heap.modify 1 (setCells #[.iface 252 (.pointer (some ⟨low,0,none⟩))])).modify 2 (setCells #[.iface 252 (.pointer (some ⟨low+1,0,none⟩))])).modify 3 (setCells (EZ Rows.laid_internal_strconv_uint64pow10))).modify
  6 (setCells (EZ Rows.laid_math_bits_deBruijn32tab))).modify 7 (setCells (EZ Rows.laid_math_bits_deBruijn64tab))}
abbrev Sh:List (String×DataW Unit):=[("math/bits.deBruijn32tab",Rows.laid_math_bits_deBruijn32tab),("math/bits.deBruijn64tab",Rows.laid_math_bits_deBruijn64tab),("internal/strconv.uint64pow10",Rows.laid_internal_strconv_uint64pow10),("unicode/utf8.acceptRanges",Rows.laid_unicode_utf8_acceptRanges),("strconv.ErrRange",Rows.laid_strconv_ErrRange),("strconv.ErrSyntax",Rows.laid_strconv_ErrSyntax),("unicode/utf8.first",Rows.laid_unicode_utf8_first)]
theorem E0 {W:World} (h:laidMet Tryz.prog Sh W):py (ie W.heap)∧kT (ie W.heap):=by
 have ht:=Lib.tabIs_of_head (P:=Tryz.prog) (W:=W) (k:=.u64) (zs:=Lib.pow10Tab) (g:=3) (t:=203) (e:=80) (n:=20) aC aC aC aC aC aC h.tail.tail;obtain⟨f,Bw,n9,sG⟩:=Oh;obtain⟨a1,s1,mK,-,-,-⟩:=laid_sentinel h.tail.tail.tail.tail (g:=2) aC (ti:=87) aC nb.choose_spec Og (te:=254) aC Bw n9 sG aC aC aC;obtain⟨a2,s2,tq,-,-,-⟩:=laid_sentinel h.tail.tail.tail.tail.tail (g:=1) aC (ti:=87) aC nb.choose_spec Og (te:=254) aC Bw n9 sG aC aC aC;refine⟨fun w hw=>?_,_,_,IY aC tq,.inr ⟨_,_,rfl⟩,IY aC mK,.inr ⟨_,_,rfl⟩⟩;unfold Lib.TabIs at ht⊢;exact Vi hw ht
def Vj (d:DataW Unit):Array Value:=match d with
 |.agg l=>(l.map fun d=>(EZ d).toList).flatten.toArray
 |_=>#[]
noncomputable def sy (os:Os):World:=
 {Ba os with heap:=((Ba os).heap.modify 5 (setCells (Vj Rows.laid_unicode_utf8_acceptRanges))).modify 4 (setCells (EZ Rows.laid_unicode_utf8_first))}
set_option maxRecDepth 100000 in
theorem yX (os:Os) (args:Array Value):laidMet Tryz.prog Sh ((sy os).forCall (fun _ _=>0) ⟨#[],args,[]⟩).memory:=
 laidMet_of_run' 8 aC aC
theorem Bb {H:Type}:∀(l:List ByteArray),nZ l+l.length≤Rows.uptoBulkAll (Go.ChangeShapes.strs (H:=H) l)
 |[]=>bX _
 |s::l=>by
  have:=Bb (H:=H) l;show nZ (s::l)+_≤Rows.uptoBulkAll (DataW.lit (.string s.data.toList)::Go.ChangeShapes.strs l);have e:s.data.toList.length=s.size:=Array.length_toList;simp only[Rows.uptoBulkAll,Rows.uptoBulk,nZ,bF] at this⊢;omega
theorem Bd {H:Type} {enc:TypeId×Value→H} {W:World} {fuel:Nat} {cs:List Value} {x:DataW H×List MemPlace} (h:DataW.trod enc Tryz.prog W 0 (fun _=>true) true fuel 22 cs=some x):∃v xs,cs=[v]∧bV 1 pw (ie W.heap) v xs∧nZ xs+xs.length≤Rows.uptoBulk x.1:=by
 obtain⟨xs,v,rfl,hv⟩:=(Dec.slice (ae rfl) rfl (ae rfl) rfl au (Dec.str (ae rfl) rfl):Dec Tryz.prog 22 (rSl 1 pw)).out h;refine⟨v,xs,rfl,hv,?_⟩;rcases Go.ChangeShapes.open_strings (by kernel_rfl:Tryz.prog.underlying 22=some (.slice 9)) aC aC h with ⟨Cv,rfl⟩|⟨a,len,cap,ss,Cv,-,hl,-,hz,rfl,eL,-⟩
 ·simp only[List.cons.injEq,and_true] at Cv;obtain⟨p,c,e,-,-⟩:=hv.shape;rw[Cv] at e;simp only[Value.slice.injEq] at e;have:xs=[]:=List.eq_nil_of_length_eq_zero e.2.1.symm;subst this;exact cg _
 ·simp only[List.cons.injEq,and_true] at Cv;subst Cv;obtain⟨p,c,e,-,-⟩:=hv.shape;simp only[Value.slice.injEq] at e;obtain⟨-,hlen,-⟩:=e;have afq:len≤ss.length:=by rw[hz];simp only[if_true];exact hl
  have hxs:xs=ss.take len:=by
   apply List.ext_getElem?;intro i;rcases Nat.lt_or_ge i len with hi|hi
   ·obtain⟨y,hy⟩:∃y,xs[i]? =some y:=⟨_,b9 ad⟩;obtain⟨g,o,row,ea,⟨rfl,-⟩,-,bG⟩:=hv.at hy;simp only[Option.some.injEq] at ea;subst ea;have hc:=Iw (w:=W) (z8 _) bG;have DG:=eL i ad;rw[addr_add] at DG;rw[Nat.mul_one,DG] at hc;simp only[Option.some.injEq,Value.string.injEq] at hc;rw[hy,List.getElem?_take,aq hi,b9 ad,←hc,ey,b9 ad];rfl
   ·rw[List.getElem?_eq_none ad,List.getElem?_eq_none (by rw[List.length_take];omega)]
  rw[hxs];have:=Bb (H:=H) (ss.take len);show _≤Rows.uptoBulk (DataW.slice _ _);simp only[Rows.uptoBulk];omega
end Go.Proofs.YtgeoiflbjcehcaaGreatDoor
namespace Go.Proofs.YtgeoiflbjcehcaaGreatDoor
open Go X Go.ChangeShapes Go.WideShapes Go.ChangeAt Go.RowKit
set_option maxRecDepth 100000 in
theorem wB (os:Os) (started:os.Started) (H:Type) (enc:TypeId×Value→H) (F:Stop.Interp):
 ReturnsInHanded {} Tryz.checked os 3 .any ((Rows.OpenSpec.upto Rows.deskDoesSpec).preRow enc Tryz.prog Tryz.f3 Rows.deskDoesUptoRow.domain false Rows.deskDoesUptoRow.laid) (((Rows.OpenSpec.upto Rows.deskDoesSpec).at F).post enc Tryz.prog Tryz.f3 false true false false):=by
 obtain⟨places,hx⟩:∃places,DataW.whole enc Tryz.prog ((sy os).forCall (fun _ _=>0) ⟨#[],#[.slice none 0 0,.slice none 0 0],[]⟩).memory Tryz.f3.params.toList Rows.deskDoesSpec.vars false (#[.slice none 0 0,.slice none 0 0]:Array Value).toList 8=some ([.nil,.nil],[],places):=⟨[],aC⟩
 refine returnsInHanded_of_row (C:=Tryz.checked) (s:=Rows.OpenSpec.upto Rows.deskDoesSpec) Tryz.own started aC Tryz.func3
  (witness_row_at (enc:=enc) (C:=Tryz.checked) false (sy os) #[.slice none 0 0,.slice none 0 0] rfl aC aC aC
   (OpenSpec.preRow_of_cond 8 hx aC (fun k hk=>by cases hk;kernel_rfl) aC (yX os _))) ?_
 intro W base args ds gs before Y6 hW _ Y7 _ hL _ _;have n7:∀(j:Nat) t v,Tryz.f3.params[j]? =some t→args[j]? =some v→Value.okWide Tryz.prog W .any base t v:=Y6;have Y8:=Y7 _ rfl;have hW':=hW;obtain⟨p,q,hA0,hV,rfl,hfz,Zt⟩:=hW;have hA:DataW.TrodAll enc Tryz.prog W 0 (fun _=>true) true [22,22] args.toList ds p:=hA0;obtain⟨v0,v1,d0,d1,p0,p1,rfl,rfl,rfl,h0,h1⟩:=trodAll_two hA;(have hb:Tryz.prog.underlying 4=some .bool:=by kernel_rfl);obtain⟨rfl,rfl⟩:=trodVars_none hV;have hbd:Rows.uptoBulkAll [d0,d1]≤1048576:=of_decide_eq_true Y8;simp only[Rows.uptoBulkAll] at hbd;refine Ja (fid:=3) (s:=Rows.deskDoesSpec) (tb:=4) Tryz.laidOut aC rfl rfl hb rfl hW' (C4 ?_);obtain⟨hT,hE⟩:=E0 hL;obtain⟨fa,h0⟩:=h0;obtain⟨fb,h1⟩:=h1;obtain⟨a0,l0,c0,rfl⟩:=okWide_slice (by kernel_rfl:Tryz.prog.underlying 22=some (.slice 9)) (n7 0 _ v0 rfl rfl);obtain⟨a1,l1,c1,rfl⟩:=okWide_slice (by kernel_rfl:Tryz.prog.underlying 22=some (.slice 9)) (n7 1 _ v1 rfl rfl);obtain⟨va,xs0,e0,qW,z0⟩:=Bd h0;obtain⟨vb,xs1,e1,rC,z1⟩:=Bd h1;obtain rfl:Value.slice a0 l0 c0=va:=(List.cons.inj (show [Value.slice a0 l0 c0]=[va] from e0)).1;obtain rfl:Value.slice a1 l1 c1=vb:=(List.cons.inj (show [Value.slice a1 l1 c1]=[vb] from e1)).1;obtain⟨p0',c0',q0,-,-⟩:=qW.shape;obtain⟨p1',c1',q1,-,-⟩:=rC.shape;simp only[Value.slice.injEq] at q0 q1;obtain⟨rfl,rfl,rfl⟩:=q0;obtain⟨rfl,rfl,rfl⟩:=q1;simp only at z0 z1;exact(Vg _ xs0 xs1 _ _ _ _ qW rC ad ad ad ad hT hE).post fun v aj al ⟨a,b,c⟩=>⟨al,⟨a,b⟩,ar.refl _⟩
theorem Ct:Rows.DeskDoesUptoSaid:=
 OpenClaim.holds_of_cond 3 Tryz.f3 rfl rfl rfl rfl rfl rfl rfl ⟨rfl,rfl,rfl,rfl,rfl⟩ rfl rfl rfl rfl rfl aC Tryz.func3 aC
  (of_decide_eq_true aC) (by unfold Func.isWrapper;first|(rw[aq (by decide+kernel)];kernel_rfl)|(rw[ag (by decide+kernel)];exact⟨rfl,rfl⟩))
  (fun os started H enc _ F=>by rw[OpenClaim.pre_eq_preRow];exact wB os started H enc F)
theorem deskDoes_holds:Rows.DeskDoesUptoCardSaid:=
 Claim7.holds_tied_plain_at .later [] _ _ _ _ Ct (fun _ h=>by cases h) aC (fun _ h=>by cases h) deskDoesUpto_row_tie rfl ⟨rfl,rfl⟩ aC rfl
  (fun f fn hf SB=>by
   obtain rfl:f=3:=Option.some.inj ((show Tryz.prog.funcNamed "overwinter/overwinterlaw.DeskDoes" =some 3 by kernel_rfl).symm.trans hf) |>.symm;obtain rfl:fn=Tryz.f3:=(Option.some.inj (Tryz.func3.symm.trans SB)).symm
   exact⟨aC,fun j t ht=>by
    (have hm:t∈[22,22]:=by simpa using Array.mem_of_getElem? ht);have bu:([22,22].all fun u=>!Tryz.prog.wantsStandIn u)=true:=by kernel_rfl
    exact(show Tryz.prog.wantsStandIn t=false by simpa using List.all_eq_true.1 bu t hm)⟩)
  aC
end Go.Proofs.YtgeoiflbjcehcaaGreatDoor
