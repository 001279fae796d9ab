import Derived.Test.YtgeoiflbjcehcaaGreatDoorDd21
set_option maxHeartbeats 4000000
set_option maxRecDepth 2000
set_option linter.unusedVariables false
set_option linter.unusedSimpArgs false
namespace Go.Proofs.YtgeoiflbjcehcaaGreatDoor
open Go X
mutual
def OD:Ex→Prop
 |.mk _ _ n l=>aG n∧zF l
def zF:List Ex→Prop
 |[]=>True
 |x::l=>OD x∧zF l
end
mutual
def RW:St→Prop
 |.mk _ _ e f body dn=>OD e∧OD f∧kY body∧kY dn
def kY:List St→Prop
 |[]=>True
 |x::l=>RW x∧kY l
end
theorem zF.of:∀{l:List Ex},(∀x∈l,OD x)→zF l
 |[],_=>by rw[zF];trivial
 |y::l,h=>by rw[zF];exact⟨h y aZ,zF.of fun x hx=>h x (by simp[hx])⟩
theorem kY.of:∀{l:List St},(∀x∈l,RW x)→kY l
 |[],_=>by rw[kY];trivial
 |y::l,h=>by rw[kY];exact⟨h y aZ,kY.of fun x hx=>h x (by simp[hx])⟩
theorem uc {α:Type} {rows:List (List Value)} {l:List α} {Q:α→Prop} (h3:rows.length=l.length) (h:∀(i:Nat) (row:List Value) (x:α),rows[i]? =some row→l[i]? =some x→Q x):∀x∈l,Q x:=by
 intro x hx;obtain⟨i,hi,rfl⟩:=List.mem_iff_getElem.1 hx;exact h i _ _ (b9 ad) (b9 hi)
theorem dL.i {σ:PH} {cs:List Value} {x:Ex} (h:dL σ cs x):OD x:=by
 induction h with
 |mk rows ho hv hn h1 h2 h3 h4 h5 h6 ih=>rw[OD];exact⟨hn,zF.of (uc h3 ih)⟩
theorem dF.i {σ:PH} {cs:List Value} {x:St} (h:dF σ cs x):RW x:=by
 induction h with
 |mk rows xj ho hv he hf h1 h2 h3 h4 h5 h6 g1 g2 g3 g4 g5 g6 ih jh=>rw[RW];exact⟨he.i,hf.i,kY.of (uc h3 ih),kY.of (uc g3 jh)⟩
theorem bV.all {α:Type} {s:Nat} {R:RT α} {σ:PH} {sl:Value} {l:List α} {Q:α→Prop} (h:bV s R σ sl l) (k:∀row x,R σ row x→Q x):∀x∈l,Q x:=by
 obtain⟨p,c,rows,rfl,h1,h2,h3,h4,h5,h6⟩:=h;exact uc h3 fun i row x a b=>k row x (h5 i row x a b)
theorem gT.i {σ:PH} {cs:List Value} {p:Pr} (h:gT σ cs p):kY p.body:=by
 obtain⟨vs,bs,-,-,hb⟩:=h;exact kY.of (bV.all hb fun _ _ h=>h.i)
end Go.Proofs.YtgeoiflbjcehcaaGreatDoor
namespace Go.Proofs
open Go.Shelf
def Tryz.laysM171_ren:Go.Shelf.Ren:=⟨fun|171=>48|243=>82|246=>64|283=>99|284=>100|285=>101|286=>102|129=>139|317=>138|318=>140|319=>141|320=>142|337=>172|338=>173|n=>n,fun|3=>3|9=>9|2=>2|4=>4|171=>159|0=>0|53=>80|37=>44|5=>5|173=>162|212=>203|51=>147|20=>20|213=>204|46=>40|232=>279|233=>280|n=>n,fun|17=>3|18=>6|19=>7|n=>n⟩
theorem Tryz.laysM171:Go.Proofs.LaysM.n171 Tryz.prog Tryz.laysM171_ren:={
 mixed:=by kernel_rfl
 f129:=Tryz.func139.trans (congrArg some (by kernel_rfl))
 f171:=Tryz.func48.trans (congrArg some (by kernel_rfl))
 f243:=Tryz.func82.trans (congrArg some (by kernel_rfl))
 f246:=Tryz.func64.trans (congrArg some (by kernel_rfl))
 f283:=Tryz.func99.trans (congrArg some (by kernel_rfl))
 f284:=Tryz.func100.trans (congrArg some (by kernel_rfl))
 f285:=Tryz.func101.trans (congrArg some (by kernel_rfl))
 f286:=Tryz.func102.trans (congrArg some (by kernel_rfl))
 f317:=Tryz.func138.trans (congrArg some (by kernel_rfl))
 f318:=Tryz.func140.trans (congrArg some (by kernel_rfl))
 f319:=Tryz.func141.trans (congrArg some (by kernel_rfl))
 f320:=Tryz.func142.trans (congrArg some (by kernel_rfl))
 f337:=Tryz.func172.trans (congrArg some (by kernel_rfl))
 f338:=Tryz.func173.trans (congrArg some (by kernel_rfl))
 t0:=Tryz.underlying0
 a0:=Tryz.isAgg0
 z0:=Tryz.sizeOf0
 v0:=Tryz.zeroValue0
 t2:=Tryz.underlying2
 a2:=Tryz.isAgg2
 z2:=Tryz.sizeOf2
 v2:=Tryz.zeroValue2
 t3:=Tryz.underlying3
 a3:=Tryz.isAgg3
 z3:=Tryz.sizeOf3
 v3:=Tryz.zeroValue3
 t4:=Tryz.underlying4
 a4:=Tryz.isAgg4
 z4:=Tryz.sizeOf4
 v4:=Tryz.zeroValue4
 t5:=Tryz.underlying5
 a5:=Tryz.isAgg5
 z5:=Tryz.sizeOf5
 v5:=Tryz.zeroValue5
 t9:=Tryz.underlying9
 a9:=Tryz.isAgg9
 z9:=Tryz.sizeOf9
 v9:=Tryz.zeroValue9
 t20:=Tryz.underlying20
 a20:=Tryz.isAgg20
 z20:=Tryz.sizeOf20
 v20:=Tryz.zeroValue20
 t37:=Tryz.underlying44
 a37:=Tryz.isAgg44
 z37:=Tryz.sizeOf44
 v37:=Tryz.zeroValue44
 t46:=Tryz.underlying40
 a46:=Tryz.isAgg40
 z46:=Tryz.sizeOf40
 v46:=Tryz.zeroValue40
 t51:=Tryz.underlying147
 a51:=Tryz.isAgg147
 z51:=Tryz.sizeOf147
 v51:=Tryz.zeroValue147
 t53:=Tryz.underlying80
 a53:=Tryz.isAgg80
 z53:=Tryz.sizeOf80
 v53:=Tryz.zeroValue80
 t171:=Tryz.underlying159
 a171:=Tryz.isAgg159
 z171:=Tryz.sizeOf159
 v171:=Tryz.zeroValue159
 t173:=Tryz.underlying162
 a173:=Tryz.isAgg162
 z173:=Tryz.sizeOf162
 v173:=Tryz.zeroValue162
 t212:=Tryz.underlying203
 a212:=Tryz.isAgg203
 z212:=Tryz.sizeOf203
 v212:=Tryz.zeroValue203
 t213:=Tryz.underlying204
 a213:=Tryz.isAgg204
 z213:=Tryz.sizeOf204
 t232:=Tryz.underlying279
 a232:=Tryz.isAgg279
 z232:=Tryz.sizeOf279
 v232:=Tryz.zeroValue279
 t233:=Tryz.underlying280
 a233:=Tryz.isAgg280
 z233:=Tryz.sizeOf280
 v233:=Tryz.zeroValue280
 g17:=by kernel_rfl
 g18:=by kernel_rfl
 g19:=by kernel_rfl
 i0:=by kernel_rfl
 i2:=by kernel_rfl
 i3:=by kernel_rfl
 i4:=by kernel_rfl
 i5:=by kernel_rfl
 i9:=by kernel_rfl
 i20:=by kernel_rfl
 i37:=by kernel_rfl
 i46:=by kernel_rfl
 i51:=by kernel_rfl
 i53:=by kernel_rfl
 i171:=by kernel_rfl
 i173:=by kernel_rfl
 i212:=by kernel_rfl
 i232:=by kernel_rfl
 i233:=by kernel_rfl
 m17:=by kernel_rfl
 m18:=by kernel_rfl
 m19:=by kernel_rfl}
open Go.RowKit Go.Sort Go.Lib in
theorem Tryz.strconv_Itoa (n:Int) (h0:-9223372036854775808≤n) (h1:n≤9223372036854775807) (w:World) (SP:Lib.TabIs Tryz.prog w "internal/strconv.uint64pow10" .u64 Lib.pow10Tab):
 Calls Tryz.prog 48 #[.int .i64 n] w fun e w'=>e=.returned (.string ⟨(Lib.itoa n).toArray⟩)∧∃k os,w'=grow (w.drewN k) os:=Any.strconv_Itoa Tryz.laysM171 n h0 h1 w SP
end Go.Proofs
namespace Go.Proofs.YtgeoiflbjcehcaaGreatDoor
open Go X
theorem Nk (σ:PH) (n:Int) (h0:-9223372036854775808≤n) (h1:n≤9223372036854775807) (hT:py σ):
 ah Tryz.prog 48 #[i64 n] σ [] (aA fun v aj al=>v=.string (cY n)∧σ=aj∧al=[]):=by
 (refine ah.below (enters Tryz.func48 rfl rfl) fun w hw=>?_;refine(Tryz.strconv_Itoa n h0 h1 w (hT w hw)).mono ?_);rintro e w' ⟨rfl,k,os,rfl⟩;exact⟨_,rfl,rfl,xD w k os⟩
section
variable (σ:PH) (b:Nat) (v:Value) (acc:ByteArray) (g c:Nat)
end
theorem Ix (a sep:ByteArray):B9 [a] sep=a:=by
 apply ByteArray.ext;simp[B9,Lib.join_one]
theorem Nl (a b s:List UInt8):Lib.join [a,b] s=a++(s++b):=by rw[Lib.join_cons];simp[Lib.joinTail]
theorem Gv (a b c s:List UInt8):Lib.join [a,b,c] s=(a++(s++b))++(s++c):=by rw[Lib.join_cons];simp[Lib.joinTail]
theorem AP (a b sep:ByteArray):B9 [a,b] sep=a++(sep++b):=by
 apply ByteArray.ext;apply Array.toList_inj.1;simp[B9,Nl]
theorem vV (a b c sep:ByteArray):B9 [a,b,c] sep=(a++(sep++b))++(sep++c):=by
 apply ByteArray.ext;apply Array.toList_inj.1;simp[B9,Gv]
theorem Ek:∀(xs:List ByteArray),B9 xs vR=jW xs
 |[]=>rfl
 |x::r=>by
  have key:∀(r:List ByteArray) (t:ByteArray),r.foldl (fun t y=>t++vR++y) t=t++⟨(Lib.joinTail vR.data.toList (r.map (·.data.toList))).toArray⟩:=by
   intro r
   induction r with
   |nil=>intro t;apply ByteArray.ext;simp[Lib.joinTail]
   |cons y r ih=>
    intro t;rw[List.foldl_cons,ih];apply ByteArray.ext;apply Array.toList_inj.1;simp[Lib.joinTail]
  show _=r.foldl (fun t y=>t++vR++y) x;rw[key];apply ByteArray.ext;apply Array.toList_inj.1;rw[B9,List.map_cons,Lib.join_cons];simp
theorem vk (σ:PH) (n:Int) (hn:aG n) (hT:py σ):ah Tryz.prog 69 #[i64 n] σ [] (aA fun v aj al=>v=.string (cY n)∧σ=aj∧al=[]):=by
 refine cM Tryz.func69 ?_;refine bJ ?_;refine yC (Nk σ n hn.1 hn.2 hT) ?_;refine bY ?_;exact bC rfl rfl ⟨rfl,rfl,rfl⟩
theorem qk (l:List Int) (i:Nat) (n:Int) (h:l[i]? =some n):dD (l.take (i+1))=dD (l.take i)++(wN++cY n):=by
 rw[dD,List.take_add_one,h];simp[dD]
theorem X.ah.acb {P:Program} {f:FuncId} {vs:Array Value} {σ:PH} {Γ al:List HP} {R:HP} {α:Sort _} {φ:α→PH→Prop} {RR:Ending→PH→List HP→Prop} (he:Enters P f) (s:dm Γ R al) (ho:∀m,R m→∃x,φ x m) (mono:∀x m m',φ x m→m.sub m'→φ x m') (k:∀aj x,φ x aj→σ.sub aj→ah P f vs aj al RR):ah P f vs σ Γ RR:=
 ⟨he,fun fr h hh=>by obtain⟨aj,x,a,b,c⟩:=fl hh s ho mono;exact(k aj x a b).2 fr h c⟩
theorem qS:∀(l:List Int),(∀x∈l,aG x)→∀i,(dD (l.take i)).size≤22*i
 |l,h,0=>by simp[dD]
 |l,h,i+1=>by
  have ih:=qS l h i
  cases hx:l[i]? with
  |none=>rw[List.take_add_one,hx];simp only[Option.toList_none,List.append_nil];omega
  |some n=>
   rw[qk l i n hx];have:=eP (h n (fg hx));simp only[jX];have e:wN.size=1:=rfl;omega
theorem Iy (σ:PH) (v:Value) (l:List Int) (h:a7 σ v l) (hT:py σ) (hl:∀x∈l,aG x) (hn:l.length≤1000000):
 ah Tryz.prog 71 #[v] σ [] (aA fun r aj al=>r=.string (dD l)∧σ=aj∧al=[]):=by
 obtain⟨p,c,rfl,h1,h2⟩:=h.shape;simp only[maxLen] at h2;(refine cM Tryz.func71 ?_;refine iA ?_;refine XA.gen [(2,_),(3,_),(6,_),(7,_),(8,_)] iX fun δ=>?_);dsimp only[List.foldl];refine XA.loop [(3,3),(5,5),(8,17)] (fun x:Nat×ByteArray=>[(8,i64 x.1),(3,.string x.2)]) (fun x aj al=>σ=aj∧x.1≤l.length∧x.2=dD (l.take x.1)∧al=[]) (fun x=>l.length-x.1) (0,ByteArray.empty) mO (Δ0:=_) ?_ (⟨rfl,cg _,by simp[dD],rfl⟩) ?_
 ·exact zE
 rintro⟨i,s⟩ δ _ _ ⟨rfl,hi,hs,rfl⟩;dsimp only[dq,List.foldl];simp only at hi hs;by_cases aV:i<l.length
 ·obtain⟨n,Us⟩:∃n,l[i]? =some n:=⟨_,b9 aV⟩;obtain⟨g,o,rfl,bG⟩:=h.at Us;rw[Nat.mul_one] at bG;have cR:=hl n (fg Us);have hle:=eP cR;have gO:=qS l hl i;rw[←hs] at gO;(have e3:s++(wN++cY n)=dD (l.take (i+1)):=by rw[qk l i n Us,hs]);refine a8 ?_;refine iQ ?_;refine eA ?_;refine yC (uJ σ n cR.1 cR.2 hT) ?_;refine zO rfl (X.Rd.fi rfl rfl (by show 1+(cY n).size≤_;omega)) ?_;refine zO rfl (X.Rd.fi rfl rfl (by show s.size+(wN++cY n).size≤_;rw[jX];have e:wN.size=1:=rfl;omega)) ?_;refine bt ?_;refine⟨bQ,(i+1,s++(wN++cY n)),_,zM,?_,⟨rfl,aV,e3,rfl⟩,ad⟩
  ·exact zE
 ·have e:l.take i=l:=List.take_of_length_le ad;rw[e] at hs;refine a8 ?_;refine ik ?_;refine bm ?_;exact bC rfl rfl ⟨by rw[hs],rfl,rfl⟩
theorem Cc {α β:Type} (f:α→β):∀(l:List α),(l.map fun x=>[f x]).flatten=l.map f
 |[]=>rfl
 |x::l=>by rw[List.map_cons,List.flatten_cons,Cc f l];rfl
theorem Nn (σ:PH) (gd:Nat) (vs:List Value) (acc:ByteArray) (g:Nat) (xs:List ByteArray) (hx:∀x∈xs,x.size≤maxLen) (h0:0<xs.length) (hn:xs.length≤1000) (hb:acc.size+(B9 xs wN).size+1≤1000000000) (hv:vs.length=3):
 ah Tryz.prog 24 #[ptr gd,.slice (some ⟨g,0,none⟩) xs.length xs.length] σ [eF 49 gd vs acc,aw g (xs.map Value.string) 9] (aA fun v aj al=>v=.tuple #[]∧σ.sub aj∧al=[eF 49 gd vs (fq acc (B9 xs wN))]):=by
 refine X.ah.acb (enters Tryz.func24 rfl rfl) (dm.tail dm.head) Bp oh ?_;rintro cO ⟨⟩ bG bz
 have uR:bV 1 pw cO (.slice (some ⟨g,0,none⟩) xs.length xs.length) xs:=by
  refine⟨_,_,xs.map fun x=>[Value.string x],rfl,bX _,kB,aZ,?_,?_,fun _=>⟨g,0,rfl,?_⟩⟩
  ·intro row hr;obtain⟨x,-,rfl⟩:=List.mem_map.1 hr;rfl
  ·intro i row x a b;rw[List.getElem?_map,b] at a;cases a;exact⟨rfl,hx x (fg b)⟩
  ·rw[Cc];exact bG
 have hj:=Ng cO _ xs ⟨#[32]⟩ uR ad (by show (B9 xs wN).size≤_;omega);have hw:=Qq cO 49 gd vs acc (B9 xs wN++vR) (by rw[jX];have e:vR.size=1:=rfl;omega) (by rw[hv];kernel_rfl);refine cw Tryz.func24 ?_;refine et 7 1620 [4,6] (ar.bB (R:=eF 49 gd vs acc) zL (ar.nil _)) ?_;refine bY ?_;refine aP.b7 rfl rfl Gd.free aC (ax.cE (hj) rfl) ?_;rintro _ _ _ ⟨_,⟨rfl,rfl,rfl⟩,rfl⟩;refine aP.cl ?_;refine zu rfl rfl (X.Rd.fi rfl rfl (by show (B9 xs wN).size+1≤_;omega)) ?_;refine aP.b7 rfl rfl Gd.free aC (ax.cE (hw) rfl) ?_;rintro _ _ _ ⟨_,⟨rfl,rfl,rfl⟩,rfl⟩;refine aP.cl ?_;refine bS ?_;exact iN rfl ⟨rfl,bz,rfl⟩
theorem El (σ:PH) (gd:Nat) (v0 v1 v2:Value) (acc:ByteArray) (g:Nat) (a:ByteArray) (hb:acc.size+a.size+1≤1000000000):
 ah Tryz.prog 24 #[ptr gd,.slice (some ⟨g,0,none⟩) 1 1] σ [eF 49 gd [v0,v1,v2] acc,aw g [.string a] 9] (aA fun v aj al=>v=.tuple #[]∧σ.sub aj∧al=[eF 49 gd [v0,v1,v2] (fq acc a)]):=by
 have h:=Nn σ gd [v0,v1,v2] acc g [a] (fun x hx=>by rw[List.mem_singleton] at hx;subst hx;simp only[maxLen];omega) aZ aZ (by rw[Ix];exact hb) rfl;rw[Ix] at h;exact h
theorem Iz (σ:PH) (gd:Nat) (v0 v1 v2:Value) (acc:ByteArray) (g:Nat) (a:ByteArray) (n:Int) (hn:aG n) (ha:a.size≤100) (hb:acc.size+200≤1000000000):
 ah Tryz.prog 24 #[ptr gd,.slice (some ⟨g,0,none⟩) 2 2] σ [eF 49 gd [v0,v1,v2] acc,aw g [.string a,.string (cY n)] 9] (aA fun v aj al=>v=.tuple #[]∧σ.sub aj∧al=[eF 49 gd [v0,v1,v2] (fq acc (cD a n))]):=by
 have hi:=eP hn;have e1:wN.size=1:=rfl
 have h:=Nn σ gd [v0,v1,v2] acc g [a,cY n] (fun x hx=>by
  simp only[List.mem_cons,List.not_mem_nil,or_false] at hx
  rcases hx with rfl|rfl<;>(simp only[maxLen];omega)) aZ aZ (by rw[AP];simp only[jX];omega) rfl
 rw[AP] at h;exact h
theorem Yg (σ:PH) (gd:Nat) (v0 v1 v2:Value) (acc:ByteArray) (g:Nat) (a:ByteArray) (n m:Int) (hn:aG n) (hm:aG m) (ha:a.size≤100) (hb:acc.size+200≤1000000000):
 ah Tryz.prog 24 #[ptr gd,.slice (some ⟨g,0,none⟩) 3 3] σ [eF 49 gd [v0,v1,v2] acc,aw g [.string a,.string (cY n),.string (cY m)] 9] (aA fun v aj al=>v=.tuple #[]∧σ.sub aj∧al=[eF 49 gd [v0,v1,v2] (fq acc (cD (cD a n) m))]):=by
 have hi:=eP hn;have vC:=eP hm;have e1:wN.size=1:=rfl
 have h:=Nn σ gd [v0,v1,v2] acc g [a,cY n,cY m] (fun x hx=>by
  simp only[List.mem_cons,List.not_mem_nil,or_false] at hx
  rcases hx with rfl|rfl|rfl<;>(simp only[maxLen];omega)) aZ aZ (by rw[vV];simp only[jX];omega) rfl
 rw[vV] at h;exact h
theorem gW {n:Int} (h:aG n) (a:ByteArray):(cD a n).size≤a.size+22:=by
 have:=eP h;have e:wN.size=1:=rfl;simp only[cD,jX];omega
theorem kj {l:List Int} (h:∀x∈l,aG x):(dD l).size≤22*l.length:=by
 have:=qS l h l.length
 rwa [List.take_length] at this
theorem vW {c:Int} {out cells:List Int} (hc:aG c) (Qr:∀x∈out,aG x) (Ff:∀x∈cells,aG x):told (jr c out cells)≤22*(out.length+cells.length)+100:=by
 have h1:=gW hc k8;have h2:=kj Qr;have h3:=kj Ff;have e3:k8.size=4:=rfl;have e4:zv.size=3:=rfl;have e5:vg.size=5:=rfl;simp only[jr,told,jX];omega
theorem Em (σ:PH) (gd:Nat) (v0 v1 v2:Value) (acc:ByteArray) (c:Int) (ov cv:Value) (out cells:List Int) (hc:aG c) (ho:a7 σ ov out) (hl:a7 σ cv cells) (hT:py σ) (Qr:∀x∈out,aG x) (Ff:∀x∈cells,aG x) (OB:out.length≤1000000) (TT:cells.length≤1000000) (hb:acc.size+22*(out.length+cells.length)+400≤1000000000):
 ah Tryz.prog 43 #[ptr gd,.agg #[i64 c,ov,cv]] σ [eF 49 gd [v0,v1,v2] acc] (aA fun v aj al=>v=.tuple #[]∧σ.sub aj∧al=[eF 49 gd [v0,v1,v2] (dR acc (jr c out cells))]):=by
 have hoz:=kj Qr;have hcz:=kj Ff;have hci:=eP hc;have e1:wN.size=1:=rfl;have e2:vR.size=1:=rfl;have e3:k8.size=4:=rfl;have e4:zv.size=3:=rfl;have e5:vg.size=5:=rfl;have z1:(fq acc (cD k8 c)).size≤acc.size+30:=by simp only[fq,cD,jX];omega
 have z2:(fq (fq acc (cD k8 c)) (zv++dD out)).size≤acc.size+40+22*out.length:=by
  rw[fq];simp only[jX];omega
 obtain⟨po,co,rfl,-,-⟩:=ho.shape;obtain⟨pc,cc,rfl,-,-⟩:=hl.shape;(refine cw Tryz.func43 ?_;refine aU ?_;refine cP fun g3=>?_;refine bg ?_;refine yC (vk σ c hc hT) ?_;refine zw rfl (ax.bs (fun _ _=>ae) rfl rfl rfl rfl rfl) ?_);rintro _ _ _ ⟨g8,rfl,rfl,rfl⟩;refine zw rfl (ax.cE (Iz σ gd v0 v1 v2 acc _ k8 c hc au ad) rfl) ?_;rintro _ cO _ ⟨_,⟨rfl,bz,rfl⟩,rfl⟩;refine az.cl ?_;have TU:=ho.mono bz;have BA:=hl.mono bz;have oW:=hT.mono bz;refine bg ?_;refine yC (Iy cO _ out TU oW Qr OB) ?_;refine zO rfl (X.Rd.fi rfl rfl (by show 3+(dD out).size≤_;omega)) ?_;refine zw rfl (ax.jY (ae rfl) rfl (ae rfl)) ?_;rintro _ _ _ ⟨g15,rfl,rfl,rfl⟩;refine zw rfl (ax.cE (El cO gd v0 v1 v2 (fq acc (cD k8 c)) _ (zv++dD out) G6) rfl) ?_;rintro _ cL _ ⟨_,⟨rfl,bT,rfl⟩,rfl⟩;refine az.cl ?_;have nh:=BA.mono bT;have n8:=oW.mono bT;refine a8 ?_;refine yC (Iy cL _ cells nh n8 Ff TT) ?_;refine zO rfl (X.Rd.fi rfl rfl (by show 5+(dD cells).size≤_;omega)) ?_;refine zw rfl (ax.jY (ae rfl) rfl (ae rfl)) ?_;rintro _ _ _ ⟨g22,rfl,rfl,rfl⟩;refine zw rfl (ax.cE (El cL gd v0 v1 v2 (fq (fq acc (cD k8 c)) (zv++dD out)) _ (vg++dD cells) G6) rfl) ?_;rintro _ fZ _ ⟨_,⟨rfl,cQ,rfl⟩,rfl⟩;refine az.cl ?_;refine bS ?_;exact iN rfl ⟨rfl,bz.trans (bT.trans cQ),rfl⟩
theorem wO (n:Int):aG (pX n):=by
 rw[pX,IntKind.wrap_i64];constructor<;>omega
theorem En (vs:List Va) (x:Ex):OD x→∀i∈ay vs x,aG i.n:=by
 refine Ex.ind (P:=fun x=>OD x→∀i∈ay vs x,aG i.n) ?_ x;intro op v n l ih h i hi;rw[OD] at h;rw[ay] at hi;rcases List.mem_append.1 hi with hi|hi
 ·have key:∀(l:List Ex),(∀y∈l,OD y→∀i∈ay vs y,aG i.n)→zF l→∀i∈bO vs l,aG i.n:=by
   intro l
   induction l with
   |nil=>intro _ _ i hi;rw[bO] at hi;cases hi
   |cons y l CC=>
    intro h1 h2 i hi;rw[zF] at h2;rw[bO] at hi;rcases List.mem_append.1 hi with hi|hi
    ·exact h1 y aZ h2.1 i hi
    ·exact CC (fun z hz=>h1 z (by simp[hz])) h2.2 i hi
  exact key l ih h.2 i hi
 ·rw[List.mem_singleton] at hi;subst hi;exact h.1
theorem Cd:aG 0:=⟨au,au⟩
theorem Np (vs:List Va) (x:St):RW x→∀k,∀i∈bj vs x k,aG i.n:=by
 refine St.ind (P:=fun x=>RW x→∀k,∀i∈bj vs x k,aG i.n) ?_ x;intro op v e f body dn Vp Kv h k i hi;rw[RW] at h;have hE:=En vs e h.1;have hF:=En vs f h.2.1
 have key:∀(l:List St),(∀y∈l,RW y→∀k,∀i∈bj vs y k,aG i.n)→kY l→∀k,∀i∈aK vs l k,aG i.n:=by
  intro l
  induction l with
  |nil=>intro _ _ k i hi;rw[aK] at hi;cases hi
  |cons y l CC=>
   intro h1 h2 k i hi;rw[kY] at h2;rw[aK] at hi;rcases List.mem_append.1 hi with hi|hi
   ·exact h1 y aZ h2.1 k i hi
   ·exact CC (fun z hz=>h1 z (by simp[hz])) h2.2 _ i hi
 have hB:=key body Vp h.2.2.1;have hO:=key dn Kv h.2.2.2
 have hl:∀i∈(if dE op then ay vs e else []),aG i.n:=by
  intro i hi;split at hi
  ·exact hE i hi
  ·cases hi
 rw[bj] at hi;simp only at hi;generalize (if dE op then ay vs e else [])=l at hi hl;(have one:∀(a b c:Int) (i:In),i∈[(⟨a,b,c,0⟩:In)]→aG i.n:=fun a b c i hi=>by rw[List.mem_singleton] at hi;subst hi;exact Cd);split at hi
 ·rcases List.mem_append.1 hi with hi|hi
  ·exact hl i hi
  ·exact one _ _ _ i hi
 split at hi
 ·rcases List.mem_append.1 hi with hi|hi
  ·rcases List.mem_append.1 hi with hi|hi
   ·exact hl i hi
   ·exact hF i hi
  ·exact one _ _ _ i hi
 split at hi
 ·rcases List.mem_append.1 hi with hi|hi
  ·exact hl i hi
  ·exact one _ _ _ i hi
 split at hi
 ·rcases List.mem_append.1 hi with hi|hi
  ·exact hl i hi
  ·exact one _ _ _ i hi
 split at hi
 ·simp only[List.mem_append] at hi;rcases hi with ((hi|hi)|hi)|hi
  ·exact hl i hi
  ·exact one _ _ _ i hi
  ·exact hB _ i hi
  ·exact one _ _ _ i hi
 split at hi
 ·simp only[List.mem_append] at hi;rcases hi with (((hi|hi)|hi)|hi)|hi
  ·exact hl i hi
  ·exact one _ _ _ i hi
  ·exact hB _ i hi
  ·exact one _ _ _ i hi
  ·exact hO _ i hi
 split at hi
 ·exact one _ _ _ i hi
 ·exact hl i hi
theorem ud {p:Pr} (h:kY p.body):∀i∈ak p,aG i.n:=by
 intro i hi;rw[ak] at hi;rcases List.mem_append.1 hi with hi|hi
 ·revert hi;generalize (0:Nat)=k;revert k
  have key:∀(l:List St),kY l→∀k,i∈aK p.vars l k→aG i.n:=by
   intro l
   induction l with
   |nil=>intro _ k hi;rw[aK] at hi;cases hi
   |cons y l CC=>
    intro h2 k hi;rw[kY] at h2;rw[aK] at hi;rcases List.mem_append.1 hi with hi|hi
    ·exact Np p.vars y h2.1 k i hi
    ·exact CC h2.2 _ hi
  exact key p.body h
 ·rw[List.mem_singleton] at hi;subst hi;exact Cd
def MiI (m:Mi):Prop:=(∀x∈m.stack,aG x)∧∀x∈m.cells,aG x
structure yv (b:Be):Prop where
 m:MiI b.m
 kept:MiI b.kept
 out:∀x∈b.out,aG x
theorem Gw {l:List Int} (h:∀x∈l,aG x) (i:Nat):aG (l.getD i 0):=by
 rw[ey]
 cases e:l[i]? with
 |none=>exact Cd
 |some x=>exact h x (fg e)
theorem Nq {l:List Int} {n:Int} (h:∀x∈l,aG x) (hn:aG n) (i:Nat):∀x∈l.set i n,aG x:=by
 intro x hx;rcases List.mem_or_eq_of_mem_set hx with hx|rfl
 ·exact h x hx
 ·exact hn
theorem Ut (op a b:Int):aG (il op a b):=by
 rw[il];split
 ·exact wO _
 split
 ·exact wO _
 split
 ·exact wO _
 split
 ·split<;>exact⟨au,au⟩
 ·split<;>exact⟨au,au⟩
theorem Ce {l:List Int} {n:Int} (hn:aG n) (h:∀x∈l,aG x):∀x∈n::l,aG x:=fun x hx=>by
 rcases List.mem_cons.1 hx with rfl|hx
 ·exact hn
 ·exact h x hx
theorem Uu {inp:List Int} (hi:∀x∈inp,aG x) {keep:Bool} {x:In} (hx:aG x.n) {b:Be} (h:yv b):yv (aN inp keep x b):=by
 obtain⟨⟨hs,hc⟩,hk,ho⟩:=h;obtain⟨⟨next,stack,rd,outn,st,cells⟩,kept,out,wrong⟩:=b;simp only at hs hc hk ho;rw[aN];simp only;by_cases h1:x.op=1
 ·rw[aq h1];exact⟨⟨Ce hx hs,hc⟩,hk,ho⟩
 rw[ag h1];by_cases h2:x.op=2
 ·rw[aq h2];exact⟨⟨Ce (Gw hc _) hs,hc⟩,hk,ho⟩
 rw[ag h2];by_cases h3:x.op=3
 ·rw[aq h3]
  cases stack with
  |nil=>exact⟨⟨hs,hc⟩,hk,ho⟩
  |cons k s=>
   (have ht:∀x∈s,aG x:=fun x hx=>hs x (by simp[hx]));by_cases hq:k<0∨x.b≤k
   ·simp only[aq hq];exact⟨⟨ht,hc⟩,hk,ho⟩
   ·simp only[ag hq];exact⟨⟨Ce (Gw hc _) ht,hc⟩,hk,ho⟩
 rw[ag h3];by_cases h4:4≤x.op∧x.op≤8
 ·rw[aq h4]
  cases stack with
  |nil=>exact⟨⟨hs,hc⟩,hk,ho⟩
  |cons k s=>
   cases s with
   |nil=>exact⟨⟨hs,hc⟩,hk,ho⟩
   |cons z s=>exact⟨⟨Ce (Ut _ _ _) (fun x hx=>hs x (by simp[hx])),hc⟩,hk,ho⟩
 rw[ag h4];by_cases h9:x.op=9
 ·rw[aq h9]
  cases stack with
  |nil=>exact⟨⟨hs,hc⟩,hk,ho⟩
  |cons k s=>exact⟨⟨fun x hx=>hs x (by simp[hx]),Nq hc (hs k aZ) _⟩,hk,ho⟩
 rw[ag h9];by_cases wL:x.op=10
 ·rw[aq wL]
  cases stack with
  |nil=>exact⟨⟨hs,hc⟩,hk,ho⟩
  |cons n s=>
   cases s with
   |nil=>exact⟨⟨hs,hc⟩,hk,ho⟩
   |cons k s=>
    (have ht:∀x∈s,aG x:=fun x hx=>hs x (by simp[hx]));by_cases hq:k<0∨x.b≤k
    ·simp only[aq hq];exact⟨⟨ht,hc⟩,hk,ho⟩
    ·simp only[ag hq];exact⟨⟨ht,Nq hc (hs n aZ) _⟩,hk,ho⟩
 rw[ag wL];by_cases rD:x.op=11
 ·rw[aq rD]
  cases stack with
  |nil=>exact⟨⟨hs,hc⟩,hk,ho⟩
  |cons n s=>
   (have ht:∀x∈s,aG x:=fun x hx=>hs x (by simp[hx]));by_cases hq:outn=out.length
   ·simp only[aq hq]
    exact⟨⟨ht,hc⟩,hk,fun x hx=>by
     rcases List.mem_append.1 hx with hx|hx
     ·exact ho x hx
     ·rw[List.mem_singleton] at hx;subst hx;exact hs x aZ⟩
   ·simp only[ag hq];exact⟨⟨ht,hc⟩,hk,ho⟩
 rw[ag rD];by_cases xF:x.op=12
 ·rw[aq xF];by_cases hq:inp.length≤rd
  ·rw[aq hq];exact⟨⟨hs,hc⟩,hk,ho⟩
  ·rw[ag hq];exact⟨⟨hs,Nq hc (Gw hi _) _⟩,hk,ho⟩
 rw[ag xF];by_cases CH:x.op=13
 ·rw[aq CH]
  cases stack with
  |nil=>exact⟨⟨hs,hc⟩,hk,ho⟩
  |cons n s=>
   (have ht:∀x∈s,aG x:=fun x hx=>hs x (by simp[hx]));by_cases hq:n=0
   ·simp only[aq hq];exact⟨⟨ht,hc⟩,hk,ho⟩
   ·simp only[ag hq];exact⟨⟨ht,hc⟩,hk,ho⟩
 rw[ag CH];by_cases wo:x.op=14
 ·rw[aq wo];exact⟨⟨hs,hc⟩,hk,ho⟩
 rw[ag wo];by_cases ki:x.op=15
 ·rw[aq ki]
  cases keep with
  |true=>exact⟨⟨hs,hc⟩,⟨hs,hc⟩,ho⟩
  |false=>exact⟨⟨hs,hc⟩,hk,ho⟩
 rw[ag ki];by_cases CI:x.op=16
 ·rw[aq CI];exact⟨⟨hs,hc⟩,hk,ho⟩
 ·rw[ag CI];exact⟨⟨hs,hc⟩,hk,ho⟩
theorem IA {code:List In} (ns:∀i∈code,aG i.n) {inp:List Int} (hi:∀x∈inp,aG x) {keep:Bool} {b:Be} (h:yv b):yv (cW code inp keep b):=by
 rw[cW]
 cases e:code[b.m.next]? with
 |none=>exact h
 |some x=>exact Uu hi (ns x (fg e)) ⟨h.m,h.kept,h.out⟩
theorem Gx {code:List In} (ns:∀i∈code,aG i.n) {inp:List Int} (hi:∀x∈inp,aG x):∀(f:Nat) {b:Be},yv b→yv (runM code inp f b).1
 |0,b,h=>h
 |f+1,b,h=>by
  rw[runM];split
  ·exact h
  ·exact Gx ns hi f (IA ns hi h)
theorem IB (n:Nat):yv (sj n):=by
 (have hz:∀x∈List.replicate n (0:Int),aG x:=fun x hx=>by rw[List.eq_of_mem_replicate hx];exact Cd);exact⟨⟨fun x hx=>(by cases hx),hz⟩,⟨fun x hx=>(by cases hx),hz⟩,fun x hx=>(by cases hx)⟩
theorem Cf {code:List In} (ns:∀i∈code,aG i.n) {inp:List Int} (hi:∀x∈inp,aG x) {L:Li} (h:yv L.b):yv (eg code inp L).b:=by
 show yv (bp code inp true L.b);rw[bp];split
 ·exact IA ns hi h
 ·exact h
theorem Cg {L:Li} (h:yv L.b):yv (tZ L).b:=⟨h.kept,h.kept,h.out⟩
theorem Nr {code:List In} (ns:∀i∈code,aG i.n) {inp:List Int} (hi:∀x∈inp,aG x):∀(f:Nat) {L:Li},yv L.b→yv (jn code inp f L).1.b
 |0,L,h=>h
 |f+1,L,h=>by
  rw[jn];split
  ·exact Nr ns hi f (Cf ns hi h)
  ·exact h
theorem IC {code:List In} (ns:∀i∈code,aG i.n) {inp:List Int} (hi:∀x∈inp,aG x) {K:Int} {bit:Bool}:∀(f:Nat) {L:Li},yv L.b→yv (fe code inp K bit f L).1.b
 |0,L,h=>h
 |f+1,L,h=>by
  rw[fe];split
  ·show yv (fj code inp K bit L).b;rw[fj];split
   ·exact Cg (Cf ns hi h)
   ·exact Cg h
  split
  ·exact IC ns hi f (Cf ns hi h)
  ·exact h
theorem RX {code:List In} (ns:∀i∈code,aG i.n) {inp:List Int} (hi:∀x∈inp,aG x) (s:oP) {L:Li} (h:yv L.b):yv (jV code inp s L).1.b:=by
 rw[jV];split
 ·exact h
 split
 ·exact Nr ns hi _ h
 split
 ·exact IC ns hi _ h
 ·exact Cg h
def NZ {α:Type} (a:PR α):Prop:=∀x,a=.error x→x.1≠0
theorem fu {e:Int} {l:List Tk} {c:Int} (h:c≠0):(bD e l c).1≠0:=by
 cases l with
 |nil=>
  rw[bD];by_cases q:c=5
  ·rw[aq q];show (6:Int)≠0;decide
  ·rw[ag q];exact h
 |cons t r=>exact h
theorem NZ.fail {α:Type} {e:Int} {l:List Tk} {c:Int} (h:c≠0):NZ (.error (bD e l c):PR α):=fun x q=>by cases q;exact fu h
theorem NZ.ok {α:Type} {y:α×List Tk}:NZ (.ok y:PR α):=fun x q=>by cases q
theorem jS {α β:Type} {a:PR α} {k:α→List Tk→PR β} (h:NZ a) (hk:∀x r,a=.ok (x,r)→NZ (k x r)):NZ (aT a k):=by
 cases a with
 |error x=>exact fun y q=>by cases q;exact h x rfl
 |ok y=>obtain⟨x,r⟩:=y;exact hk x r rfl
theorem IE {e:Int} {l:List Tk}:NZ (gM e l):=fun x h=>by rw[(tf h).1];exact fu au
theorem Ns {e:Int} {l:List Tk}:NZ (dY e l):=fun x h=>by rw[(uN h).1];exact fu au
theorem IF {vl:List Va} {e:Int} {l:List Tk}:NZ (gk vl e l):=fun x h=>by
 rcases lZ h with ⟨rfl,-⟩|⟨t,r,-,rfl,-⟩
 ·exact fu au
 ·exact fu au
theorem Nt {vl:List Va} {e:Int} {k:Nat} {l:List Tk}:NZ (fH vl e k l):=by
 intro x h;rw[fH] at h;split at h
 ·cases q:gM e l with
  |error y=>rw[q] at h;cases h;exact IE _ q
  |ok y=>rw[q] at h;cases h
 ·split at h
  ·cases q:gk vl e l with
   |error y=>rw[q] at h;cases h;exact IF _ q
   |ok y=>rw[q] at h;cases h
  ·cases h
theorem AR {α:Type} {e:Int} {x:α} {l:List Tk}:NZ (cT e x l):=by
 rw[cT];split
 ·exact NZ.ok
 ·exact NZ.fail au
theorem Eo {α:Type} {E:List Tk→PR α} (hE:∀l,NZ (E l)):∀(m:Nat) (l:List Tk) (acc:List α),NZ (dX E m l acc)
 |0,l,acc=>NZ.ok
 |m+1,l,acc=>by
  intro x h;rw[dX] at h
  cases q:E l with
  |error y=>rw[q] at h;cases h;exact hE l _ q
  |ok y=>obtain⟨a,r⟩:=y;rw[q] at h;exact Eo hE m r _ x h
theorem yx {vl:List Va} {e:Int}:∀(f:Nat) (l:List Tk),NZ (bL vl e f l)
 |0,l=>NZ.fail au
 |f+1,l=>by
  intro x h;rw[bL] at h;split at h
  ·cases hk:iC cS 8 l.tail with
   |none=>rw[hk] at h;cases h;exact fu au
   |some k=>
    rw[hk] at h;simp only at h
    cases hh:fH vl e k l.tail.tail with
    |error y=>rw[hh] at h;cases h;exact Nt _ hh
    |ok y=>
     obtain⟨vn,l3⟩:=y;rw[hh] at h;simp only at h
     cases hs:dX (bL vl e f) (partsOf k).toNat l3 [] with
     |error y=>rw[hs] at h;cases h;exact Eo (yx f) _ _ _ _ hs
     |ok z=>obtain⟨xs,l4⟩:=z;rw[hs] at h;exact AR x h
  ·cases h;exact fu au
theorem Ep {S:List Tk→PR St} (hS:∀l,NZ (S l)) (aV:∀l x l',S l=.ok (x,l')→l'.length<l.length):∀(g:Nat) (l:List Tk) (acc:List St),l.length<g→NZ (iF S g l acc)
 |0,l,acc,hg=>by omega
 |g+1,l,acc,hg=>by
  intro x h;rw[iF] at h;split at h
  ·cases h
  ·cases q:S l with
   |error y=>rw[q] at h;cases h;exact hS l _ q
   |ok y=>obtain⟨a,r⟩:=y;rw[q] at h;have:=aV l a r q;exact Ep hS aV g r _ ad x h
theorem Er {S:List Tk→PR St} {e:Int} (hS:∀l,NZ (S l)) (aV:∀l x l',S l=.ok (x,l')→l'.length<l.length) (l:List Tk):NZ (dA S e l):=by
 rw[dA];split
 ·exact Ep hS aV _ _ _ ad
 ·exact NZ.fail au
theorem uf {α:Type} {b:Bool} {z:α} {a:List Tk→PR α} (ha:∀l,NZ (a l)) (l:List Tk):NZ (cA b z a l):=by
 rw[cA];split
 ·exact ha l
 ·exact NZ.ok
theorem yy {vl:List Va} {e:Int}:∀(f:Nat) (l:List Tk),NZ (bH vl e f l)
 |0,l=>NZ.fail au
 |f+1,l=>by
  (have aV:∀l x l',bH vl e f l=.ok (x,l')→l'.length<l.length:=fun l x l' h=>(eI f l x l' h).2);rw[bH];split
  ·cases hk:iC eH 7 l.tail with
   |none=>exact NZ.fail au
   |some k=>
    exact jS (uf (fun _=>IF) _) fun v r _=>jS (uf (yx f) _) fun x r _=>jS (uf (yx f) _) fun y r _=>
     jS (uf (Er (yy f) aV) _) fun b r _=>jS (uf (Er (yy f) aV) _) fun el r _=>AR
  ·exact NZ.fail au
theorem Es {e:Int}:∀(g:Nat) (l:List Tk) (acc:List Va),l.length<g→NZ (iZ e g l acc)
 |0,l,acc,hg=>by omega
 |g+1,l,acc,hg=>by
  rw[iZ];split
  ·(refine jS Ns fun s r h1=>jS IE fun n r2 h2=>?_);obtain⟨t,rfl,-,-⟩:=oC h2;obtain⟨t',e1,-,-⟩:=kE h1;have:=congrArg List.length e1;rw[List.length_tail] at this;simp only[bF] at this;exact Es g r2 _ ad
  ·exact NZ.ok
theorem Et {S:List Tk→PR St} (hS:∀l,NZ (S l)) (aV:∀l x l',S l=.ok (x,l')→l'.length<l.length):∀(g:Nat) (l:List Tk) (acc:List St),l.length<g→NZ (ja S g l acc)
 |0,l,acc,hg=>by omega
 |g+1,l,acc,hg=>by
  intro x h;rw[ja] at h;split at h
  ·cases h
  ·cases q:S l with
   |error y=>rw[q] at h;cases h;exact hS l _ q
   |ok y=>obtain⟨a,r⟩:=y;rw[q] at h;have:=aV l a r q;exact Et hS aV g r _ ad x h
theorem Nu {e:Int} {l:List Tk}:NZ (jb e l):=by
 rw[jb];exact jS (Es _ _ _ ad) fun vl r _=>jS (Et (yy 13) (fun l x l' h=>(eI 13 l x l' h).2) _ _ _ ad) fun b r _=>NZ.ok
theorem kl {s:ByteArray} {x:Int×Int} (h:br s=.error x):x.1≠0:=by
 rw[br] at h
 cases hs:fy s with
 |error y=>
  rw[hs] at h;cases h;rw[fy] at hs;split at hs
  ·cases hs;show (3:Int)≠0;decide
  ·cases hl:iY s (s.size+1) (bf dH s 0) [] with
   |ok l'=>rw[hl] at hs;cases hs
   |error i=>rw[hl] at hs;cases hs;show (7:Int)≠0;decide
 |ok l=>
  rw[hs] at h;simp only at h
  cases hp:jb s.size l with
  |error y=>rw[hp] at h;cases h;exact Nu _ hp
  |ok y=>
   obtain⟨pr,r⟩:=y;rw[hp] at h;simp only at h;split at h
   ·rename_i hc;cases h;exact hc
   ·cases h
def AQ (l:List Tk):Prop:=∀t∈l,aG t.at_
theorem AQ.sub {l r:List Tk} (h:AQ l) (s:Sub r l):AQ r:=fun t ht=>h t (s.1 t ht)
theorem AQ.tail {l:List Tk} (h:AQ l):AQ l.tail:=h.sub (Sub.tail l)
def I2 (x:Int×Int):Prop:=aG x.1∧aG x.2
def pA {α:Type} (a:PR α):Prop:=∀x,a=.error x→I2 x
theorem mz {e:Int} (he:aG e) {l:List Tk} (hl:AQ l) {c:Int} (hc:aG c):I2 (bD e l c):=by
 cases l with
 |nil=>
  rw[bD];by_cases q:c=5
  ·rw[aq q];exact⟨(show aG 6 from ⟨au,au⟩),he⟩
  ·rw[ag q];exact⟨hc,he⟩
 |cons t r=>exact⟨hc,hl t aZ⟩
theorem k5:aG 5:=⟨au,au⟩
theorem k4:aG 4:=⟨au,au⟩
theorem pA.ok {α:Type} {y:α×List Tk}:pA (.ok y:PR α):=fun x q=>by cases q
theorem pA.fail {α:Type} {e:Int} (he:aG e) {l:List Tk} (hl:AQ l) {c:Int} (hc:aG c):pA (.error (bD e l c):PR α):=fun x q=>by cases q;exact mz he hl hc
theorem lD {α β:Type} {a:PR α} {k:α→List Tk→PR β} (h:pA a) (hk:∀x r,a=.ok (x,r)→pA (k x r)):pA (aT a k):=by
 cases a with
 |error x=>exact fun y q=>by cases q;exact h x rfl
 |ok y=>obtain⟨x,r⟩:=y;exact hk x r rfl
section
variable {vl:List Va} {e:Int} (he:aG e)
include he
theorem Nv {l:List Tk} (hl:AQ l):pA (gM e l):=fun x h=>by rw[(tf h).1];exact mz he hl ⟨au,au⟩
theorem Qs {l:List Tk} (hl:AQ l):pA (dY e l):=fun x h=>by rw[(uN h).1];exact mz he hl ⟨au,au⟩
theorem Nw {l:List Tk} (hl:AQ l):pA (gk vl e l):=fun x h=>by
 rcases lZ h with ⟨rfl,-⟩|⟨t,r,q,rfl,-⟩
 ·exact mz he hl ⟨au,au⟩
 ·subst q;exact mz he hl ⟨au,au⟩
theorem Qt {k:Nat} {l:List Tk} (hl:AQ l):pA (fH vl e k l):=by
 intro x h;rw[fH] at h;split at h
 ·cases q:gM e l with
  |error y=>rw[q] at h;cases h;exact Nv he hl _ q
  |ok y=>rw[q] at h;cases h
 ·split at h
  ·cases q:gk vl e l with
   |error y=>rw[q] at h;cases h;exact Nw he hl _ q
   |ok y=>rw[q] at h;cases h
  ·cases h
theorem Eu {α:Type} {x:α} {l:List Tk} (hl:AQ l):pA (cT e x l):=by
 rw[cT];split
 ·exact pA.ok
 ·exact pA.fail he hl k5
omit he in
theorem IG {α:Type} {E:List Tk→PR α} (hE:∀l,AQ l→pA (E l)) (hS:∀l x l',E l=.ok (x,l')→Sub l' l):∀(m:Nat) (l:List Tk) (acc:List α),AQ l→pA (dX E m l acc)
 |0,l,acc,hl=>pA.ok
 |m+1,l,acc,hl=>by
  intro x h;rw[dX] at h
  cases q:E l with
  |error y=>rw[q] at h;cases h;exact hE l hl _ q
  |ok y=>obtain⟨a,r⟩:=y;rw[q] at h;exact IG hE hS m r _ (hl.sub (hS l a r q)) x h
theorem Ch:∀(f:Nat) (l:List Tk),AQ l→pA (bL vl e f l)
 |0,l,hl=>pA.fail he hl k4
 |f+1,l,hl=>by
  intro x h;rw[bL] at h;split at h
  ·cases hk:iC cS 8 l.tail with
   |none=>rw[hk] at h;cases h;exact mz he hl.tail k5
   |some k=>
    rw[hk] at h;simp only at h
    cases hh:fH vl e k l.tail.tail with
    |error y=>rw[hh] at h;cases h;exact Qt he hl.tail.tail _ hh
    |ok y=>
     obtain⟨vn,l3⟩:=y;have h3:AQ l3:=hl.tail.tail.sub (uL hh);rw[hh] at h;simp only at h
     cases hs:dX (bL vl e f) (partsOf k).toNat l3 [] with
     |error y=>rw[hs] at h;cases h;exact IG (Ch f) (fm f) _ _ _ h3 _ hs
     |ok z=>obtain⟨xs,l4⟩:=z;rw[hs] at h;exact Eu he (h3.sub (uM (fm f) _ _ _ _ _ hs)) x h
  ·cases h;exact mz he hl k5
omit he in
theorem IH {S:List Tk→PR St} (hS:∀l,AQ l→pA (S l)) (aV:∀l x l',S l=.ok (x,l')→Sub l' l∧l'.length<l.length):∀(g:Nat) (l:List Tk) (acc:List St),l.length<g→AQ l→pA (iF S g l acc)
 |0,l,acc,hg,hl=>by omega
 |g+1,l,acc,hg,hl=>by
  intro x h;rw[iF] at h;split at h
  ·cases h
  ·cases q:S l with
   |error y=>rw[q] at h;cases h;exact hS l hl _ q
   |ok y=>obtain⟨a,r⟩:=y;rw[q] at h;have:=aV l a r q;exact IH hS aV g r _ ad (hl.sub this.1) x h
theorem II {S:List Tk→PR St} (hS:∀l,AQ l→pA (S l)) (aV:∀l x l',S l=.ok (x,l')→Sub l' l∧l'.length<l.length) (l:List Tk) (hl:AQ l):pA (dA S e l):=by
 rw[dA];split
 ·exact IH hS aV _ _ _ ad hl.tail
 ·exact pA.fail he hl k5
omit he in
theorem yz {α:Type} {b:Bool} {z:α} {a:List Tk→PR α} (ha:∀l,AQ l→pA (a l)) (l:List Tk) (hl:AQ l):pA (cA b z a l):=by
 rw[cA];split
 ·exact ha l hl
 ·exact pA.ok
theorem Ci:∀(f:Nat) (l:List Tk),AQ l→pA (bH vl e f l)
 |0,l,hl=>pA.fail he hl k4
 |f+1,l,hl=>by
  (have aV:∀l x l',bH vl e f l=.ok (x,l')→Sub l' l∧l'.length<l.length:=fun l x l' h=>eI f l x l' h);(have RA:∀l x l',dA (bH vl e f) e l=.ok (x,l')→Sub l' l:=fun l x l' h=>lI (fun l x l' h=>(aV l x l' h).1) h);rw[bH];split
  ·cases hk:iC eH 7 l.tail with
   |none=>exact pA.fail he hl.tail k5
   |some k=>
    have h0:AQ l.tail.tail:=hl.tail.tail;(refine lD (yz (fun _ h=>Nw he h) _ h0) fun v r e1=>?_);have h1:=h0.sub (iG (fun _ _ _=>tj) e1);(refine lD (yz (Ch he f) _ h1) fun x r e2=>?_);have h2:=h1.sub (iG (fm f) e2);(refine lD (yz (Ch he f) _ h2) fun y r e3=>?_);have h3:=h2.sub (iG (fm f) e3);(refine lD (yz (II he (Ci f) aV) _ h3) fun b r e4=>?_);have h4:=h3.sub (iG RA e4);(refine lD (yz (II he (Ci f) aV) _ h4) fun el r e5=>?_);exact Eu he (h4.sub (iG RA e5))
  ·exact pA.fail he hl k5
theorem Cj:∀(g:Nat) (l:List Tk) (acc:List Va),l.length<g→AQ l→pA (iZ e g l acc)∧∀vs r,iZ e g l acc=.ok (vs,r)→AQ r
 |0,l,acc,hg,hl=>by omega
 |g+1,l,acc,hg,hl=>by
  rw[iZ];split
  ·have key:∀s r,dY e l.tail=.ok (s,r)→∀n r2,gM e r=.ok (n,r2)→r2.length<g∧AQ r∧AQ r2:=by
    intro s r h1 n r2 h2;obtain⟨t,rfl,-,-⟩:=oC h2;obtain⟨t',e1,-,-⟩:=kE h1;have hA:=hl.tail;rw[e1] at hA;have:=congrArg List.length e1;rw[List.length_tail] at this;simp only[bF] at this;exact⟨ad,fun t ht=>hA t (by simp only[List.mem_cons] at ht⊢;exact .inr ht),fun t ht=>hA t (by simp[ht])⟩
   refine⟨lD (Qs he hl.tail) fun s r h1=>?_,fun vs r h=>?_⟩
   ·obtain⟨t',e1,-,-⟩:=kE h1;have hA:=hl.tail;rw[e1] at hA;(refine lD (Nv he fun t ht=>hA t (by simp[ht])) fun n r2 h2=>?_);obtain⟨a,-,c⟩:=key s r h1 n r2 h2;exact(Cj g r2 _ a c).1
   ·obtain⟨s,l1,h1,h⟩:=fc h;obtain⟨n,l2,h2,h⟩:=fc h;obtain⟨a,-,c⟩:=key s l1 h1 n l2 h2;exact(Cj g l2 _ a c).2 vs r h
  ·exact⟨pA.ok,fun vs r h=>by cases h;exact hl⟩
omit he in
theorem IJ {S:List Tk→PR St} (hS:∀l,AQ l→pA (S l)) (aV:∀l x l',S l=.ok (x,l')→Sub l' l∧l'.length<l.length):∀(g:Nat) (l:List Tk) (acc:List St),l.length<g→AQ l→pA (ja S g l acc)
 |0,l,acc,hg,hl=>by omega
 |g+1,l,acc,hg,hl=>by
  intro x h;rw[ja] at h;split at h
  ·cases h
  ·cases q:S l with
   |error y=>rw[q] at h;cases h;exact hS l hl _ q
   |ok y=>obtain⟨a,r⟩:=y;rw[q] at h;have:=aV l a r q;exact IJ hS aV g r _ ad (hl.sub this.1) x h
theorem Qu {l:List Tk} (hl:AQ l):pA (jb e l):=by
 rw[jb];obtain⟨h1,h2⟩:=Cj he (l.length+1) l [] ad hl;exact lD h1 fun vl r e1=>lD (IJ (Ci he 13) (fun l x l' h=>eI 13 l x l' h) _ _ _ ad (h2 vl r e1)) fun b r _=>pA.ok
end
theorem AS {s:ByteArray}:∀(f i:Nat) (acc:List Tk) (j:Nat),iY s f i acc=.error j→j≤s.size
 |0,i,acc,j,h=>by cases h
 |f+1,i,acc,j,h=>by
  rw[iY] at h;split at h
  ·rename_i hi;split at h
   ·exact AS f _ _ j h
   ·cases h;omega
  ·cases h
theorem Qv {s:ByteArray} {x:Int×Int} (h:fy s=.error x):I2 x:=by
 rw[fy] at h;split at h
 ·cases h;exact⟨(show aG 3 from ⟨au,au⟩),(show aG 6000 from ⟨au,au⟩)⟩
 ·rename_i h6
  cases hl:iY s (s.size+1) (bf dH s 0) [] with
  |ok l'=>rw[hl] at h;cases h
  |error i=>
   rw[hl] at h;cases h;have:=AS _ _ _ _ hl;exact⟨(show aG 7 from ⟨au,au⟩),(show aG (i:Int) from ⟨ad,ad⟩)⟩
theorem Yh {s:ByteArray} {l:List Tk} {x:Int×Int} (hs:fy s=.ok l) (h:jb s.size l=.error x):I2 x:=by
 obtain⟨h6,cR⟩:=pO hs;refine Qu ⟨ad,ad⟩ (fun t ht=>?_) x h;have:=(cR t ht).at_;exact⟨ad,ad⟩
def JI (e:JE):Prop:=∀c,e=.error c→aG c
theorem JI.fail {e:JE} (h:JI e) {b:Bool} {c:Int} (hc:aG c):JI (e.fail b c):=by
 intro d hd
 cases e with
 |error x=>cases hd;exact h _ rfl
 |ok l=>
  rw[JE.fail] at hd;split at hd
  ·cases hd;exact hc
  ·cases hd
theorem JI.one {e:JE} (h:JI e) (deep:Int):JI (e.one deep):=by
 intro d hd
 cases e with
 |error x=>cases hd;exact h _ rfl
 |ok l=>
  rw[JE.one] at hd;split at hd
  ·cases hd;exact k4
  ·split at hd
   ·cases hd;exact⟨au,au⟩
   ·cases hd
theorem JI.named {e:JE} (h:JI e) {nv v:Int} {is:Bool}:JI (e.named nv v is):=by
 rw[JE.named];exact(h.fail ⟨au,au⟩).fail k5
theorem Nx {nv deep op v n:Int} {k:Nat} {e:JE} (h:JI e):JI (ec nv deep op v n k e):=by
 rw[ec];exact(((h.one deep).fail ⟨au,au⟩).fail k5).named
theorem RY (nv:Int) (x:Ex):∀(deep:Int) (e:JE),JI e→JI (lT nv deep x e):=by
 refine Ex.ind (P:=fun x=>∀(deep:Int) (e:JE),JI e→JI (lT nv deep x e)) ?_ x;intro op v n l ih deep e h;rw[lT]
 have key:∀(l:List Ex),(∀y∈l,∀(deep:Int) (e:JE),JI e→JI (lT nv deep y e))→∀(deep:Int) (e:JE),JI e→JI (iD nv deep l e):=by
  intro l
  induction l with
  |nil=>intro _ deep e h;rw[iD];exact h
  |cons y l CC=>intro h1 deep e h;rw[iD];exact CC (fun z hz=>h1 z (by simp[hz])) deep _ (h1 y aZ deep e h)
 exact key l ih _ _ (Nx h)
theorem Yi (nv:Int) (x:St):∀(deep:Int) (e:JE),JI e→JI (rO nv deep x e):=by
 refine St.ind (P:=fun x=>∀(deep:Int) (e:JE),JI e→JI (rO nv deep x e)) ?_ x;intro op v e f body dn Vp Kv deep s h;rw[rO]
 have key:∀(l:List St),(∀y∈l,∀(deep:Int) (e:JE),JI e→JI (rO nv deep y e))→∀(deep:Int) (e:JE),JI e→JI (ej nv deep l e):=by
  intro l
  induction l with
  |nil=>intro _ deep e h;rw[ej];exact h
  |cons y l CC=>intro h1 deep e h;rw[ej];exact CC (fun z hz=>h1 z (by simp[hz])) deep _ (h1 y aZ deep e h)
 have hh:JI (gh nv deep op v e f body.length dn.length s):=by
  rw[gh];exact(((h.one deep).fail ⟨au,au⟩).fail k5).named
 have hef:JI (rN nv (deep+1) op e f (gh nv deep op v e f body.length dn.length s)):=by
  rw[rN]
  have h1:JI (if dE op then lT nv (deep+1) e (gh nv deep op v e f body.length dn.length s) else gh nv deep op v e f body.length dn.length s):=by
   split
   ·exact RY nv e _ _ hh
   ·exact hh
  split
  ·exact RY nv f _ _ h1
  ·exact h1
 exact key dn Kv _ _ (key body Vp _ _ hef)
theorem Ev:∀(l seen:List Va) (n:Int),aG (gj seen n l)
 |[],seen,n=>(show aG 0 from ⟨au,au⟩)
 |v::l,seen,n=>by
  rw[gj];split
  ·exact⟨au,au⟩
  split
  ·exact⟨au,au⟩
  split
  ·exact⟨au,au⟩
  ·exact Ev l _ _
theorem Ny (p:Pr):aG (bZ p):=by
 rw[bZ];split
 ·rw[checkVars];split
  ·exact⟨au,au⟩
  ·exact Ev _ _ _
 ·have key:∀(l:List St) (deep:Int) (e:JE),JI e→JI (ej p.vars.length deep l e):=by
   intro l
   induction l with
   |nil=>intro deep e h;rw[ej];exact h
   |cons y l CC=>intro deep e h;rw[ej];exact CC deep _ (Yi _ y deep e h)
  have h:=key p.body 0 (.ok 150) (fun c h=>by cases h)
  cases e:ej p.vars.length 0 p.body (.ok 150) with
  |ok b=>exact(show aG 0 from ⟨au,au⟩)
  |error c=>exact h c e
theorem wP {s:ByteArray}:aG (pN (br s))∧aG (Dm (br s)):=by
 have z:aG 0:=⟨au,au⟩
 cases h:br s with
 |ok p=>exact⟨z,z⟩
 |error x=>
  rw[br] at h
  cases hs:fy s with
  |error y=>rw[hs] at h;cases h;exact Qv hs
  |ok l=>
   rw[hs] at h;simp only at h
   cases hp:jb s.size l with
   |error y=>rw[hp] at h;cases h;exact Yh hs hp
   |ok y=>
    obtain⟨pr,r⟩:=y;rw[hp] at h;simp only at h;split at h
    ·cases h;exact⟨Ny pr,(show aG (-1) from ⟨au,au⟩)⟩
    ·cases h
theorem ug {σ:PH} {p:Option Addr} {n c k:Nat} {xs:List ByteArray} (hx:∀x∈xs,x.size≤maxLen) (hn:n=xs.length) (hf:n≤c∧c≤maxLen∧(xs.map Value.string).length=k∧(0<n→∃g o,p=some ⟨g,o,none⟩∧cH σ g o (xs.map Value.string))):bV 1 pw σ (.slice p n c) xs:=by
 subst hn;refine⟨p,c,xs.map fun x=>[Value.string x],rfl,hf.1,hf.2.1,aZ,?_,?_,fun h=>?_⟩
 ·intro row hr;obtain⟨x,-,rfl⟩:=List.mem_map.1 hr;rfl
 ·intro i row x a b;rw[List.getElem?_map,b] at a;cases a;exact⟨rfl,hx x (fg b)⟩
 ·rw[Cc];exact hf.2.2.2 h
theorem Uv (σ:PH) (p:Option Addr) (c:Nat) (xs:List ByteArray) (sep:ByteArray) (hx:∀x∈xs,x.size≤maxLen) (hn:xs.length≤1000000) (hlen:(B9 xs sep).size≤1000000000):
 ah Tryz.prog 46 #[.slice p xs.length c,.string sep] σ [aS 9 1 (.slice p xs.length c) xs.length (xs.map Value.string)] (aA fun r aj al=>r=.string (B9 xs sep)∧σ=aj∧al=[aS 9 1 (.slice p xs.length c) xs.length (xs.map Value.string)]):=
 X.ah.Xc (enters Tryz.func46 rfl rfl) (fun m ⟨m1,m2,a,b,c,d,e⟩=>by obtain⟨u,h⟩:=cm m1 a;exact⟨u,aH u m1 m h d⟩) aH
  (fun cO _ hf _=>Ng cO _ xs sep (ug hx rfl hf) hn hlen)
def Kc (acc:ByteArray):wg Pr→ByteArray
 |.error x=>fq acc (oQ x)
 |.ok _=>acc
theorem yD (σ:PH) (gd:Nat) (pt:Option Addr) (ct:Nat) (v1 v2:Value) (acc:ByteArray) (text:List ByteArray) (hx:∀x∈text,x.size≤maxLen) (hn:text.length≤1000000) (gO:(jW text).size≤100000000) (hT:py σ) (hE:kT σ) (hb:acc.size+200≤1000000000):
 ah Tryz.prog 65 #[ptr gd] σ [eF 49 gd [.slice pt text.length ct,v1,v2] acc,aS 9 1 (.slice pt text.length ct) text.length (text.map Value.string)]
  (aA fun v aj al=>∃cs,v=.tuple #[.agg (List.toArray cs),.bool (decide (pN (br (jW text))=0))]∧gT aj cs (S7 (br (jW text)))∧σ.sub aj∧al=[eF 49 gd [.slice pt text.length ct,v1,v2] (Kc acc (br (jW text))),aS 9 1 (.slice pt text.length ct) text.length (text.map Value.string)]):=by
 have hj:=Uv σ pt ct text vR hx hn (by rw[Ek];omega);rw[Ek] at hj;have Vw:=Pz σ (jW text) gO hT hE;obtain⟨Ff,yG⟩:=wP (s:=jW text);refine cM Tryz.func65 ?_;refine aU ?_;refine di (fun g2=>?_) (ae rfl);refine bJ ?_;(first|refine XA.aW (R:=eF _ _ _ _) zL (eF.o) ?_|refine az.aW (R:=eF _ _ _ _) zL (eF.o) ?_|refine DA.aW (R:=eF _ _ _ _) zL (eF.o) ?_);rintro⟨u,q,cq⟩ hz;refine gX ?_;refine bS ?_;refine yC (hj) ?_;refine az.eX (ar.fold (S:=eF 49 gd [.slice pt text.length ct,v1,v2] acc) (Θ:=[aw gd (oR u gd::.slice q acc.size cq::[.slice pt text.length ct,v1,v2]) 49,aS 5 1 (.slice q acc.size cq) acc.size (Lib.strCells acc)]) zD (fun m hm=>⟨u,q,cq,hz,hm⟩) (ar.refl _)) ?_;refine zw rfl (ax.cE (Vw) rfl) ?_;rintro _ cO _ ⟨_,⟨cs,rfl,hp,bz,rfl⟩,rfl⟩;refine az.cl ?_;have oW:=hT.mono bz;have lG:=hp;obtain⟨vs,bs,rfl,Ck,Cl⟩:=lG;obtain⟨OE,OF,rfl,-,-⟩:=Ck.shape;obtain⟨OG,OH,rfl,-,-⟩:=Cl.shape;refine cx ?_;refine di (fun g4=>?_) (ae rfl);refine di (fun g5=>?_) (ae rfl);refine bm ?_;by_cases h0:pN (br (jW text))=0
 ·obtain⟨pr,FO⟩:∃pr,br (jW text)=.ok pr:=by
   cases hq:br (jW text) with
   |ok pr=>exact⟨pr,rfl⟩
   |error x=>rw[hq] at h0;exact absurd h0 (kl hq)
  (have ha:Kc acc (br (jW text))=acc:=by rw[FO];rfl);rw[ha];refine XA.aI rfl (by first|rfl|exact aE (fun h=>h h0)) ?_;refine cx ?_;refine et 6 172 [] (ar.bB (R:=aw g4 _ _) zL (ar.bB (R:=aw g5 _ _) zL (ar.nil _))) ?_;refine bY ?_;refine aP.fw rfl rfl Gd.free (ax.st (ae rfl) rfl) ?_;rintro _ _ _ ⟨rfl,rfl,rfl⟩;refine stays ?_;refine bY ?_;exact ao.ret (X.aB.Hm rfl rfl rfl (Ld.bn (ae rfl) rfl zL rfl cK cJ)) zE ⟨_,rfl,hp,bz,rfl⟩
 ·obtain⟨x,FO⟩:∃x,br (jW text)=.error x:=by
   cases hq:br (jW text) with
   |ok pr=>rw[hq] at h0;exact absurd rfl h0
   |error x=>exact⟨x,rfl⟩
  (have ha:Kc acc (br (jW text))=fq acc (cD (cD eM (pN (br (jW text)))) (Dm (br (jW text)))):=by rw[FO];rfl);rw[ha];refine XA.aY rfl (by first|rfl|exact aM h0) ?_;refine XA.draw aC _ _ [6,7,8] [(0,.pu),(1,.pu),(2,.rd),(4,.pu),(5,.rd),(3,.wr),(6,.wr),(7,.wr),(8,.wr)] aC (PH.sub.refl _) (ar.bB (R:=aw g5 _ _) zL (ar.nil _)) ?_;refine dc ?_;refine aP.fw rfl rfl Gd.free (ax.cE (vk cO _ Ff oW) rfl) ?_;rintro _ _ _ ⟨_,⟨rfl,rfl,rfl⟩,rfl⟩;refine stays (aP.cl ?_);refine aP.b7 rfl rfl Gd.free aC (ax.cE (vk cO _ yG oW) rfl) ?_;rintro _ _ _ ⟨_,⟨rfl,rfl,rfl⟩,rfl⟩;refine aP.cl ?_;refine aP.b7 rfl rfl Gd.free aC (ax.bs (fun _ _=>ae) rfl rfl rfl rfl rfl) ?_;rintro _ _ _ ⟨yH,rfl,rfl,rfl⟩;refine aP.b7 rfl rfl Gd.free aC (ax.cE (Yg cO gd _ v1 v2 acc _ eM _ _ Ff yG au hb) rfl) ?_;rintro _ cL _ ⟨_,⟨rfl,bT,rfl⟩,rfl⟩;refine aP.cl ?_;refine cx ?_;refine et 6 172 [] (ar.bB (R:=aw g4 _ _) zL (ar.bB (R:=aw g5 _ _) zL (ar.nil _))) ?_;refine bY ?_;refine aP.fw rfl rfl Gd.free (ax.st (ae rfl) rfl) ?_;rintro _ _ _ ⟨rfl,rfl,rfl⟩;refine stays ?_;refine bY ?_;exact ao.ret (X.aB.Hm rfl rfl rfl (Ld.bn (ae rfl) rfl zL rfl cK cJ)) zE ⟨_,rfl,hp.mono bT,bz.trans bT,rfl⟩
def yI (acc:ByteArray) (c:Int):ByteArray:=if c=0 then acc else fq acc (cD eM c)
theorem qT (σ:PH) (gd:Nat) (v0 v1 v2:Value) (acc:ByteArray) (c:Int) (hc:aG c) (hT:py σ) (hb:acc.size+200≤1000000000):
 ah Tryz.prog 67 #[ptr gd,i64 c] σ [eF 49 gd [v0,v1,v2] acc] (aA fun v aj al=>v=.bool (decide (c≠0))∧σ.sub aj∧al=[eF 49 gd [v0,v1,v2] (yI acc c)]):=by
 by_cases h:c=0
 ·subst h;refine cw Tryz.func67 ?_;refine rM ?_;exact bC rfl rfl ⟨rfl,.refl _,rfl⟩
 ·(have e:yI acc c=fq acc (cD eM c):=by rw[yI,ag h]);rw[e];refine cw Tryz.func67 ?_;refine bm ?_;refine XA.aY rfl (by first|rfl|exact aM h) ?_;refine cx ?_;refine yC (vk σ c hc hT) ?_;refine zw rfl (ax.bs (fun _ _=>ae) rfl rfl rfl rfl rfl) ?_;rintro _ _ _ ⟨g10,rfl,rfl,rfl⟩;refine zw rfl (ax.cE (Iz σ gd v0 v1 v2 acc _ eM c hc au hb) rfl) ?_;rintro _ cO _ ⟨_,⟨rfl,bz,rfl⟩,rfl⟩;refine az.cl ?_;refine aR ?_;exact bC rfl rfl ⟨rfl,bz,rfl⟩
def rG (σ:PH) (xv:Value) (lf:Option (Pr×List Int×Li)) (k:Nat) (Γ:List HP):Prop:=match lf with
 |none=>xv=.pointer none∧Γ=[]
 |some (p,inp,L)=>∃gx db pb pc cc,∃gn:Int,xv=ptr gx∧bV 4 tR σ (.slice pc (ak p).length cc) (ak p)∧j6 σ gx db pb pc cc (sizes p.vars).toNat p inp L gn Γ∧gn≤k∧fX p inp L k∧yv L.b∧kY p.body∧(∀x∈inp,aG x)∧L.b.kept.st=0
theorem Uw (σ:PH) (gd:Nat) (pt:Option Addr) (ct:Nat) (iv xv:Value) (acc:ByteArray) (d:nt) (hx:∀x∈d.text,x.size≤maxLen) (hn:d.text.length≤1000000) (gO:(jW d.text).size≤100000000) (hi:a7 σ iv d.input) (lN:∀x∈d.input,aG x) (hT:py σ) (hE:kT σ) (hb:acc.size+400≤1000000000):
 ah Tryz.prog 40 #[ptr gd] σ [eF 49 gd [.slice pt d.text.length ct,iv,xv] acc,aS 9 1 (.slice pt d.text.length ct) d.text.length (d.text.map Value.string)]
  (aA fun v aj al=>v=.tuple #[]∧σ.sub aj∧∃VE cr,al=eF 49 gd [.slice pt d.text.length ct,iv,VE] (dR acc (iK d).2)::aS 9 1 (.slice pt d.text.length ct) d.text.length (d.text.map Value.string)::cr∧((iK d).1=d∧VE=xv∧cr=[]∨(∃p,(iK d).1={d with ua:=some (p,d.input,L0 (sizes p.vars).toNat)})∧rG aj VE (iK d).1.ua 0 cr)):=by
 have kU:=yD σ gd pt ct iv xv acc d.text hx hn gO hT hE ad
 cases hP:br (jW d.text) with
 |error x=>
  have h0:=kl hP;(have hB:iK d=(d,[oQ x]):=by rw[iK,hP]);rw[hP] at kU;rw[hB];have e1:decide (pN (Except.error x:wg Pr)=0)=false:=aE h0;rw[e1] at kU;refine cM Tryz.func40 ?_;refine cx ?_;refine zw rfl (ax.cE (kU) rfl) ?_;rintro _ cO _ ⟨_,⟨cs,rfl,hp,bz,rfl⟩,rfl⟩;refine az.cl ?_;obtain⟨vs,bs,rfl,Ck,Cl⟩:=hp;obtain⟨OE,OF,rfl,-,-⟩:=Ck.shape;obtain⟨OG,OH,rfl,-,-⟩:=Cl.shape;refine cx ?_;refine di (fun g2=>?_) (ae rfl);refine eA ?_;exact On rfl ⟨rfl,bz,_,[],rfl,.inl ⟨rfl,rfl,rfl⟩⟩
 |ok p=>
  obtain⟨Fc,hN⟩:=oG hP;rw[hP] at kU;refine cM Tryz.func40 ?_;refine cx ?_;refine zw rfl (ax.cE (kU) rfl) ?_;rintro _ cO _ ⟨_,⟨cs,rfl,hp,bz,rfl⟩,rfl⟩;refine az.cl ?_;have oW:=hT.mono bz;have wM:=hi.mono bz;have Ux:kY p.body:=hp.i;have lG:=hp;obtain⟨vs,bs,rfl,Ck,Cl⟩:=lG;obtain⟨OE,OF,rfl,-,-⟩:=Ck.shape;obtain⟨OG,OH,rfl,-,-⟩:=Cl.shape;obtain⟨pi,ci,rfl,-,-⟩:=wM.shape;refine cx ?_;refine di (fun g2=>?_) (ae rfl);refine dh ?_;(first|refine XA.aW (R:=eF _ _ _ _) zL (eF.o) ?_|refine az.aW (R:=eF _ _ _ _) zL (eF.o) ?_|refine DA.aW (R:=eF _ _ _ _) zL (eF.o) ?_);rintro⟨u,q,cq⟩ hz;refine gX ?_;by_cases Pw:40<d.input.length
  ·(have hB:iK d=(d,[cD eM 1]):=by rw[iK,hP];simp only;rw[aq Pw]);rw[hB];refine et 11 568 [5] (ar.bB (R:=aw g2 _ _) zL (ar.bB (R:=aw gd _ _) zL (ar.nil _))) ?_;refine dc ?_;refine aP.b7 rfl rfl Gd.free aC (ax.cE (Ka cO _ p _ d.input hp wM ad Fc Pw) rfl) ?_;rintro _ cL _ ⟨_,⟨rfl,bT,rfl⟩,rfl⟩;refine aP.cl ?_;have n8:=oW.mono bT;refine bm ?_;refine az.eX (ar.fold (S:=eF 49 gd [.slice pt d.text.length ct,.slice pi d.input.length ci,xv] acc) (Θ:=[aw gd (oR u gd::.slice q acc.size cq::[.slice pt d.text.length ct,.slice pi d.input.length ci,xv]) 49,aS 5 1 (.slice q acc.size cq) acc.size (Lib.strCells acc)]) zD (fun m hm=>⟨u,q,cq,hz,hm⟩) (ar.refl _)) ?_;refine zw rfl (ax.cE (qT cL gd _ _ xv acc 1 ⟨au,au⟩ n8 ad) rfl) ?_;rintro _ fZ _ ⟨_,⟨rfl,cQ,rfl⟩,rfl⟩;refine az.cl ?_;refine dc ?_;exact On rfl ⟨rfl,bz.trans (bT.trans cQ),_,[],rfl,.inl ⟨rfl,rfl,rfl⟩⟩
  ·have Yj:=sf p;(have hB:iK d=({d with ua:=some (p,d.input,L0 (sizes p.vars).toNat)},[VD]):=by rw[iK,hP];simp only;rw[ag Pw]);rw[hB];refine et 11 568 [5] (ar.bB (R:=aw g2 _ _) zL (ar.bB (R:=aw gd _ _) zL (ar.nil _))) ?_;refine dc ?_;refine aP.b7 rfl rfl Gd.free aC (ax.cE (Ql cO _ p _ d.input hp wM ad Fc ad) rfl) ?_;rintro _ cL _ ⟨_,⟨gx,db,pb,pc,cc,rfl,bT,ns,kN⟩,rfl⟩;refine aP.cl ?_;have wz:=kN;obtain⟨g,mb,sb,dd,ss,Qi,Qj,pj,cj,hQ,Ug,hG,vC,wD,rfl⟩:=kN;(try dsimp only[List.append,List.cons_append,List.nil_append]);have n8:=oW.mono bT;refine bm ?_;refine az.eX (ar.fold (S:=eF 49 gd [.slice pt d.text.length ct,.slice pi d.input.length ci,xv] acc) (Θ:=[aw gd (oR u gd::.slice q acc.size cq::[.slice pt d.text.length ct,.slice pi d.input.length ci,xv]) 49,aS 5 1 (.slice q acc.size cq) acc.size (Lib.strCells acc)]) zD (fun m hm=>⟨u,q,cq,hz,hm⟩) (ar.refl _)) ?_;have o8:=qT cL gd (.slice pt d.text.length ct) (.slice pi d.input.length ci) xv acc 0 ⟨au,au⟩ n8 ad;rw[show yI acc 0=acc from aq rfl] at o8;refine zw rfl (ax.cE (o8) rfl) ?_;rintro _ fZ _ ⟨_,⟨rfl,cQ,rfl⟩,rfl⟩;refine az.cl ?_;refine aR ?_;(first|refine XA.aW (R:=eF _ _ _ _) zL (eF.o) ?_|refine az.aW (R:=eF _ _ _ _) zL (eF.o) ?_|refine DA.aW (R:=eF _ _ _ _) zL (eF.o) ?_);rintro⟨u2,q2,cq2⟩ FE;refine gX ?_;refine a8 ?_;refine zw rfl (ax.jY (ae rfl) rfl (ae rfl)) ?_;rintro _ _ _ ⟨g30,rfl,rfl,rfl⟩;refine az.eX (ar.fold (S:=eF 49 gd [.slice pt d.text.length ct,.slice pi d.input.length ci,ptr gx] acc) (Θ:=[aw gd (oR u2 gd::.slice q2 acc.size cq2::[.slice pt d.text.length ct,.slice pi d.input.length ci,ptr gx]) 49,aS 5 1 (.slice q2 acc.size cq2) acc.size (Lib.strCells acc)]) zD (fun m hm=>⟨u2,q2,cq2,FE,hm⟩) (ar.refl _)) ?_;refine zw rfl (ax.cE (El fZ gd _ _ (ptr gx) acc _ VD (by show acc.size+2+1≤_;omega)) rfl) ?_;rintro _ qf _ ⟨_,⟨rfl,jU,rfl⟩,rfl⟩;refine az.cl ?_;refine bS ?_;have JZ:=cQ.trans jU;exact iN rfl ⟨rfl,bz.trans (bT.trans JZ),_,_,rfl,.inr ⟨⟨p,rfl⟩,gx,db,pb,pc,cc,0,rfl,ns.mono JZ (fun _ _ h=>h),wz.mono JZ,Int.le_refl _,RU Fc d.input ad ad,IB _,Ux,lN,rfl⟩⟩
end Go.Proofs.YtgeoiflbjcehcaaGreatDoor
