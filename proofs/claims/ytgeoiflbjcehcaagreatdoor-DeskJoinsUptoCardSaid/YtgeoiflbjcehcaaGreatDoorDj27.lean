import Derived.Test.YtgeoiflbjcehcaaGreatDoorDj26
set_option maxHeartbeats 4000000
set_option maxRecDepth 2000
set_option linter.unusedVariables false
set_option linter.unusedSimpArgs false
namespace Go.Proofs
open Go.Shelf
def Tryz.laysM171_ren:Go.Shelf.Ren:=⟨fun|171=>48|243=>82|246=>64|283=>99|284=>100|285=>101|286=>102|129=>139|317=>138|318=>140|319=>141|320=>142|337=>172|338=>173|n=>n,fun|3=>3|9=>9|2=>2|4=>4|171=>159|0=>0|53=>80|37=>44|5=>5|173=>162|212=>203|51=>147|20=>20|213=>204|46=>40|232=>279|233=>280|n=>n,fun|17=>3|18=>6|19=>7|n=>n⟩
theorem Tryz.laysM171:Go.Proofs.LaysM.n171 Tryz.prog Tryz.laysM171_ren:={
 mixed:=by kernel_rfl
 f129:=Tryz.func139.trans (congrArg some (by kernel_rfl))
 f171:=Tryz.func48.trans (congrArg some (by kernel_rfl))
 f243:=Tryz.func82.trans (congrArg some (by kernel_rfl))
 f246:=Tryz.func64.trans (congrArg some (by kernel_rfl))
 f283:=Tryz.func99.trans (congrArg some (by kernel_rfl))
 f284:=Tryz.func100.trans (congrArg some (by kernel_rfl))
 f285:=Tryz.func101.trans (congrArg some (by kernel_rfl))
 f286:=Tryz.func102.trans (congrArg some (by kernel_rfl))
 f317:=Tryz.func138.trans (congrArg some (by kernel_rfl))
 f318:=Tryz.func140.trans (congrArg some (by kernel_rfl))
 f319:=Tryz.func141.trans (congrArg some (by kernel_rfl))
 f320:=Tryz.func142.trans (congrArg some (by kernel_rfl))
 f337:=Tryz.func172.trans (congrArg some (by kernel_rfl))
 f338:=Tryz.func173.trans (congrArg some (by kernel_rfl))
 t0:=Tryz.underlying0
 a0:=Tryz.isAgg0
 z0:=Tryz.sizeOf0
 v0:=Tryz.zeroValue0
 t2:=Tryz.underlying2
 a2:=Tryz.isAgg2
 z2:=Tryz.sizeOf2
 v2:=Tryz.zeroValue2
 t3:=Tryz.underlying3
 a3:=Tryz.isAgg3
 z3:=Tryz.sizeOf3
 v3:=Tryz.zeroValue3
 t4:=Tryz.underlying4
 a4:=Tryz.isAgg4
 z4:=Tryz.sizeOf4
 v4:=Tryz.zeroValue4
 t5:=Tryz.underlying5
 a5:=Tryz.isAgg5
 z5:=Tryz.sizeOf5
 v5:=Tryz.zeroValue5
 t9:=Tryz.underlying9
 a9:=Tryz.isAgg9
 z9:=Tryz.sizeOf9
 v9:=Tryz.zeroValue9
 t20:=Tryz.underlying20
 a20:=Tryz.isAgg20
 z20:=Tryz.sizeOf20
 v20:=Tryz.zeroValue20
 t37:=Tryz.underlying44
 a37:=Tryz.isAgg44
 z37:=Tryz.sizeOf44
 v37:=Tryz.zeroValue44
 t46:=Tryz.underlying40
 a46:=Tryz.isAgg40
 z46:=Tryz.sizeOf40
 v46:=Tryz.zeroValue40
 t51:=Tryz.underlying147
 a51:=Tryz.isAgg147
 z51:=Tryz.sizeOf147
 v51:=Tryz.zeroValue147
 t53:=Tryz.underlying80
 a53:=Tryz.isAgg80
 z53:=Tryz.sizeOf80
 v53:=Tryz.zeroValue80
 t171:=Tryz.underlying159
 a171:=Tryz.isAgg159
 z171:=Tryz.sizeOf159
 v171:=Tryz.zeroValue159
 t173:=Tryz.underlying162
 a173:=Tryz.isAgg162
 z173:=Tryz.sizeOf162
 v173:=Tryz.zeroValue162
 t212:=Tryz.underlying203
 a212:=Tryz.isAgg203
 z212:=Tryz.sizeOf203
 v212:=Tryz.zeroValue203
 t213:=Tryz.underlying204
 a213:=Tryz.isAgg204
 z213:=Tryz.sizeOf204
 t232:=Tryz.underlying279
 a232:=Tryz.isAgg279
 z232:=Tryz.sizeOf279
 v232:=Tryz.zeroValue279
 t233:=Tryz.underlying280
 a233:=Tryz.isAgg280
 z233:=Tryz.sizeOf280
 v233:=Tryz.zeroValue280
 g17:=by kernel_rfl
 g18:=by kernel_rfl
 g19:=by kernel_rfl
 i0:=by kernel_rfl
 i2:=by kernel_rfl
 i3:=by kernel_rfl
 i4:=by kernel_rfl
 i5:=by kernel_rfl
 i9:=by kernel_rfl
 i20:=by kernel_rfl
 i37:=by kernel_rfl
 i46:=by kernel_rfl
 i51:=by kernel_rfl
 i53:=by kernel_rfl
 i171:=by kernel_rfl
 i173:=by kernel_rfl
 i212:=by kernel_rfl
 i232:=by kernel_rfl
 i233:=by kernel_rfl
 m17:=by kernel_rfl
 m18:=by kernel_rfl
 m19:=by kernel_rfl}
open Go.RowKit Go.Sort Go.Lib in
theorem Tryz.strconv_Itoa (n:Int) (h0:-9223372036854775808≤n) (h1:n≤9223372036854775807) (w:World) (Qx:Lib.TabIs Tryz.prog w "internal/strconv.uint64pow10" .u64 Lib.pow10Tab):
 Calls Tryz.prog 48 #[.int .i64 n] w fun e w'=>e=.returned (.string ⟨(Lib.itoa n).toArray⟩)∧∃k os,w'=grow (w.drewN k) os:=Any.strconv_Itoa Tryz.laysM171 n h0 h1 w Qx
end Go.Proofs
namespace Go.Proofs.YtgeoiflbjcehcaaGreatDoor
open Go X
theorem R8 (σ:PH) (n:Int) (h0:-9223372036854775808≤n) (h1:n≤9223372036854775807) (hT:rP σ):
 ae Tryz.prog 48 #[i64 n] σ [] (aE fun v ag ah=>v=.string (eI n)∧σ=ag∧ah=[]):=by
 (refine ae.below (enters Tryz.func48 rfl rfl) fun w hw=>?_;refine(Tryz.strconv_Itoa n h0 h1 w (hT w hw)).mono ?_);rintro e w' ⟨rfl,k,os,rfl⟩;exact⟨_,rfl,rfl,sy w k os⟩
section
variable (σ:PH) (b:Nat) (v:Value) (acc:ByteArray) (g c:Nat)
end
theorem CW (a sep:ByteArray):wx [a] sep=a:=by
 apply ByteArray.ext;simp[wx,Lib.join_one]
theorem Hp (a b s:List UInt8):Lib.join [a,b] s=a++(s++b):=by rw[Lib.join_cons];simp[Lib.joinTail]
theorem Bo (a b c s:List UInt8):Lib.join [a,b,c] s=(a++(s++b))++(s++c):=by rw[Lib.join_cons];simp[Lib.joinTail]
theorem u0 (a b sep:ByteArray):wx [a,b] sep=a++(sep++b):=by
 apply ByteArray.ext;apply Array.toList_inj.1;simp[wx,Hp]
theorem rr (a b c sep:ByteArray):wx [a,b,c] sep=(a++(sep++b))++(sep++c):=by
 apply ByteArray.ext;apply Array.toList_inj.1;simp[wx,Bo]
theorem yM:∀(xs:List ByteArray),wx xs zF=rn xs
 |[]=>rfl
 |x::r=>by
  have key:∀(r:List ByteArray) (t:ByteArray),r.foldl (fun t y=>t++zF++y) t=t++⟨(Lib.joinTail zF.data.toList (r.map (·.data.toList))).toArray⟩:=by
   intro r
   induction r with
   |nil=>intro t;apply ByteArray.ext;simp[Lib.joinTail]
   |cons y r ih=>
    intro t;rw[List.foldl_cons,ih];apply ByteArray.ext;apply Array.toList_inj.1;simp[Lib.joinTail]
  show _=r.foldl (fun t y=>t++zF++y) x;rw[key];apply ByteArray.ext;apply Array.toList_inj.1;rw[wx,List.map_cons,Lib.join_cons];simp
theorem qA (σ:PH) (n:Int) (hn:aF n) (hT:rP σ):ae Tryz.prog 69 #[i64 n] σ [] (aE fun v ag ah=>v=.string (eI n)∧σ=ag∧ah=[]):=by
 refine dF Tryz.func69 ?_;refine bC ?_;refine zw rfl (aC.cE (R8 σ n hn.1 hn.2 hT) rfl) ?_;rintro _ _ _ ⟨_,⟨rfl,rfl,rfl⟩,rfl⟩;refine az.cl ?_;refine bM ?_;exact b8 rfl rfl ⟨rfl,rfl,rfl⟩
theorem rv (l:List Int) (i:Nat) (n:Int) (h:l[i]? =some n):eG (l.take (i+1))=eG (l.take i)++(wT++eI n):=by
 rw[eG,List.take_add_one,h];simp[eG]
theorem X.ae.Zm {P:Program} {f:FuncId} {vs:Array Value} {σ:PH} {Γ ah:List HP} {R:HP} {α:Sort _} {φ:α→PH→Prop} {RR:Ending→PH→List HP→Prop} (he:Enters P f) (s:b6 Γ R ah) (ho:∀m,R m→∃x,φ x m) (mono:∀x m m',φ x m→m.sub m'→φ x m') (k:∀ag x,φ x ag→σ.sub ag→ae P f vs ag ah RR):ae P f vs σ Γ RR:=
 ⟨he,fun fr h hh=>by obtain⟨ag,x,a,b,c⟩:=eN hh s ho mono;exact(k ag x a b).2 fr h c⟩
theorem qB:∀(l:List Int),(∀x∈l,aF x)→∀i,(eG (l.take i)).size≤22*i
 |l,h,0=>by simp[eG]
 |l,h,i+1=>by
  have ih:=qB l h i
  cases hx:l[i]? with
  |none=>rw[List.take_add_one,hx];simp only[Option.toList_none,List.append_nil];omega
  |some n=>
   rw[rv l i n hx];have:=iA (h n (List.mem_of_getElem? hx));simp only[ByteArray.size_append];have e:wT.size=1:=rfl;omega
theorem CX (σ:PH) (v:Value) (l:List Int) (h:aV σ v l) (hT:rP σ) (hl:∀x∈l,aF x) (hn:l.length≤1000000):
 ae Tryz.prog 71 #[v] σ [] (aE fun r ag ah=>r=.string (eG l)∧σ=ag∧ah=[]):=by
 obtain⟨p,c,rfl,h1,h2⟩:=h.shape;simp only[maxLen] at h2;(refine dF Tryz.func71 ?_;refine jM ?_;refine XA.gen [(2,_),(3,_),(6,_),(7,_),(8,_)] jN fun δ=>?_);dsimp only[List.foldl];refine XA.loop [(3,3),(5,5),(8,17)] (fun x:Nat×ByteArray=>[(8,i64 x.1),(3,.string x.2)]) (fun x ag ah=>σ=ag∧x.1≤l.length∧x.2=eG (l.take x.1)∧ah=[]) (fun x=>l.length-x.1) (0,ByteArray.empty) (by exact⟨rfl,rfl,trivial⟩) (Δ0:=_) ?_ (⟨rfl,Nat.zero_le _,by simp[eG],rfl⟩) ?_
 ·exact zE
 rintro⟨i,s⟩ δ _ _ ⟨rfl,hi,hs,rfl⟩;dsimp only[eb,List.foldl];simp only at hi hs;by_cases aT:i<l.length
 ·obtain⟨n,Zn⟩:∃n,l[i]? =some n:=⟨_,List.getElem?_eq_getElem aT⟩;obtain⟨g,o,rfl,bL⟩:=h.at Zn;rw[Nat.mul_one] at bL;have cU:=hl n (List.mem_of_getElem? Zn);have hle:=iA cU;have gD:=qB l hl i;rw[←hs] at gD;(have e3:s++(wT++eI n)=eG (l.take (i+1)):=by rw[rv l i n Zn,hs]);refine aO ?_;refine mQ ?_;refine dJ ?_;refine zw rfl (aC.cE (vz σ n cU.1 cU.2 hT) rfl) ?_;rintro _ _ _ ⟨_,⟨rfl,rfl,rfl⟩,rfl⟩;refine az.cl ?_;refine zO rfl (X.Rd.nr rfl rfl (by show 1+(eI n).size≤_;omega)) ?_;refine zO rfl (X.Rd.nr rfl rfl (by show s.size+(wT++eI n).size≤_;rw[ByteArray.size_append];have e:wT.size=1:=rfl;omega)) ?_;refine a8 ?_;refine⟨cF,(i+1,s++(wT++eI n)),_,zM,?_,⟨rfl,aT,e3,rfl⟩,(by omega)⟩
  ·exact zE
 ·have e:l.take i=l:=List.take_of_length_le (by omega);rw[e] at hs;refine aO ?_;refine lz ?_;refine bH ?_;exact b8 rfl rfl ⟨by rw[hs],rfl,rfl⟩
theorem wA {α β:Type} (f:α→β):∀(l:List α),(l.map fun x=>[f x]).flatten=l.map f
 |[]=>rfl
 |x::l=>by rw[List.map_cons,List.flatten_cons,wA f l];rfl
theorem Hq (σ:PH) (gd:Nat) (vs:List Value) (acc:ByteArray) (g:Nat) (xs:List ByteArray) (hx:∀x∈xs,x.size≤maxLen) (h0:0<xs.length) (hn:xs.length≤1000) (hb:acc.size+(wx xs wT).size+1≤1000000000) (hv:vs.length=3):
 ae Tryz.prog 24 #[ptr gd,.slice (some ⟨g,0,none⟩) xs.length xs.length] σ [cM 49 gd vs acc,au g (xs.map Value.string) 9] (aE fun v ag ah=>v=.tuple #[]∧σ.sub ag∧ah=[cM 49 gd vs (gH acc (wx xs wT))]):=by
 refine X.ae.Zm (enters Tryz.func24 rfl rfl) (b6.tail b6.head) vw kD ?_;rintro dQ ⟨⟩ bL bQ
 have AE:bO 1 n9 dQ (.slice (some ⟨g,0,none⟩) xs.length xs.length) xs:=by
  refine⟨_,_,xs.map fun x=>[Value.string x],rfl,Nat.le_refl _,by simp only[maxLen];omega,by simp,?_,?_,fun _=>⟨g,0,rfl,?_⟩⟩
  ·intro row hr;obtain⟨x,-,rfl⟩:=List.mem_map.1 hr;rfl
  ·intro i row x a b;rw[List.getElem?_map,b] at a;cases a;exact⟨rfl,hx x (List.mem_of_getElem? b)⟩
  ·rw[wA];exact bL
 have hj:=Hj dQ _ xs ⟨#[32]⟩ AE (by omega) (by show (wx xs wT).size≤_;omega);have hw:=LI dQ 49 gd vs acc (wx xs wT++zF) (by rw[ByteArray.size_append];have e:zF.size=1:=rfl;omega) (by rw[hv];kernel_rfl);refine bS Tryz.func24 ?_;refine fZ 7 1620 [4,6] (aw.bP (R:=cM 49 gd vs acc) zL (aw.nil _)) ?_;refine bM ?_;refine aK.bj rfl rfl Gd.free (by kernel_rfl) (aC.cE (hj) rfl) ?_;rintro _ _ _ ⟨_,⟨rfl,rfl,rfl⟩,rfl⟩;refine aK.cl ?_;refine zu rfl rfl (X.Rd.nr rfl rfl (by show (wx xs wT).size+1≤_;omega)) ?_;refine aK.bj rfl rfl Gd.free (by kernel_rfl) (aC.cE (hw) rfl) ?_;rintro _ _ _ ⟨_,⟨rfl,rfl,rfl⟩,rfl⟩;refine aK.cl ?_;refine b3 ?_;exact fU rfl ⟨rfl,bQ,rfl⟩
theorem yN (σ:PH) (gd:Nat) (v0 v1 v2:Value) (acc:ByteArray) (g:Nat) (a:ByteArray) (hb:acc.size+a.size+1≤1000000000):
 ae Tryz.prog 24 #[ptr gd,.slice (some ⟨g,0,none⟩) 1 1] σ [cM 49 gd [v0,v1,v2] acc,au g [.string a] 9] (aE fun v ag ah=>v=.tuple #[]∧σ.sub ag∧ah=[cM 49 gd [v0,v1,v2] (gH acc a)]):=by
 have h:=Hq σ gd [v0,v1,v2] acc g [a] (fun x hx=>by rw[List.mem_singleton] at hx;subst hx;simp only[maxLen];omega) (by simp) (by simp) (by rw[CW];exact hb) rfl;rw[CW] at h;exact h
theorem CY (σ:PH) (gd:Nat) (v0 v1 v2:Value) (acc:ByteArray) (g:Nat) (a:ByteArray) (n:Int) (hn:aF n) (ha:a.size≤100) (hb:acc.size+200≤1000000000):
 ae Tryz.prog 24 #[ptr gd,.slice (some ⟨g,0,none⟩) 2 2] σ [cM 49 gd [v0,v1,v2] acc,au g [.string a,.string (eI n)] 9] (aE fun v ag ah=>v=.tuple #[]∧σ.sub ag∧ah=[cM 49 gd [v0,v1,v2] (gH acc (dG a n))]):=by
 have hi:=iA hn;have e1:wT.size=1:=rfl
 have h:=Hq σ gd [v0,v1,v2] acc g [a,eI n] (fun x hx=>by
  simp only[List.mem_cons,List.not_mem_nil,or_false] at hx
  rcases hx with rfl|rfl<;>(simp only[maxLen];omega)) (by simp) (by simp) (by rw[u0];simp only[ByteArray.size_append];omega) rfl
 rw[u0] at h;exact h
theorem VB (σ:PH) (gd:Nat) (v0 v1 v2:Value) (acc:ByteArray) (g:Nat) (a:ByteArray) (n m:Int) (hn:aF n) (hm:aF m) (ha:a.size≤100) (hb:acc.size+200≤1000000000):
 ae Tryz.prog 24 #[ptr gd,.slice (some ⟨g,0,none⟩) 3 3] σ [cM 49 gd [v0,v1,v2] acc,au g [.string a,.string (eI n),.string (eI m)] 9] (aE fun v ag ah=>v=.tuple #[]∧σ.sub ag∧ah=[cM 49 gd [v0,v1,v2] (gH acc (dG (dG a n) m))]):=by
 have hi:=iA hn;have EW:=iA hm;have e1:wT.size=1:=rfl
 have h:=Hq σ gd [v0,v1,v2] acc g [a,eI n,eI m] (fun x hx=>by
  simp only[List.mem_cons,List.not_mem_nil,or_false] at hx
  rcases hx with rfl|rfl|rfl<;>(simp only[maxLen];omega)) (by simp) (by simp) (by rw[rr];simp only[ByteArray.size_append];omega) rfl
 rw[rr] at h;exact h
theorem hZ {n:Int} (h:aF n) (a:ByteArray):(dG a n).size≤a.size+22:=by
 have:=iA h;have e:wT.size=1:=rfl;simp only[dG,ByteArray.size_append];omega
theorem k7 {l:List Int} (h:∀x∈l,aF x):(eG l).size≤22*l.length:=by
 have:=qB l h l.length
 rwa [List.take_length] at this
theorem ry {c:Int} {out cells:List Int} (hc:aF c) (R9:∀x∈out,aF x) (Il:∀x∈cells,aF x):told (jI c out cells)≤22*(out.length+cells.length)+100:=by
 have h1:=hZ hc oX;have h2:=k7 R9;have h3:=k7 Il;have e3:oX.size=4:=rfl;have e4:Er.size=3:=rfl;have e5:wo.size=5:=rfl;simp only[jI,told,ByteArray.size_append];omega
theorem yO (σ:PH) (gd:Nat) (v0 v1 v2:Value) (acc:ByteArray) (c:Int) (ov cv:Value) (out cells:List Int) (hc:aF c) (ho:aV σ ov out) (hl:aV σ cv cells) (hT:rP σ) (R9:∀x∈out,aF x) (Il:∀x∈cells,aF x) (OB:out.length≤1000000) (hcn:cells.length≤1000000) (hb:acc.size+22*(out.length+cells.length)+400≤1000000000):
 ae Tryz.prog 43 #[ptr gd,.agg #[i64 c,ov,cv]] σ [cM 49 gd [v0,v1,v2] acc] (aE fun v ag ah=>v=.tuple #[]∧σ.sub ag∧ah=[cM 49 gd [v0,v1,v2] (cZ acc (jI c out cells))]):=by
 have hoz:=k7 R9;have hcz:=k7 Il;have hci:=iA hc;have e1:wT.size=1:=rfl;have e2:zF.size=1:=rfl;have e3:oX.size=4:=rfl;have e4:Er.size=3:=rfl;have e5:wo.size=5:=rfl;have z1:(gH acc (dG oX c)).size≤acc.size+30:=by simp only[gH,dG,ByteArray.size_append];omega
 have z2:(gH (gH acc (dG oX c)) (Er++eG out)).size≤acc.size+40+22*out.length:=by
  rw[gH];simp only[ByteArray.size_append];omega
 obtain⟨po,co,rfl,-,-⟩:=ho.shape;obtain⟨pc,cc,rfl,-,-⟩:=hl.shape;(refine bS Tryz.func43 ?_;refine aN ?_;refine cN fun g3=>?_;refine bt ?_;refine zw rfl (aC.cE (qA σ c hc hT) rfl) ?_;rintro _ _ _ ⟨_,⟨rfl,rfl,rfl⟩,rfl⟩;refine az.cl ?_;refine zw rfl (aC.bs (fun _ _=>ad) rfl rfl rfl rfl rfl) ?_);rintro _ _ _ ⟨g8,rfl,rfl,rfl⟩;refine zw rfl (aC.cE (CY σ gd v0 v1 v2 acc _ oX c hc (by decide) (by omega)) rfl) ?_;rintro _ dQ _ ⟨_,⟨rfl,bQ,rfl⟩,rfl⟩;refine az.cl ?_;have WR:=ho.mono bQ;have zl:=hl.mono bQ;have qJ:=hT.mono bQ;refine bt ?_;refine zw rfl (aC.cE (CX dQ _ out WR qJ R9 OB) rfl) ?_;rintro _ _ _ ⟨_,⟨rfl,rfl,rfl⟩,rfl⟩;refine az.cl ?_;refine zO rfl (X.Rd.nr rfl rfl (by show 3+(eG out).size≤_;omega)) ?_;refine zw rfl (aC.qO (ad rfl) rfl (ad rfl)) ?_;rintro _ _ _ ⟨g15,rfl,rfl,rfl⟩;refine zw rfl (aC.cE (yN dQ gd v0 v1 v2 (gH acc (dG oX c)) _ (Er++eG out) (by rw[ByteArray.size_append];omega)) rfl) ?_;rintro _ dq _ ⟨_,⟨rfl,bT,rfl⟩,rfl⟩;refine az.cl ?_;have jy:=zl.mono bT;have pE:=qJ.mono bT;refine aO ?_;refine zw rfl (aC.cE (CX dq _ cells jy pE Il hcn) rfl) ?_;rintro _ _ _ ⟨_,⟨rfl,rfl,rfl⟩,rfl⟩;refine az.cl ?_;refine zO rfl (X.Rd.nr rfl rfl (by show 5+(eG cells).size≤_;omega)) ?_;refine zw rfl (aC.qO (ad rfl) rfl (ad rfl)) ?_;rintro _ _ _ ⟨g22,rfl,rfl,rfl⟩;refine zw rfl (aC.cE (yN dq gd v0 v1 v2 (gH (gH acc (dG oX c)) (Er++eG out)) _ (wo++eG cells) (by rw[ByteArray.size_append];omega)) rfl) ?_;rintro _ lB _ ⟨_,⟨rfl,fc,rfl⟩,rfl⟩;refine az.cl ?_;refine b3 ?_;exact fU rfl ⟨rfl,bQ.trans (bT.trans fc),rfl⟩
theorem rW (n:Int):aF (rb n):=by
 rw[rb,IntKind.wrap_i64];constructor<;>omega
theorem yP (vs:List Va) (x:Ex):Ik x→∀i∈aA vs x,aF i.n:=by
 refine Ex.ind (P:=fun x=>Ik x→∀i∈aA vs x,aF i.n) ?_ x;intro op v n l ih h i hi;rw[Ik] at h;rw[aA] at hi;rcases List.mem_append.1 hi with hi|hi
 ·have key:∀(l:List Ex),(∀y∈l,Ik y→∀i∈aA vs y,aF i.n)→uk l→∀i∈bm vs l,aF i.n:=by
   intro l
   induction l with
   |nil=>intro _ _ i hi;rw[bm] at hi;cases hi
   |cons y l wQ=>
    intro h1 h2 i hi;rw[uk] at h2;rw[bm] at hi;rcases List.mem_append.1 hi with hi|hi
    ·exact h1 y (by simp) h2.1 i hi
    ·exact wQ (fun z hz=>h1 z (by simp[hz])) h2.2 i hi
  exact key l ih h.2 i hi
 ·rw[List.mem_singleton] at hi;subst hi;exact h.1
theorem wB:aF 0:=⟨by decide,by decide⟩
theorem Hr (vs:List Va) (x:St):OO x→∀k,∀i∈bg vs x k,aF i.n:=by
 refine St.ind (P:=fun x=>OO x→∀k,∀i∈bg vs x k,aF i.n) ?_ x;intro op v e f body cG Zo Lj h k i hi;rw[OO] at h;have hE:=yP vs e h.1;have hF:=yP vs f h.2.1
 have key:∀(l:List St),(∀y∈l,OO y→∀k,∀i∈bg vs y k,aF i.n)→jW l→∀k,∀i∈aH vs l k,aF i.n:=by
  intro l
  induction l with
  |nil=>intro _ _ k i hi;rw[aH] at hi;cases hi
  |cons y l wQ=>
   intro h1 h2 k i hi;rw[jW] at h2;rw[aH] at hi;rcases List.mem_append.1 hi with hi|hi
   ·exact h1 y (by simp) h2.1 k i hi
   ·exact wQ (fun z hz=>h1 z (by simp[hz])) h2.2 _ i hi
 have hB:=key body Zo h.2.2.1;have hO:=key cG Lj h.2.2.2
 have hl:∀i∈(if dT op then aA vs e else []),aF i.n:=by
  intro i hi;split at hi
  ·exact hE i hi
  ·cases hi
 rw[bg] at hi;simp only at hi;generalize (if dT op then aA vs e else [])=l at hi hl;(have one:∀(a b c:Int) (i:In),i∈[(⟨a,b,c,0⟩:In)]→aF i.n:=fun a b c i hi=>by rw[List.mem_singleton] at hi;subst hi;exact wB);split at hi
 ·rcases List.mem_append.1 hi with hi|hi
  ·exact hl i hi
  ·exact one _ _ _ i hi
 split at hi
 ·rcases List.mem_append.1 hi with hi|hi
  ·rcases List.mem_append.1 hi with hi|hi
   ·exact hl i hi
   ·exact hF i hi
  ·exact one _ _ _ i hi
 split at hi
 ·rcases List.mem_append.1 hi with hi|hi
  ·exact hl i hi
  ·exact one _ _ _ i hi
 split at hi
 ·rcases List.mem_append.1 hi with hi|hi
  ·exact hl i hi
  ·exact one _ _ _ i hi
 split at hi
 ·simp only[List.mem_append] at hi;rcases hi with ((hi|hi)|hi)|hi
  ·exact hl i hi
  ·exact one _ _ _ i hi
  ·exact hB _ i hi
  ·exact one _ _ _ i hi
 split at hi
 ·simp only[List.mem_append] at hi;rcases hi with (((hi|hi)|hi)|hi)|hi
  ·exact hl i hi
  ·exact one _ _ _ i hi
  ·exact hB _ i hi
  ·exact one _ _ _ i hi
  ·exact hO _ i hi
 split at hi
 ·exact one _ _ _ i hi
 ·exact hl i hi
theorem yQ {p:Pr} (h:jW p.body):∀i∈ak p,aF i.n:=by
 intro i hi;rw[ak] at hi;rcases List.mem_append.1 hi with hi|hi
 ·revert hi;generalize (0:Nat)=k;revert k
  have key:∀(l:List St),jW l→∀k,i∈aH p.vars l k→aF i.n:=by
   intro l
   induction l with
   |nil=>intro _ k hi;rw[aH] at hi;cases hi
   |cons y l wQ=>
    intro h2 k hi;rw[jW] at h2;rw[aH] at hi;rcases List.mem_append.1 hi with hi|hi
    ·exact Hr p.vars y h2.1 k i hi
    ·exact wQ h2.2 _ hi
  exact key p.body h
 ·rw[List.mem_singleton] at hi;subst hi;exact wB
def MiI (m:Mi):Prop:=(∀x∈m.stack,aF x)∧∀x∈m.cells,aF x
structure um (b:Be):Prop where
 m:MiI b.m
 kept:MiI b.kept
 out:∀x∈b.out,aF x
theorem Bp {l:List Int} (h:∀x∈l,aF x) (i:Nat):aF (l.getD i 0):=by
 rw[List.getD_eq_getElem?_getD]
 cases e:l[i]? with
 |none=>exact wB
 |some x=>exact h x (List.mem_of_getElem? e)
theorem Hs {l:List Int} {n:Int} (h:∀x∈l,aF x) (hn:aF n) (i:Nat):∀x∈l.set i n,aF x:=by
 intro x hx;rcases List.mem_or_eq_of_mem_set hx with hx|rfl
 ·exact h x hx
 ·exact hn
theorem Sb (op a b:Int):aF (fh op a b):=by
 rw[fh];split
 ·exact rW _
 split
 ·exact rW _
 split
 ·exact rW _
 split
 ·split<;>exact⟨by decide,by decide⟩
 ·split<;>exact⟨by decide,by decide⟩
theorem wC {l:List Int} {n:Int} (hn:aF n) (h:∀x∈l,aF x):∀x∈n::l,aF x:=fun x hx=>by
 rcases List.mem_cons.1 hx with rfl|hx
 ·exact hn
 ·exact h x hx
theorem Sc {inp:List Int} (hi:∀x∈inp,aF x) {keep:Bool} {x:In} (hx:aF x.n) {b:Be} (h:um b):um (aL inp keep x b):=by
 obtain⟨⟨hs,hc⟩,hk,ho⟩:=h;obtain⟨⟨next,stack,rd,outn,st,cells⟩,kept,out,wrong⟩:=b;simp only at hs hc hk ho;rw[aL];simp only;by_cases h1:x.op=1
 ·rw[if_pos h1];exact⟨⟨wC hx hs,hc⟩,hk,ho⟩
 rw[if_neg h1];by_cases h2:x.op=2
 ·rw[if_pos h2];exact⟨⟨wC (Bp hc _) hs,hc⟩,hk,ho⟩
 rw[if_neg h2];by_cases h3:x.op=3
 ·rw[if_pos h3]
  cases stack with
  |nil=>exact⟨⟨hs,hc⟩,hk,ho⟩
  |cons k s=>
   (have ht:∀x∈s,aF x:=fun x hx=>hs x (by simp[hx]));by_cases hq:k<0∨x.b≤k
   ·simp only[if_pos hq];exact⟨⟨ht,hc⟩,hk,ho⟩
   ·simp only[if_neg hq];exact⟨⟨wC (Bp hc _) ht,hc⟩,hk,ho⟩
 rw[if_neg h3];by_cases h4:4≤x.op∧x.op≤8
 ·rw[if_pos h4]
  cases stack with
  |nil=>exact⟨⟨hs,hc⟩,hk,ho⟩
  |cons k s=>
   cases s with
   |nil=>exact⟨⟨hs,hc⟩,hk,ho⟩
   |cons z s=>exact⟨⟨wC (Sb _ _ _) (fun x hx=>hs x (by simp[hx])),hc⟩,hk,ho⟩
 rw[if_neg h4];by_cases h9:x.op=9
 ·rw[if_pos h9]
  cases stack with
  |nil=>exact⟨⟨hs,hc⟩,hk,ho⟩
  |cons k s=>exact⟨⟨fun x hx=>hs x (by simp[hx]),Hs hc (hs k (by simp)) _⟩,hk,ho⟩
 rw[if_neg h9];by_cases yx:x.op=10
 ·rw[if_pos yx]
  cases stack with
  |nil=>exact⟨⟨hs,hc⟩,hk,ho⟩
  |cons n s=>
   cases s with
   |nil=>exact⟨⟨hs,hc⟩,hk,ho⟩
   |cons k s=>
    (have ht:∀x∈s,aF x:=fun x hx=>hs x (by simp[hx]));by_cases hq:k<0∨x.b≤k
    ·simp only[if_pos hq];exact⟨⟨ht,hc⟩,hk,ho⟩
    ·simp only[if_neg hq];exact⟨⟨ht,Hs hc (hs n (by simp)) _⟩,hk,ho⟩
 rw[if_neg yx];by_cases pB:x.op=11
 ·rw[if_pos pB]
  cases stack with
  |nil=>exact⟨⟨hs,hc⟩,hk,ho⟩
  |cons n s=>
   (have ht:∀x∈s,aF x:=fun x hx=>hs x (by simp[hx]));by_cases hq:outn=out.length
   ·simp only[if_pos hq]
    exact⟨⟨ht,hc⟩,hk,fun x hx=>by
     rcases List.mem_append.1 hx with hx|hx
     ·exact ho x hx
     ·rw[List.mem_singleton] at hx;subst hx;exact hs x (by simp)⟩
   ·simp only[if_neg hq];exact⟨⟨ht,hc⟩,hk,ho⟩
 rw[if_neg pB];by_cases vB:x.op=12
 ·rw[if_pos vB];by_cases hq:inp.length≤rd
  ·rw[if_pos hq];exact⟨⟨hs,hc⟩,hk,ho⟩
  ·rw[if_neg hq];exact⟨⟨hs,Hs hc (Bp hi _) _⟩,hk,ho⟩
 rw[if_neg vB];by_cases CQ:x.op=13
 ·rw[if_pos CQ]
  cases stack with
  |nil=>exact⟨⟨hs,hc⟩,hk,ho⟩
  |cons n s=>
   (have ht:∀x∈s,aF x:=fun x hx=>hs x (by simp[hx]));by_cases hq:n=0
   ·simp only[if_pos hq];exact⟨⟨ht,hc⟩,hk,ho⟩
   ·simp only[if_neg hq];exact⟨⟨ht,hc⟩,hk,ho⟩
 rw[if_neg CQ];by_cases ud:x.op=14
 ·rw[if_pos ud];exact⟨⟨hs,hc⟩,hk,ho⟩
 rw[if_neg ud];by_cases js:x.op=15
 ·rw[if_pos js]
  cases keep with
  |true=>exact⟨⟨hs,hc⟩,⟨hs,hc⟩,ho⟩
  |false=>exact⟨⟨hs,hc⟩,hk,ho⟩
 rw[if_neg js];by_cases CR:x.op=16
 ·rw[if_pos CR];exact⟨⟨hs,hc⟩,hk,ho⟩
 ·rw[if_neg CR];exact⟨⟨hs,hc⟩,hk,ho⟩
theorem CZ {code:List In} (mT:∀i∈code,aF i.n) {inp:List Int} (hi:∀x∈inp,aF x) {keep:Bool} {b:Be} (h:um b):um (b5 code inp keep b):=by
 rw[b5]
 cases e:code[b.m.next]? with
 |none=>exact h
 |some x=>exact Sc hi (mT x (List.mem_of_getElem? e)) ⟨h.m,h.kept,h.out⟩
theorem Ht {code:List In} (mT:∀i∈code,aF i.n) {inp:List Int} (hi:∀x∈inp,aF x):∀(f:Nat) {b:Be},um b→um (runM code inp f b).1
 |0,b,h=>h
 |f+1,b,h=>by
  rw[runM];split
  ·exact h
  ·exact Ht mT hi f (CZ mT hi h)
theorem OP (n:Nat):um (tl n):=by
 (have hz:∀x∈List.replicate n (0:Int),aF x:=fun x hx=>by rw[List.eq_of_mem_replicate hx];exact wB);exact⟨⟨fun x hx=>(by cases hx),hz⟩,⟨fun x hx=>(by cases hx),hz⟩,fun x hx=>(by cases hx)⟩
theorem wD {code:List In} (mT:∀i∈code,aF i.n) {inp:List Int} (hi:∀x∈inp,aF x) {L:Li} (h:um L.b):um (cW code inp L).b:=by
 show um (bz code inp true L.b);rw[bz];split
 ·exact CZ mT hi h
 ·exact h
theorem wE {L:Li} (h:um L.b):um (rk L).b:=⟨h.kept,h.kept,h.out⟩
theorem Hu {code:List In} (mT:∀i∈code,aF i.n) {inp:List Int} (hi:∀x∈inp,aF x):∀(f:Nat) {L:Li},um L.b→um (jv code inp f L).1.b
 |0,L,h=>h
 |f+1,L,h=>by
  rw[jv];split
  ·exact Hu mT hi f (wD mT hi h)
  ·exact h
theorem C0 {code:List In} (mT:∀i∈code,aF i.n) {inp:List Int} (hi:∀x∈inp,aF x) {K:Int} {bit:Bool}:∀(f:Nat) {L:Li},um L.b→um (eU code inp K bit f L).1.b
 |0,L,h=>h
 |f+1,L,h=>by
  rw[eU];split
  ·show um (fj code inp K bit L).b;rw[fj];split
   ·exact wE (wD mT hi h)
   ·exact wE h
  split
  ·exact C0 mT hi f (wD mT hi h)
  ·exact h
theorem VC {code:List In} (mT:∀i∈code,aF i.n) {inp:List Int} (hi:∀x∈inp,aF x) (s:oV) {L:Li} (h:um L.b):um (jB code inp s L).1.b:=by
 rw[jB];split
 ·exact h
 split
 ·exact Hu mT hi _ h
 split
 ·exact C0 mT hi _ h
 ·exact wE h
def NZ {α:Type} (a:PR α):Prop:=∀x,a=.error x→x.1≠0
theorem gX {e:Int} {l:List Tk} {c:Int} (h:c≠0):(bW e l c).1≠0:=by
 cases l with
 |nil=>
  rw[bW];by_cases q:c=5
  ·rw[if_pos q];show (6:Int)≠0;decide
  ·rw[if_neg q];exact h
 |cons t r=>exact h
theorem NZ.fail {α:Type} {e:Int} {l:List Tk} {c:Int} (h:c≠0):NZ (.error (bW e l c):PR α):=fun x q=>by cases q;exact gX h
theorem NZ.ok {α:Type} {y:α×List Tk}:NZ (.ok y:PR α):=fun x q=>by cases q
theorem gC {α β:Type} {a:PR α} {k:α→List Tk→PR β} (h:NZ a) (hk:∀x r,a=.ok (x,r)→NZ (k x r)):NZ (bf a k):=by
 cases a with
 |error x=>exact fun y q=>by cases q;exact h x rfl
 |ok y=>obtain⟨x,r⟩:=y;exact hk x r rfl
theorem C1 {e:Int} {l:List Tk}:NZ (kM e l):=fun x h=>by rw[(oB h).1];exact gX (by decide)
theorem Hv {e:Int} {l:List Tk}:NZ (mS e l):=fun x h=>by rw[(pV h).1];exact gX (by decide)
theorem C2 {vl:List Va} {e:Int} {l:List Tk}:NZ (j8 vl e l):=fun x h=>by
 rcases jg h with ⟨rfl,-⟩|⟨t,r,-,rfl,-⟩
 ·exact gX (by decide)
 ·exact gX (by decide)
theorem Hw {vl:List Va} {e:Int} {k:Nat} {l:List Tk}:NZ (gJ vl e k l):=by
 intro x h;rw[gJ] at h;split at h
 ·cases q:kM e l with
  |error y=>rw[q] at h;cases h;exact C1 _ q
  |ok y=>rw[q] at h;cases h
 ·split at h
  ·cases q:j8 vl e l with
   |error y=>rw[q] at h;cases h;exact C2 _ q
   |ok y=>rw[q] at h;cases h
  ·cases h
theorem u3 {α:Type} {e:Int} {x:α} {l:List Tk}:NZ (dz e x l):=by
 rw[dz];split
 ·exact NZ.ok
 ·exact NZ.fail (by decide)
theorem yR {α:Type} {E:List Tk→PR α} (hE:∀l,NZ (E l)):∀(m:Nat) (l:List Tk) (acc:List α),NZ (dh E m l acc)
 |0,l,acc=>NZ.ok
 |m+1,l,acc=>by
  intro x h;rw[dh] at h
  cases q:E l with
  |error y=>rw[q] at h;cases h;exact hE l _ q
  |ok y=>obtain⟨a,r⟩:=y;rw[q] at h;exact yR hE m r _ x h
theorem tu {vl:List Va} {e:Int}:∀(f:Nat) (l:List Tk),NZ (cm vl e f l)
 |0,l=>NZ.fail (by decide)
 |f+1,l=>by
  intro x h;rw[cm] at h;split at h
  ·cases hk:ia gQ 8 l.tail with
   |none=>rw[hk] at h;cases h;exact gX (by decide)
   |some k=>
    rw[hk] at h;simp only at h
    cases hh:gJ vl e k l.tail.tail with
    |error y=>rw[hh] at h;cases h;exact Hw _ hh
    |ok y=>
     obtain⟨vn,l3⟩:=y;rw[hh] at h;simp only at h
     cases hs:dh (cm vl e f) (partsOf k).toNat l3 [] with
     |error y=>rw[hs] at h;cases h;exact yR (tu f) _ _ _ _ hs
     |ok z=>obtain⟨xs,l4⟩:=z;rw[hs] at h;exact u3 x h
  ·cases h;exact gX (by decide)
theorem yU {S:List Tk→PR St} (hS:∀l,NZ (S l)) (aT:∀l x l',S l=.ok (x,l')→l'.length<l.length):∀(g:Nat) (l:List Tk) (acc:List St),l.length<g→NZ (ij S g l acc)
 |0,l,acc,hg=>by omega
 |g+1,l,acc,hg=>by
  intro x h;rw[ij] at h;split at h
  ·cases h
  ·cases q:S l with
   |error y=>rw[q] at h;cases h;exact hS l _ q
   |ok y=>obtain⟨a,r⟩:=y;rw[q] at h;have:=aT l a r q;exact yU hS aT g r _ (by omega) x h
theorem yW {S:List Tk→PR St} {e:Int} (hS:∀l,NZ (S l)) (aT:∀l x l',S l=.ok (x,l')→l'.length<l.length) (l:List Tk):NZ (fM S e l):=by
 rw[fM];split
 ·exact yU hS aT _ _ _ (by omega)
 ·exact NZ.fail (by decide)
theorem o7 {α:Type} {b:Bool} {z:α} {a:List Tk→PR α} (ha:∀l,NZ (a l)) (l:List Tk):NZ (dj b z a l):=by
 rw[dj];split
 ·exact ha l
 ·exact NZ.ok
theorem tz {vl:List Va} {e:Int}:∀(f:Nat) (l:List Tk),NZ (cQ vl e f l)
 |0,l=>NZ.fail (by decide)
 |f+1,l=>by
  (have aT:∀l x l',cQ vl e f l=.ok (x,l')→l'.length<l.length:=fun l x l' h=>(dR f l x l' h).2);rw[cQ];split
  ·cases hk:ia gm 7 l.tail with
   |none=>exact NZ.fail (by decide)
   |some k=>
    exact gC (o7 (fun _=>C2) _) fun v r _=>gC (o7 (tu f) _) fun x r _=>gC (o7 (tu f) _) fun y r _=>
     gC (o7 (yW (tz f) aT) _) fun b r _=>gC (o7 (yW (tz f) aT) _) fun el r _=>u3
  ·exact NZ.fail (by decide)
theorem yX {e:Int}:∀(g:Nat) (l:List Tk) (acc:List Va),l.length<g→NZ (il e g l acc)
 |0,l,acc,hg=>by omega
 |g+1,l,acc,hg=>by
  rw[il];split
  ·(refine gC Hv fun s r h1=>gC C1 fun n r2 h2=>?_);obtain⟨t,rfl,-,-⟩:=mr h2;obtain⟨t',e1,-,-⟩:=kc h1;have:=congrArg List.length e1;rw[List.length_tail] at this;simp only[List.length_cons] at this;exact yX g r2 _ (by omega)
  ·exact NZ.ok
theorem yY {S:List Tk→PR St} (hS:∀l,NZ (S l)) (aT:∀l x l',S l=.ok (x,l')→l'.length<l.length):∀(g:Nat) (l:List Tk) (acc:List St),l.length<g→NZ (iH S g l acc)
 |0,l,acc,hg=>by omega
 |g+1,l,acc,hg=>by
  intro x h;rw[iH] at h;split at h
  ·cases h
  ·cases q:S l with
   |error y=>rw[q] at h;cases h;exact hS l _ q
   |ok y=>obtain⟨a,r⟩:=y;rw[q] at h;have:=aT l a r q;exact yY hS aT g r _ (by omega) x h
theorem Hx {e:Int} {l:List Tk}:NZ (iI e l):=by
 rw[iI];exact gC (yX _ _ _ (by omega)) fun vl r _=>gC (yY (tz 13) (fun l x l' h=>(dR 13 l x l' h).2) _ _ _ (by omega)) fun b r _=>NZ.ok
theorem nI {s:ByteArray} {x:Int×Int} (h:bZ s=.error x):x.1≠0:=by
 rw[bZ] at h
 cases hs:fC s with
 |error y=>
  rw[hs] at h;cases h;rw[fC] at hs;split at hs
  ·cases hs;show (3:Int)≠0;decide
  ·cases hl:ie s (s.size+1) (eY et s 0) [] with
   |ok l'=>rw[hl] at hs;cases hs
   |error i=>rw[hl] at hs;cases hs;show (7:Int)≠0;decide
 |ok l=>
  rw[hs] at h;simp only at h
  cases hp:iI s.size l with
  |error y=>rw[hp] at h;cases h;exact Hx _ hp
  |ok y=>
   obtain⟨pr,r⟩:=y;rw[hp] at h;simp only at h;split at h
   ·rename_i hc;cases h;exact hc
   ·cases h
def AQ (l:List Tk):Prop:=∀t∈l,aF t.at_
theorem AQ.sub {l r:List Tk} (h:AQ l) (s:Sub r l):AQ r:=fun t ht=>h t (s.1 t ht)
theorem AQ.tail {l:List Tk} (h:AQ l):AQ l.tail:=h.sub (Sub.tail l)
def I2 (x:Int×Int):Prop:=aF x.1∧aF x.2
def ly {α:Type} (a:PR α):Prop:=∀x,a=.error x→I2 x
theorem jw {e:Int} (he:aF e) {l:List Tk} (hl:AQ l) {c:Int} (hc:aF c):I2 (bW e l c):=by
 cases l with
 |nil=>
  rw[bW];by_cases q:c=5
  ·rw[if_pos q];exact⟨(show aF 6 from ⟨by decide,by decide⟩),he⟩
  ·rw[if_neg q];exact⟨hc,he⟩
 |cons t r=>exact⟨hc,hl t (by simp)⟩
theorem k5:aF 5:=⟨by decide,by decide⟩
theorem k4:aF 4:=⟨by decide,by decide⟩
theorem ly.ok {α:Type} {y:α×List Tk}:ly (.ok y:PR α):=fun x q=>by cases q
theorem ly.fail {α:Type} {e:Int} (he:aF e) {l:List Tk} (hl:AQ l) {c:Int} (hc:aF c):ly (.error (bW e l c):PR α):=fun x q=>by cases q;exact jw he hl hc
theorem iW {α β:Type} {a:PR α} {k:α→List Tk→PR β} (h:ly a) (hk:∀x r,a=.ok (x,r)→ly (k x r)):ly (bf a k):=by
 cases a with
 |error x=>exact fun y q=>by cases q;exact h x rfl
 |ok y=>obtain⟨x,r⟩:=y;exact hk x r rfl
section
variable {vl:List Va} {e:Int} (he:aF e)
include he
theorem Hy {l:List Tk} (hl:AQ l):ly (kM e l):=fun x h=>by rw[(oB h).1];exact jw he hl ⟨by decide,by decide⟩
theorem LJ {l:List Tk} (hl:AQ l):ly (mS e l):=fun x h=>by rw[(pV h).1];exact jw he hl ⟨by decide,by decide⟩
theorem Hz {l:List Tk} (hl:AQ l):ly (j8 vl e l):=fun x h=>by
 rcases jg h with ⟨rfl,-⟩|⟨t,r,q,rfl,-⟩
 ·exact jw he hl ⟨by decide,by decide⟩
 ·subst q;exact jw he hl ⟨by decide,by decide⟩
theorem LK {k:Nat} {l:List Tk} (hl:AQ l):ly (gJ vl e k l):=by
 intro x h;rw[gJ] at h;split at h
 ·cases q:kM e l with
  |error y=>rw[q] at h;cases h;exact Hy he hl _ q
  |ok y=>rw[q] at h;cases h
 ·split at h
  ·cases q:j8 vl e l with
   |error y=>rw[q] at h;cases h;exact Hz he hl _ q
   |ok y=>rw[q] at h;cases h
  ·cases h
theorem yZ {α:Type} {x:α} {l:List Tk} (hl:AQ l):ly (dz e x l):=by
 rw[dz];split
 ·exact ly.ok
 ·exact ly.fail he hl k5
omit he in
theorem C3 {α:Type} {E:List Tk→PR α} (hE:∀l,AQ l→ly (E l)) (hS:∀l x l',E l=.ok (x,l')→Sub l' l):∀(m:Nat) (l:List Tk) (acc:List α),AQ l→ly (dh E m l acc)
 |0,l,acc,hl=>ly.ok
 |m+1,l,acc,hl=>by
  intro x h;rw[dh] at h
  cases q:E l with
  |error y=>rw[q] at h;cases h;exact hE l hl _ q
  |ok y=>obtain⟨a,r⟩:=y;rw[q] at h;exact C3 hE hS m r _ (hl.sub (hS l a r q)) x h
theorem wF:∀(f:Nat) (l:List Tk),AQ l→ly (cm vl e f l)
 |0,l,hl=>ly.fail he hl k4
 |f+1,l,hl=>by
  intro x h;rw[cm] at h;split at h
  ·cases hk:ia gQ 8 l.tail with
   |none=>rw[hk] at h;cases h;exact jw he hl.tail k5
   |some k=>
    rw[hk] at h;simp only at h
    cases hh:gJ vl e k l.tail.tail with
    |error y=>rw[hh] at h;cases h;exact LK he hl.tail.tail _ hh
    |ok y=>
     obtain⟨vn,l3⟩:=y;have h3:AQ l3:=hl.tail.tail.sub (pS hh);rw[hh] at h;simp only at h
     cases hs:dh (cm vl e f) (partsOf k).toNat l3 [] with
     |error y=>rw[hs] at h;cases h;exact C3 (wF f) (dv f) _ _ _ h3 _ hs
     |ok z=>obtain⟨xs,l4⟩:=z;rw[hs] at h;exact yZ he (h3.sub (pU (dv f) _ _ _ _ _ hs)) x h
  ·cases h;exact jw he hl k5
omit he in
theorem C4 {S:List Tk→PR St} (hS:∀l,AQ l→ly (S l)) (aT:∀l x l',S l=.ok (x,l')→Sub l' l∧l'.length<l.length):∀(g:Nat) (l:List Tk) (acc:List St),l.length<g→AQ l→ly (ij S g l acc)
 |0,l,acc,hg,hl=>by omega
 |g+1,l,acc,hg,hl=>by
  intro x h;rw[ij] at h;split at h
  ·cases h
  ·cases q:S l with
   |error y=>rw[q] at h;cases h;exact hS l hl _ q
   |ok y=>obtain⟨a,r⟩:=y;rw[q] at h;have:=aT l a r q;exact C4 hS aT g r _ (by omega) (hl.sub this.1) x h
theorem C5 {S:List Tk→PR St} (hS:∀l,AQ l→ly (S l)) (aT:∀l x l',S l=.ok (x,l')→Sub l' l∧l'.length<l.length) (l:List Tk) (hl:AQ l):ly (fM S e l):=by
 rw[fM];split
 ·exact C4 hS aT _ _ _ (by omega) hl.tail
 ·exact ly.fail he hl k5
omit he in
theorem tA {α:Type} {b:Bool} {z:α} {a:List Tk→PR α} (ha:∀l,AQ l→ly (a l)) (l:List Tk) (hl:AQ l):ly (dj b z a l):=by
 rw[dj];split
 ·exact ha l hl
 ·exact ly.ok
theorem wG:∀(f:Nat) (l:List Tk),AQ l→ly (cQ vl e f l)
 |0,l,hl=>ly.fail he hl k4
 |f+1,l,hl=>by
  (have aT:∀l x l',cQ vl e f l=.ok (x,l')→Sub l' l∧l'.length<l.length:=fun l x l' h=>dR f l x l' h);(have Ou:∀l x l',fM (cQ vl e f) e l=.ok (x,l')→Sub l' l:=fun l x l' h=>iX (fun l x l' h=>(aT l x l' h).1) h);rw[cQ];split
  ·cases hk:ia gm 7 l.tail with
   |none=>exact ly.fail he hl.tail k5
   |some k=>
    have h0:AQ l.tail.tail:=hl.tail.tail;(refine iW (tA (fun _ h=>Hz he h) _ h0) fun v r e1=>?_);have h1:=h0.sub (fe (fun _ _ _=>oC) e1);(refine iW (tA (wF he f) _ h1) fun x r e2=>?_);have h2:=h1.sub (fe (dv f) e2);(refine iW (tA (wF he f) _ h2) fun y r e3=>?_);have h3:=h2.sub (fe (dv f) e3);(refine iW (tA (C5 he (wG f) aT) _ h3) fun b r e4=>?_);have h4:=h3.sub (fe Ou e4);(refine iW (tA (C5 he (wG f) aT) _ h4) fun el r e5=>?_);exact yZ he (h4.sub (fe Ou e5))
  ·exact ly.fail he hl k5
theorem wH:∀(g:Nat) (l:List Tk) (acc:List Va),l.length<g→AQ l→ly (il e g l acc)∧∀vs r,il e g l acc=.ok (vs,r)→AQ r
 |0,l,acc,hg,hl=>by omega
 |g+1,l,acc,hg,hl=>by
  rw[il];split
  ·have key:∀s r,mS e l.tail=.ok (s,r)→∀n r2,kM e r=.ok (n,r2)→r2.length<g∧AQ r∧AQ r2:=by
    intro s r h1 n r2 h2;obtain⟨t,rfl,-,-⟩:=mr h2;obtain⟨t',e1,-,-⟩:=kc h1;have hA:=hl.tail;rw[e1] at hA;have:=congrArg List.length e1;rw[List.length_tail] at this;simp only[List.length_cons] at this;exact⟨by omega,fun t ht=>hA t (by simp only[List.mem_cons] at ht⊢;exact .inr ht),fun t ht=>hA t (by simp[ht])⟩
   refine⟨iW (LJ he hl.tail) fun s r h1=>?_,fun vs r h=>?_⟩
   ·obtain⟨t',e1,-,-⟩:=kc h1;have hA:=hl.tail;rw[e1] at hA;(refine iW (Hy he fun t ht=>hA t (by simp[ht])) fun n r2 h2=>?_);obtain⟨a,-,c⟩:=key s r h1 n r2 h2;exact(wH g r2 _ a c).1
   ·obtain⟨s,l1,h1,h⟩:=di h;obtain⟨n,l2,h2,h⟩:=di h;obtain⟨a,-,c⟩:=key s l1 h1 n l2 h2;exact(wH g l2 _ a c).2 vs r h
  ·exact⟨ly.ok,fun vs r h=>by cases h;exact hl⟩
omit he in
theorem C6 {S:List Tk→PR St} (hS:∀l,AQ l→ly (S l)) (aT:∀l x l',S l=.ok (x,l')→Sub l' l∧l'.length<l.length):∀(g:Nat) (l:List Tk) (acc:List St),l.length<g→AQ l→ly (iH S g l acc)
 |0,l,acc,hg,hl=>by omega
 |g+1,l,acc,hg,hl=>by
  intro x h;rw[iH] at h;split at h
  ·cases h
  ·cases q:S l with
   |error y=>rw[q] at h;cases h;exact hS l hl _ q
   |ok y=>obtain⟨a,r⟩:=y;rw[q] at h;have:=aT l a r q;exact C6 hS aT g r _ (by omega) (hl.sub this.1) x h
theorem LL {l:List Tk} (hl:AQ l):ly (iI e l):=by
 rw[iI];obtain⟨h1,h2⟩:=wH he (l.length+1) l [] (by omega) hl;exact iW h1 fun vl r e1=>iW (C6 (wG he 13) (fun l x l' h=>dR 13 l x l' h) _ _ _ (by omega) (h2 vl r e1)) fun b r _=>ly.ok
end
theorem u4 {s:ByteArray}:∀(f i:Nat) (acc:List Tk) (j:Nat),ie s f i acc=.error j→j≤s.size
 |0,i,acc,j,h=>by cases h
 |f+1,i,acc,j,h=>by
  rw[ie] at h;split at h
  ·rename_i hi;split at h
   ·exact u4 f _ _ j h
   ·cases h;omega
  ·cases h
theorem LM {s:ByteArray} {x:Int×Int} (h:fC s=.error x):I2 x:=by
 rw[fC] at h;split at h
 ·cases h;exact⟨(show aF 3 from ⟨by decide,by decide⟩),(show aF 6000 from ⟨by decide,by decide⟩)⟩
 ·rename_i h6
  cases hl:ie s (s.size+1) (eY et s 0) [] with
  |ok l'=>rw[hl] at h;cases h
  |error i=>
   rw[hl] at h;cases h;have:=u4 _ _ _ _ hl;exact⟨(show aF 7 from ⟨by decide,by decide⟩),(show aF (i:Int) from ⟨by omega,by omega⟩)⟩
theorem VD {s:ByteArray} {l:List Tk} {x:Int×Int} (hs:fC s=.ok l) (h:iI s.size l=.error x):I2 x:=by
 obtain⟨h6,cU⟩:=oy hs;refine LL ⟨by omega,by omega⟩ (fun t ht=>?_) x h;have:=(cU t ht).at_;exact⟨by omega,by omega⟩
def JI (e:JE):Prop:=∀c,e=.error c→aF c
theorem JI.fail {e:JE} (h:JI e) {b:Bool} {c:Int} (hc:aF c):JI (e.fail b c):=by
 intro d hd
 cases e with
 |error x=>cases hd;exact h _ rfl
 |ok l=>
  rw[JE.fail] at hd;split at hd
  ·cases hd;exact hc
  ·cases hd
theorem JI.one {e:JE} (h:JI e) (deep:Int):JI (e.one deep):=by
 intro d hd
 cases e with
 |error x=>cases hd;exact h _ rfl
 |ok l=>
  rw[JE.one] at hd;split at hd
  ·cases hd;exact k4
  ·split at hd
   ·cases hd;exact⟨by decide,by decide⟩
   ·cases hd
theorem JI.named {e:JE} (h:JI e) {nv v:Int} {is:Bool}:JI (e.named nv v is):=by
 rw[JE.named];exact(h.fail ⟨by decide,by decide⟩).fail k5
theorem HA {nv deep op v n:Int} {k:Nat} {e:JE} (h:JI e):JI (fz nv deep op v n k e):=by
 rw[fz];exact(((h.one deep).fail ⟨by decide,by decide⟩).fail k5).named
theorem OQ (nv:Int) (x:Ex):∀(deep:Int) (e:JE),JI e→JI (la nv deep x e):=by
 refine Ex.ind (P:=fun x=>∀(deep:Int) (e:JE),JI e→JI (la nv deep x e)) ?_ x;intro op v n l ih deep e h;rw[la]
 have key:∀(l:List Ex),(∀y∈l,∀(deep:Int) (e:JE),JI e→JI (la nv deep y e))→∀(deep:Int) (e:JE),JI e→JI (gF nv deep l e):=by
  intro l
  induction l with
  |nil=>intro _ deep e h;rw[gF];exact h
  |cons y l wQ=>intro h1 deep e h;rw[gF];exact wQ (fun z hz=>h1 z (by simp[hz])) deep _ (h1 y (by simp) deep e h)
 exact key l ih _ _ (HA h)
theorem VE (nv:Int) (x:St):∀(deep:Int) (e:JE),JI e→JI (og nv deep x e):=by
 refine St.ind (P:=fun x=>∀(deep:Int) (e:JE),JI e→JI (og nv deep x e)) ?_ x;intro op v e f body cG Zo Lj deep s h;rw[og]
 have key:∀(l:List St),(∀y∈l,∀(deep:Int) (e:JE),JI e→JI (og nv deep y e))→∀(deep:Int) (e:JE),JI e→JI (dL nv deep l e):=by
  intro l
  induction l with
  |nil=>intro _ deep e h;rw[dL];exact h
  |cons y l wQ=>intro h1 deep e h;rw[dL];exact wQ (fun z hz=>h1 z (by simp[hz])) deep _ (h1 y (by simp) deep e h)
 have hh:JI (fb nv deep op v e f body.length cG.length s):=by
  rw[fb];exact(((h.one deep).fail ⟨by decide,by decide⟩).fail k5).named
 have hef:JI (oe nv (deep+1) op e f (fb nv deep op v e f body.length cG.length s)):=by
  rw[oe]
  have h1:JI (if dT op then la nv (deep+1) e (fb nv deep op v e f body.length cG.length s) else fb nv deep op v e f body.length cG.length s):=by
   split
   ·exact OQ nv e _ _ hh
   ·exact hh
  split
  ·exact OQ nv f _ _ h1
  ·exact h1
 exact key cG Lj _ _ (key body Zo _ _ hef)
theorem y0:∀(l seen:List Va) (n:Int),aF (gN seen n l)
 |[],seen,n=>(show aF 0 from ⟨by decide,by decide⟩)
 |v::l,seen,n=>by
  rw[gN];split
  ·exact⟨by decide,by decide⟩
  split
  ·exact⟨by decide,by decide⟩
  split
  ·exact⟨by decide,by decide⟩
  ·exact y0 l _ _
theorem HB (p:Pr):aF (bR p):=by
 rw[bR];split
 ·rw[checkVars];split
  ·exact⟨by decide,by decide⟩
  ·exact y0 _ _ _
 ·have key:∀(l:List St) (deep:Int) (e:JE),JI e→JI (dL p.vars.length deep l e):=by
   intro l
   induction l with
   |nil=>intro deep e h;rw[dL];exact h
   |cons y l wQ=>intro deep e h;rw[dL];exact wQ deep _ (VE _ y deep e h)
  have h:=key p.body 0 (.ok 150) (fun c h=>by cases h)
  cases e:dL p.vars.length 0 p.body (.ok 150) with
  |ok b=>exact(show aF 0 from ⟨by decide,by decide⟩)
  |error c=>exact h c e
theorem wI {s:ByteArray}:aF (xI (bZ s))∧aF (KH (bZ s)):=by
 have z:aF 0:=⟨by decide,by decide⟩
 cases h:bZ s with
 |ok p=>exact⟨z,z⟩
 |error x=>
  rw[bZ] at h
  cases hs:fC s with
  |error y=>rw[hs] at h;cases h;exact LM hs
  |ok l=>
   rw[hs] at h;simp only at h
   cases hp:iI s.size l with
   |error y=>rw[hp] at h;cases h;exact VD hs hp
   |ok y=>
    obtain⟨pr,r⟩:=y;rw[hp] at h;simp only at h;split at h
    ·cases h;exact⟨HB pr,(show aF (-1) from ⟨by decide,by decide⟩)⟩
    ·cases h
end Go.Proofs.YtgeoiflbjcehcaaGreatDoor
