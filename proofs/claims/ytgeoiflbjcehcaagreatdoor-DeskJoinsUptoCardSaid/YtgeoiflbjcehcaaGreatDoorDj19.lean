import Derived.Test.YtgeoiflbjcehcaaGreatDoorDj18
set_option maxHeartbeats 4000000
set_option maxRecDepth 2000
set_option linter.unusedVariables false
set_option linter.unusedSimpArgs false
namespace Go.Proofs.YtgeoiflbjcehcaaGreatDoor
open Go X
def Ov (σ:PH) (pr:Pr) (x:Ex):Prop:=∀(cs:List Value) (b:Nat) (pv:Option Addr) (cv:Nat) (bs:Value) (gc nc:Nat) (cells:List Int) (vi vo:Value) (f:Nat),
 fY σ [.slice pv pr.vars.length cv,bs] pr→dc σ cs x→ra pr.vars.length x→cells.length=nc→(nc:Int)=sizes pr.vars→f<1000000→
 (∀v f',b4 pr.vars cells x f=.ok (v,f')→ae Tryz.prog 188 #[ptr b,.agg cs.toArray] σ [au b [.slice pv pr.vars.length cv,bs,.slice (some ⟨gc,0,none⟩) nc nc,vi,vo,i64 f] 172,au gc (ints cells) 2] (aE fun r ag ah=>r=i64 v∧σ=ag∧ah=[au b [.slice pv pr.vars.length cv,bs,.slice (some ⟨gc,0,none⟩) nc nc,vi,vo,i64 f'] 172,au gc (ints cells) 2]))∧
 (∀c f',b4 pr.vars cells x f=.error (c,f')→ae Tryz.prog 188 #[ptr b,.agg cs.toArray] σ [au b [.slice pv pr.vars.length cv,bs,.slice (some ⟨gc,0,none⟩) nc nc,vi,vo,i64 f] 172,au gc (ints cells) 2] (jP fun ch ag ah=>ch=oP c∧σ=ag∧ah=[au b [.slice pv pr.vars.length cv,bs,.slice (some ⟨gc,0,none⟩) nc nc,vi,vo,i64 f'] 172,au gc (ints cells) 2]))
theorem CI {l:List Int} {i:Nat} (h:i<l.length):(ints l)[i]? =some (i64 (l.getD i 0)):=by
 simp[ints,List.getElem?_map,List.getElem?_eq_getElem h]
theorem GL {α:Type} {l:List α} (h:(l.length:Int)=0):l=[]:=List.eq_nil_of_length_eq_zero (by omega)
theorem Rr {α:Type} {l:List α} (h:(l.length:Int)=1):∃x,l=[x]:=by
 match l,h with
 |[x],_=>exact⟨x,rfl⟩
 |[],h=>simp at h
 |_::_::_,h=>simp at h;omega
theorem Rs {α:Type} {l:List α} (h:(l.length:Int)=2):∃x y,l=[x,y]:=by
 match l,h with
 |[x,y],_=>exact⟨x,y,rfl⟩
 |[],h=>simp at h
 |[_],h=>simp at h
 |_::_::_::_,h=>simp at h;omega
theorem tc (σ:PH) (pr:Pr) (h1:∀x∈pr.vars,1≤x.size) (hz:∀x∈pr.vars,0≤x.size∧x.size≤1000) (kK:pr.vars.length≤1000) (x:Ex):Ov σ pr x:=by
 refine Ex.ind (P:=Ov σ pr) ?_ x;intro op v k l ih cs b pv cv bs gc nc cells vi vo f hp hx hV Ad gD hf;obtain⟨pl,cl,rfl,ho,hv,hk,hl⟩:=hx.inv;simp only[Ex.op,Ex.v,Ex.n,Ex.l] at ho hv hk hl⊢;clear hx;rw[ra] at hV;obtain⟨tY,Rj,WM,-,GD⟩:=hV;have dY:cells.length=nc:=Ad;by_cases q1:op=1
 ·subst q1;obtain rfl:l=[]:=GL Rj
  cases f with
  |zero=>
   have hr:b4 pr.vars cells (.mk 1 v k []) 0=.error (13,0):=rfl;refine⟨fun v' f' h=>(by rw[hr] at h;cases h),fun c f' h=>?_⟩;rw[hr] at h;simp only[Except.error.injEq,Prod.mk.injEq] at h;obtain⟨rfl,rfl⟩:=h;(refine bS Tryz.func188 ?_;refine aN ?_;refine cN fun g3=>?_;refine b9 ?_);refine cR (fun g5=>?_) (ad rfl);refine bH ?_;refine XA.eO 1 ?_;refine jX.succ ?_;refine aO ?_;refine a8 ?_;refine az.die rfl (kn σ b _ _ _ _ _) rfl ?_;rintro _ _ _ ⟨rfl,rfl,rfl⟩;refine DA.cl ?_;(repeat (first|refine DA.ax ?_|refine DA.ay ?_));exact ao.panic zE ⟨rfl,rfl,rfl⟩
  |succ f=>
   have hr:b4 pr.vars cells (.mk 1 v k []) (f+1)=.ok (k,f):=rfl;refine⟨fun v' f' h=>?_,fun c f' h=>(by rw[hr] at h;cases h)⟩;rw[hr] at h;simp only[Except.ok.injEq,Prod.mk.injEq] at h;obtain⟨rfl,rfl⟩:=h;(refine bS Tryz.func188 ?_;refine aN ?_;refine cN fun g3=>?_;refine b9 ?_);refine cR (fun g5=>?_) (ad rfl);refine bH ?_;refine XA.eO 1 ?_;refine jX.succ ?_;refine aO ?_;refine a8 ?_;refine zw rfl (aC.cE (fP σ b _ _ _ _ _ f (by omega)) rfl) ?_;rintro _ _ _ ⟨_,⟨rfl,rfl,rfl⟩,rfl⟩;refine az.cl ?_;refine ic ?_;refine cg ?_;exact b8 rfl rfl ⟨rfl,rfl,rfl⟩
 by_cases q2:op=2
 ·subst q2;obtain rfl:l=[]:=GL Rj;have rE:=WM (.inl rfl);obtain⟨vx,yq,WN,wR,xU,AI⟩:=jS h1 rE;have KO:(ints cells)[(cellOf pr.vars v+0).toNat]? =some (i64 (cells.getD (cellOf pr.vars v).toNat 0)):=by rw[Int.add_zero];exact CI (by omega)
  cases f with
  |zero=>
   have hr:b4 pr.vars cells (.mk 2 v k []) 0=.error (13,0):=rfl;refine⟨fun v' f' h=>(by rw[hr] at h;cases h),fun c f' h=>?_⟩;rw[hr] at h;simp only[Except.error.injEq,Prod.mk.injEq] at h;obtain⟨rfl,rfl⟩:=h;(refine bS Tryz.func188 ?_;refine aN ?_;refine cN fun g3=>?_;refine b9 ?_);refine cR (fun g5=>?_) (ad rfl);refine bH ?_;refine XA.eO 1 ?_;refine jX.succ ?_;refine aO ?_;refine a8 ?_;refine az.die rfl (kn σ b _ _ _ _ _) rfl ?_;rintro _ _ _ ⟨rfl,rfl,rfl⟩;refine DA.cl ?_;(repeat (first|refine DA.ax ?_|refine DA.ay ?_));exact ao.panic zE ⟨rfl,rfl,rfl⟩
  |succ f=>
   have hr:b4 pr.vars cells (.mk 2 v k []) (f+1)=.ok (cells.getD (cellOf pr.vars v).toNat 0,f):=rfl;refine⟨fun v' f' h=>?_,fun c f' h=>(by rw[hr] at h;cases h)⟩;rw[hr] at h;simp only[Except.ok.injEq,Prod.mk.injEq] at h;obtain⟨rfl,rfl⟩:=h;(refine bS Tryz.func188 ?_;refine aN ?_;refine cN fun g3=>?_;refine b9 ?_);refine cR (fun g5=>?_) (ad rfl);refine bH ?_;refine XA.eO 1 ?_;refine jX.succ ?_;refine aO ?_;refine a8 ?_;refine zw rfl (aC.cE (fP σ b _ _ _ _ _ f (by omega)) rfl) ?_;rintro _ _ _ ⟨_,⟨rfl,rfl,rfl⟩,rfl⟩;refine az.cl ?_;refine ic ?_;refine bt ?_;refine aN ?_;refine fZ 11 24813 [] (aw.bP (R:=au b _ _) zL (aw.bP (R:=au g3 _ _) zL (aw.bP (R:=au gc _ _) zL (aw.nil _)))) ?_;refine bt ?_;refine aK.fL rfl rfl Gd.free (aC.cE (GK σ b pr _ cv bs _ _ _ _ v 0 hp hz kK rE (by decide) (by omega)) rfl) ?_;rintro _ _ _ ⟨_,⟨rfl,rfl,rfl⟩,rfl⟩;refine stays (aK.cl ?_);refine bC ?_;exact b8 rfl rfl ⟨rfl,rfl,rfl⟩
 by_cases q3:op=3
 ·subst q3;obtain⟨x,rfl⟩:=Rr Rj;simp only[List.length_cons,List.length_nil,Nat.zero_add] at hl⊢;have rE:=WM (.inr rfl);obtain⟨vx,yq,WN,wR,xU,AI⟩:=jS h1 rE;have YQ:=GD.mem x (by simp);obtain⟨g,o,row,rfl,pA,rC,bL⟩:=hl.at (show ([x]:List Ex)[0]? =some x from rfl);have gG:=pA.dn;(have mW:cz σ g o row:=by simpa using bL);obtain⟨CJ,Lj⟩:=ih x (by simp) row b pv cv bs gc nc cells vi vo f hp pA YQ Ad gD hf;have rH:=(lT pr.vars cells x f)
  cases e1:b4 pr.vars cells x f with
  |error e=>
   obtain⟨c0,f0⟩:=e;(have hr:b4 pr.vars cells (.mk 3 v k [x]) f=.error (c0,f0):=by rw[b4,cP,e1]);refine⟨fun v' f' h=>(by rw[hr] at h;cases h),fun c f' h=>?_⟩;rw[hr] at h;simp only[Except.error.injEq,Prod.mk.injEq] at h;obtain⟨rfl,rfl⟩:=h;(refine bS Tryz.func188 ?_;refine aN ?_;refine cN fun g3=>?_;refine b9 ?_);refine cR (fun g5=>?_) (ad rfl);refine bH ?_;refine XA.eO 2 ?_;refine jX.succ ?_;refine aO ?_;refine aW ?_;refine cR (fun g7=>?_) (ad rfl);refine bC ?_;refine az.die rfl (Lj c0 f0 e1) rfl ?_;rintro _ _ _ ⟨rfl,rfl,rfl⟩;refine DA.cl ?_;(repeat (first|refine DA.ax ?_|refine DA.ay ?_));exact ao.panic zE ⟨rfl,rfl,rfl⟩
  |ok a=>
   obtain⟨a,f1⟩:=a;have vD:=rH.ok _ e1;simp only at vD;have fR:aJ BK.zero 0 [i64 a]=[i64 a,i64 0]:=rfl
   cases f1 with
   |zero=>
    (have hr:b4 pr.vars cells (.mk 3 v k [x]) f=.error (13,0):=by rw[b4,cP,e1];rfl);refine⟨fun v' f' h=>(by rw[hr] at h;cases h),fun c f' h=>?_⟩;rw[hr] at h;simp only[Except.error.injEq,Prod.mk.injEq] at h;obtain⟨rfl,rfl⟩:=h;(refine bS Tryz.func188 ?_;refine aN ?_;refine cN fun g3=>?_;refine b9 ?_);refine cR (fun g5=>?_) (ad rfl);refine bH ?_;refine XA.eO 2 ?_;refine jX.succ ?_;refine aO ?_;refine aW ?_;refine cR (fun g7=>?_) (ad rfl);refine bC ?_;refine zw rfl (aC.cE (CJ a 0 e1) rfl) ?_;rintro _ _ _ ⟨_,⟨rfl,rfl,rfl⟩,rfl⟩;refine az.cl ?_;refine aW ?_;refine jX.succ ?_;refine aO ?_;refine a8 ?_;refine az.die rfl (kn σ b _ _ _ _ _) rfl ?_;rintro _ _ _ ⟨rfl,rfl,rfl⟩;refine DA.cl ?_;(repeat (first|refine DA.ax ?_|refine DA.ay ?_));exact ao.panic zE ⟨rfl,rfl,rfl⟩
   |succ f1=>
    by_cases E6:a<0∨fu pr.vars v≤a
    ·(have hr:b4 pr.vars cells (.mk 3 v k [x]) f=.error (11,f1):=by rw[b4,cP,e1];show jG pr.vars cells 3 v k [a] f1=_;rw[jG,if_neg (by decide),if_neg (by decide),if_pos rfl];exact if_pos E6);refine⟨fun v' f' h=>(by rw[hr] at h;cases h),fun c f' h=>?_⟩;rw[hr] at h;simp only[Except.error.injEq,Prod.mk.injEq] at h;obtain⟨rfl,rfl⟩:=h;(refine bS Tryz.func188 ?_;refine aN ?_;refine cN fun g3=>?_;refine b9 ?_);refine cR (fun g5=>?_) (ad rfl);refine bH ?_;refine XA.eO 2 ?_;refine jX.succ ?_;refine aO ?_;refine aW ?_;refine cR (fun g7=>?_) (ad rfl);refine bC ?_;refine zw rfl (aC.cE (CJ a (f1+1) e1) rfl) ?_;rintro _ _ _ ⟨_,⟨rfl,rfl,rfl⟩,rfl⟩;refine az.cl ?_;refine aW ?_;refine jX.succ ?_;refine aO ?_;refine a8 ?_;refine zw rfl (aC.cE (fP σ b _ _ _ _ _ f1 (by omega)) rfl) ?_;rintro _ _ _ ⟨_,⟨rfl,rfl,rfl⟩,rfl⟩;refine az.cl ?_;refine ic ?_;refine bt ?_;refine bt ?_;refine aN ?_;refine fZ 13 223830 [] (aw.bP (R:=au b _ _) zL (aw.bP (R:=au g3 _ _) zL (aw.bP (R:=au gc _ _) zL (aw.bP (R:=au g5 _ _) zL (aw.nil _))))) ?_;refine a8 ?_;refine aK.die rfl rfl Gd.free (Vl σ b pr _ cv bs _ _ _ _ v a hp hz kK rE E6) rfl ?_;rintro _ _ _ ⟨rfl,rfl,rfl⟩;refine DA.cl ?_;(repeat (first|refine DA.ax ?_|refine DA.ay ?_));exact ao.panic zE ⟨rfl,rfl,rfl⟩
    ·(have xP:0≤a:=by omega);(have FL:a<fu pr.vars v:=by omega);have KO:(ints cells)[(cellOf pr.vars v+a).toNat]? =some (i64 (cells.getD (cellOf pr.vars v+a).toNat 0)):=CI (by omega);(have hr:b4 pr.vars cells (.mk 3 v k [x]) f=.ok (cells.getD (cellOf pr.vars v+a).toNat 0,f1):=by rw[b4,cP,e1];show jG pr.vars cells 3 v k [a] f1=_;rw[jG,if_neg (by decide),if_neg (by decide),if_pos rfl];exact if_neg E6);refine⟨fun v' f' h=>?_,fun c f' h=>(by rw[hr] at h;cases h)⟩;rw[hr] at h;simp only[Except.ok.injEq,Prod.mk.injEq] at h;obtain⟨rfl,rfl⟩:=h;(refine bS Tryz.func188 ?_;refine aN ?_;refine cN fun g3=>?_;refine b9 ?_);refine cR (fun g5=>?_) (ad rfl);refine bH ?_;refine XA.eO 2 ?_;refine jX.succ ?_;refine aO ?_;refine aW ?_;refine cR (fun g7=>?_) (ad rfl);refine bC ?_;refine zw rfl (aC.cE (CJ a (f1+1) e1) rfl) ?_;rintro _ _ _ ⟨_,⟨rfl,rfl,rfl⟩,rfl⟩;refine az.cl ?_;refine aW ?_;refine jX.succ ?_;refine aO ?_;refine a8 ?_;refine zw rfl (aC.cE (fP σ b _ _ _ _ _ f1 (by omega)) rfl) ?_;rintro _ _ _ ⟨_,⟨rfl,rfl,rfl⟩,rfl⟩;refine az.cl ?_;refine ic ?_;refine bt ?_;refine bt ?_;refine aN ?_;refine fZ 13 223830 [] (aw.bP (R:=au b _ _) zL (aw.bP (R:=au g3 _ _) zL (aw.bP (R:=au gc _ _) zL (aw.bP (R:=au g5 _ _) zL (aw.nil _))))) ?_;refine a8 ?_;refine aK.fL rfl rfl Gd.free (aC.cE (GK σ b pr _ cv bs _ _ _ _ v a hp hz kK rE xP FL) rfl) ?_;rintro _ _ _ ⟨_,⟨rfl,rfl,rfl⟩,rfl⟩;refine stays (aK.cl ?_);refine bC ?_;exact b8 rfl rfl ⟨rfl,rfl,rfl⟩
 (have zn:4≤op∧op≤8:=by omega);(have zr:partsOf op=2:=by rw[partsOf,if_neg (by omega),if_neg q3,if_pos zn]);obtain⟨x,y,rfl⟩:=Rs (Rj.trans zr);simp only[List.length_cons,List.length_nil,Nat.zero_add,Nat.reduceAdd] at hl⊢;have YQ:=GD.mem x (by simp);have hyV:=GD.mem y (by simp);obtain⟨g,o,row,rfl,pA,rC,bL⟩:=hl.at (show ([x,y]:List Ex)[0]? =some x from rfl);obtain⟨g',o',Aj,WJ,hry,adB,Ow⟩:=hl.at (show ([x,y]:List Ex)[1]? =some y from rfl);simp only[Option.some.injEq,Addr.mk.injEq,and_true] at WJ;obtain⟨rfl,rfl⟩:=WJ;have gG:=pA.dn;have aa5:=hry.dn;(have mW:cz σ g o row:=by simpa using bL);(have Ox:cz σ g (o+4) Aj:=by simpa using Ow);clear bL Ow;obtain⟨CJ,Lj⟩:=ih x (by simp) row b pv cv bs gc nc cells vi vo f hp pA YQ Ad gD hf;have rH:=(lT pr.vars cells x f)
 cases e1:b4 pr.vars cells x f with
 |error e=>
  obtain⟨c0,f0⟩:=e;(have hr:b4 pr.vars cells (.mk op v k [x,y]) f=.error (c0,f0):=by rw[b4,cP,e1]);refine⟨fun v' f' h=>(by rw[hr] at h;cases h),fun c f' h=>?_⟩;rw[hr] at h;simp only[Except.error.injEq,Prod.mk.injEq] at h;obtain⟨rfl,rfl⟩:=h;(refine bS Tryz.func188 ?_;refine aN ?_;refine cN fun g3=>?_;refine b9 ?_);refine cR (fun g5=>?_) (ad rfl);refine bH ?_;refine XA.eO 3 ?_;refine jX.succ ?_;refine aO ?_;refine aW ?_;refine cR (fun g7=>?_) (ad rfl);refine bC ?_;refine az.die rfl (Lj c0 f0 e1) rfl ?_;rintro _ _ _ ⟨rfl,rfl,rfl⟩;refine DA.cl ?_;(repeat (first|refine DA.ax ?_|refine DA.ay ?_));exact ao.panic zE ⟨rfl,rfl,rfl⟩
 |ok a=>
  obtain⟨a,f1⟩:=a;have vD:=rH.ok _ e1;simp only at vD;have fR:aJ BK.zero 0 [i64 a]=[i64 a,i64 0]:=rfl;obtain⟨SP,jhe⟩:=ih y (by simp) Aj b pv cv bs gc nc cells vi vo f1 hp hry hyV Ad gD (by omega);have Wd:=(lT pr.vars cells y f1)
  cases e2:b4 pr.vars cells y f1 with
  |error e=>
   obtain⟨c0,f0⟩:=e;(have hr:b4 pr.vars cells (.mk op v k [x,y]) f=.error (c0,f0):=by rw[b4,cP,e1];simp only[cP,e2]);refine⟨fun v' f' h=>(by rw[hr] at h;cases h),fun c f' h=>?_⟩;rw[hr] at h;simp only[Except.error.injEq,Prod.mk.injEq] at h;obtain⟨rfl,rfl⟩:=h;(refine bS Tryz.func188 ?_;refine aN ?_;refine cN fun g3=>?_;refine b9 ?_);refine cR (fun g5=>?_) (ad rfl);refine bH ?_;refine XA.eO 3 ?_;refine jX.succ ?_;refine aO ?_;refine aW ?_;refine cR (fun g7=>?_) (ad rfl);refine bC ?_;refine zw rfl (aC.cE (CJ a f1 e1) rfl) ?_;rintro _ _ _ ⟨_,⟨rfl,rfl,rfl⟩,rfl⟩;refine az.cl ?_;refine aW ?_;refine jX.succ ?_;refine aO ?_;refine aW ?_;refine cR (fun g7=>?_) (ad rfl);refine bC ?_;refine az.die rfl (jhe c0 f0 e2) rfl ?_;rintro _ _ _ ⟨rfl,rfl,rfl⟩;refine DA.cl ?_;(repeat (first|refine DA.ax ?_|refine DA.ay ?_));exact ao.panic zE ⟨rfl,rfl,rfl⟩
  |ok c=>
   obtain⟨c,f2⟩:=c;have zt:=Wd.ok _ e2;simp only at zt;have n6:aJ [i64 a,i64 0] 1 [i64 c]=[i64 a,i64 c]:=rfl
   cases f2 with
   |zero=>
    (have hr:b4 pr.vars cells (.mk op v k [x,y]) f=.error (13,0):=by rw[b4,cP,e1];simp only[cP,e2];rfl);refine⟨fun v' f' h=>(by rw[hr] at h;cases h),fun c f' h=>?_⟩;rw[hr] at h;simp only[Except.error.injEq,Prod.mk.injEq] at h;obtain⟨rfl,rfl⟩:=h;(refine bS Tryz.func188 ?_;refine aN ?_;refine cN fun g3=>?_;refine b9 ?_);refine cR (fun g5=>?_) (ad rfl);refine bH ?_;refine XA.eO 3 ?_;refine jX.succ ?_;refine aO ?_;refine aW ?_;refine cR (fun g7=>?_) (ad rfl);refine bC ?_;refine zw rfl (aC.cE (CJ a f1 e1) rfl) ?_;rintro _ _ _ ⟨_,⟨rfl,rfl,rfl⟩,rfl⟩;refine az.cl ?_;refine aW ?_;refine jX.succ ?_;refine aO ?_;refine aW ?_;refine cR (fun g7=>?_) (ad rfl);refine bC ?_;refine zw rfl (aC.cE (SP c 0 e2) rfl) ?_;rintro _ _ _ ⟨_,⟨rfl,rfl,rfl⟩,rfl⟩;refine az.cl ?_;refine aW ?_;refine jX.succ ?_;refine aO ?_;refine a8 ?_;refine az.die rfl (kn σ b _ _ _ _ _) rfl ?_;rintro _ _ _ ⟨rfl,rfl,rfl⟩;refine DA.cl ?_;(repeat (first|refine DA.ax ?_|refine DA.ay ?_));exact ao.panic zE ⟨rfl,rfl,rfl⟩
   |succ f2=>
    have hr:b4 pr.vars cells (.mk op v k [x,y]) f=.ok (fh op a c,f2):=by
     rw[b4,cP,e1];simp only[cP,e2];show jG pr.vars cells op v k [a,c] f2=_;rw[jG,if_neg q1,if_neg q2,if_neg q3];rfl
    by_cases q4:op=4
    ·subst q4;refine⟨fun v' f' h=>?_,fun c f' h=>(by rw[hr] at h;cases h)⟩;rw[hr] at h;simp only[Except.ok.injEq,Prod.mk.injEq] at h;obtain⟨rfl,rfl⟩:=h;(refine bS Tryz.func188 ?_;refine aN ?_;refine cN fun g3=>?_;refine b9 ?_);refine cR (fun g5=>?_) (ad rfl);refine bH ?_;refine XA.eO 3 ?_;refine jX.succ ?_;refine aO ?_;refine aW ?_;refine cR (fun g7=>?_) (ad rfl);refine bC ?_;refine zw rfl (aC.cE (CJ a f1 e1) rfl) ?_;rintro _ _ _ ⟨_,⟨rfl,rfl,rfl⟩,rfl⟩;refine az.cl ?_;refine aW ?_;refine jX.succ ?_;refine aO ?_;refine aW ?_;refine cR (fun g7=>?_) (ad rfl);refine bC ?_;refine zw rfl (aC.cE (SP c (f2+1) e2) rfl) ?_;rintro _ _ _ ⟨_,⟨rfl,rfl,rfl⟩,rfl⟩;refine az.cl ?_;refine aW ?_;refine jX.succ ?_;refine aO ?_;refine a8 ?_;refine zw rfl (aC.cE (fP σ b _ _ _ _ _ f2 (by omega)) rfl) ?_;rintro _ _ _ ⟨_,⟨rfl,rfl,rfl⟩,rfl⟩;refine az.cl ?_;refine ic ?_;(iterate 3 (refine bt ?_));refine dJ ?_;exact b8 rfl rfl ⟨rfl,rfl,rfl⟩
    by_cases q5:op=5
    ·subst q5;refine⟨fun v' f' h=>?_,fun c f' h=>(by rw[hr] at h;cases h)⟩;rw[hr] at h;simp only[Except.ok.injEq,Prod.mk.injEq] at h;obtain⟨rfl,rfl⟩:=h;(refine bS Tryz.func188 ?_;refine aN ?_;refine cN fun g3=>?_;refine b9 ?_);refine cR (fun g5=>?_) (ad rfl);refine bH ?_;refine XA.eO 3 ?_;refine jX.succ ?_;refine aO ?_;refine aW ?_;refine cR (fun g7=>?_) (ad rfl);refine bC ?_;refine zw rfl (aC.cE (CJ a f1 e1) rfl) ?_;rintro _ _ _ ⟨_,⟨rfl,rfl,rfl⟩,rfl⟩;refine az.cl ?_;refine aW ?_;refine jX.succ ?_;refine aO ?_;refine aW ?_;refine cR (fun g7=>?_) (ad rfl);refine bC ?_;refine zw rfl (aC.cE (SP c (f2+1) e2) rfl) ?_;rintro _ _ _ ⟨_,⟨rfl,rfl,rfl⟩,rfl⟩;refine az.cl ?_;refine aW ?_;refine jX.succ ?_;refine aO ?_;refine a8 ?_;refine zw rfl (aC.cE (fP σ b _ _ _ _ _ f2 (by omega)) rfl) ?_;rintro _ _ _ ⟨_,⟨rfl,rfl,rfl⟩,rfl⟩;refine az.cl ?_;refine ic ?_;(iterate 4 (refine bt ?_));refine dJ ?_;exact b8 rfl rfl ⟨rfl,rfl,rfl⟩
    by_cases q6:op=6
    ·subst q6;refine⟨fun v' f' h=>?_,fun c f' h=>(by rw[hr] at h;cases h)⟩;rw[hr] at h;simp only[Except.ok.injEq,Prod.mk.injEq] at h;obtain⟨rfl,rfl⟩:=h;(refine bS Tryz.func188 ?_;refine aN ?_;refine cN fun g3=>?_;refine b9 ?_);refine cR (fun g5=>?_) (ad rfl);refine bH ?_;refine XA.eO 3 ?_;refine jX.succ ?_;refine aO ?_;refine aW ?_;refine cR (fun g7=>?_) (ad rfl);refine bC ?_;refine zw rfl (aC.cE (CJ a f1 e1) rfl) ?_;rintro _ _ _ ⟨_,⟨rfl,rfl,rfl⟩,rfl⟩;refine az.cl ?_;refine aW ?_;refine jX.succ ?_;refine aO ?_;refine aW ?_;refine cR (fun g7=>?_) (ad rfl);refine bC ?_;refine zw rfl (aC.cE (SP c (f2+1) e2) rfl) ?_;rintro _ _ _ ⟨_,⟨rfl,rfl,rfl⟩,rfl⟩;refine az.cl ?_;refine aW ?_;refine jX.succ ?_;refine aO ?_;refine a8 ?_;refine zw rfl (aC.cE (fP σ b _ _ _ _ _ f2 (by omega)) rfl) ?_;rintro _ _ _ ⟨_,⟨rfl,rfl,rfl⟩,rfl⟩;refine az.cl ?_;refine ic ?_;(iterate 6 (refine bt ?_));refine zO rfl (by first|exact Rd.mli rfl rfl|exact Rd.mul rfl rfl) ?_;refine aO ?_;exact b8 rfl rfl ⟨rfl,rfl,rfl⟩
    by_cases q7:op=7
    ·subst q7;refine⟨fun v' f' h=>?_,fun c f' h=>(by rw[hr] at h;cases h)⟩;rw[hr] at h;simp only[Except.ok.injEq,Prod.mk.injEq] at h;obtain⟨rfl,rfl⟩:=h;(refine bS Tryz.func188 ?_;refine aN ?_;refine cN fun g3=>?_;refine b9 ?_);refine cR (fun g5=>?_) (ad rfl);refine bH ?_;refine XA.eO 3 ?_;refine jX.succ ?_;refine aO ?_;refine aW ?_;refine cR (fun g7=>?_) (ad rfl);refine bC ?_;refine zw rfl (aC.cE (CJ a f1 e1) rfl) ?_;rintro _ _ _ ⟨_,⟨rfl,rfl,rfl⟩,rfl⟩;refine az.cl ?_;refine aW ?_;refine jX.succ ?_;refine aO ?_;refine aW ?_;refine cR (fun g7=>?_) (ad rfl);refine bC ?_;refine zw rfl (aC.cE (SP c (f2+1) e2) rfl) ?_;rintro _ _ _ ⟨_,⟨rfl,rfl,rfl⟩,rfl⟩;refine az.cl ?_;refine aW ?_;refine jX.succ ?_;refine aO ?_;refine a8 ?_;refine zw rfl (aC.cE (fP σ b _ _ _ _ _ f2 (by omega)) rfl) ?_;rintro _ _ _ ⟨_,⟨rfl,rfl,rfl⟩,rfl⟩;refine az.cl ?_;refine ic ?_;(iterate 6 (refine bt ?_));refine bC ?_;refine zw rfl (aC.cE (GJ σ _) rfl) ?_;rintro _ _ _ ⟨_,⟨rfl,rfl,rfl⟩,rfl⟩;refine az.cl ?_;refine aO ?_;exact b8 rfl rfl ⟨by simp[fh],rfl,rfl⟩
    by_cases q8:op=8
    ·subst q8;refine⟨fun v' f' h=>?_,fun c f' h=>(by rw[hr] at h;cases h)⟩;rw[hr] at h;simp only[Except.ok.injEq,Prod.mk.injEq] at h;obtain⟨rfl,rfl⟩:=h;(refine bS Tryz.func188 ?_;refine aN ?_;refine cN fun g3=>?_;refine b9 ?_);refine cR (fun g5=>?_) (ad rfl);refine bH ?_;refine XA.eO 3 ?_;refine jX.succ ?_;refine aO ?_;refine aW ?_;refine cR (fun g7=>?_) (ad rfl);refine bC ?_;refine zw rfl (aC.cE (CJ a f1 e1) rfl) ?_;rintro _ _ _ ⟨_,⟨rfl,rfl,rfl⟩,rfl⟩;refine az.cl ?_;refine aW ?_;refine jX.succ ?_;refine aO ?_;refine aW ?_;refine cR (fun g7=>?_) (ad rfl);refine bC ?_;refine zw rfl (aC.cE (SP c (f2+1) e2) rfl) ?_;rintro _ _ _ ⟨_,⟨rfl,rfl,rfl⟩,rfl⟩;refine az.cl ?_;refine aW ?_;refine jX.succ ?_;refine aO ?_;refine a8 ?_;refine zw rfl (aC.cE (fP σ b _ _ _ _ _ f2 (by omega)) rfl) ?_;rintro _ _ _ ⟨_,⟨rfl,rfl,rfl⟩,rfl⟩;refine az.cl ?_;refine ic ?_;(iterate 6 (refine bt ?_));refine cg ?_;refine zw rfl (aC.cE (GJ σ _) rfl) ?_;rintro _ _ _ ⟨_,⟨rfl,rfl,rfl⟩,rfl⟩;refine az.cl ?_;refine bM ?_;exact b8 rfl rfl ⟨by simp[fh],rfl,rfl⟩
    omega
def Lk (vs:List Va) (cells:List Int) (x:Ex) (f:Nat):XR Bool:=match b4 vs cells x f with
 |.error e=>.error e
 |.ok (n,k)=>match s7 k with
  |.error e=>.error e
  |.ok k'=>.ok (decide (n≠0),k')
theorem GM (k:Nat):s7 (k+1)=.ok k:=by simp[s7]
theorem CK (vs:List Va) (x:Ex) (cells inp out:List Int) (f:Nat):tM vs x ⟨cells,inp,out,f⟩=match Lk vs cells x f with
 |.error (c,k)=>.error (c,⟨cells,inp,out,k⟩)
 |.ok (b,k)=>.ok (b,⟨cells,inp,out,k⟩):=by
 rw[tM,mE,Lk];simp only
 cases b4 vs cells x f with
 |error e=>rfl
 |ok a=>
  obtain⟨n,k⟩:=a
  cases k with
  |zero=>rfl
  |succ k=>simp[cx,s7]
theorem Vm (σ:PH) (pr:Pr) (h1:∀x∈pr.vars,1≤x.size) (hz:∀x∈pr.vars,0≤x.size∧x.size≤1000) (kK:pr.vars.length≤1000) (x:Ex) (cs:List Value) (b:Nat) (pv:Option Addr) (cv:Nat) (bs:Value) (gc nc:Nat) (cells:List Int) (vi vo:Value) (f:Nat)
 (hp:fY σ [.slice pv pr.vars.length cv,bs] pr) (hx:dc σ cs x) (hV:ra pr.vars.length x) (Ad:cells.length=nc) (gD:(nc:Int)=sizes pr.vars) (hf:f<1000000):
 (∀v f',Lk pr.vars cells x f=.ok (v,f')→ae Tryz.prog 190 #[ptr b,.agg cs.toArray] σ [au b [.slice pv pr.vars.length cv,bs,.slice (some ⟨gc,0,none⟩) nc nc,vi,vo,i64 f] 172,au gc (ints cells) 2] (aE fun r ag ah=>r=.bool v∧σ=ag∧ah=[au b [.slice pv pr.vars.length cv,bs,.slice (some ⟨gc,0,none⟩) nc nc,vi,vo,i64 f'] 172,au gc (ints cells) 2]))∧
 (∀c f',Lk pr.vars cells x f=.error (c,f')→ae Tryz.prog 190 #[ptr b,.agg cs.toArray] σ [au b [.slice pv pr.vars.length cv,bs,.slice (some ⟨gc,0,none⟩) nc nc,vi,vo,i64 f] 172,au gc (ints cells) 2] (jP fun ch ag ah=>ch=oP c∧σ=ag∧ah=[au b [.slice pv pr.vars.length cv,bs,.slice (some ⟨gc,0,none⟩) nc nc,vi,vo,i64 f'] 172,au gc (ints cells) 2])):=by
 obtain⟨CJ,Lj⟩:=tc σ pr h1 hz kK x cs b pv cv bs gc nc cells vi vo f hp hx hV Ad gD hf;have gG:=hx.dn;have Is:=hx.len;have rH:=lT pr.vars cells x f;rw[Lk]
 cases e1:b4 pr.vars cells x f with
 |error e=>
  obtain⟨c0,f0⟩:=e;refine⟨fun v f' h=>(by cases h),fun c f' h=>?_⟩;cases h;(refine bS Tryz.func190 ?_;refine aN ?_;refine cN fun g3=>?_;refine bt ?_;refine az.die rfl (Lj c0 f0 e1) rfl ?_);rintro _ _ _ ⟨rfl,rfl,rfl⟩;refine DA.cl ?_;(repeat (first|refine DA.ax ?_|refine DA.ay ?_));exact ao.panic zE ⟨rfl,rfl,rfl⟩
 |ok a=>
  obtain⟨n,k⟩:=a;have vD:=rH.ok _ e1;simp only at vD
  cases k with
  |zero=>
   refine⟨fun v f' h=>(by cases h),fun c f' h=>?_⟩;cases h;(refine bS Tryz.func190 ?_;refine aN ?_;refine cN fun g3=>?_;refine bt ?_;refine zw rfl (aC.cE (CJ n 0 e1) rfl) ?_;rintro _ _ _ ⟨_,⟨rfl,rfl,rfl⟩,rfl⟩;refine az.cl ?_;refine aO ?_;refine az.die rfl (kn σ b _ _ _ _ _) rfl ?_);rintro _ _ _ ⟨rfl,rfl,rfl⟩;refine DA.cl ?_;(repeat (first|refine DA.ax ?_|refine DA.ay ?_));exact ao.panic zE ⟨rfl,rfl,rfl⟩
  |succ k=>
   simp only[GM];refine⟨fun v f' h=>?_,fun c f' h=>(by cases h)⟩;simp only[Except.ok.injEq,Prod.mk.injEq] at h;obtain⟨rfl,rfl⟩:=h;(refine bS Tryz.func190 ?_;refine aN ?_;refine cN fun g3=>?_;refine bt ?_;refine zw rfl (aC.cE (CJ n (k+1) e1) rfl) ?_;rintro _ _ _ ⟨_,⟨rfl,rfl,rfl⟩,rfl⟩;refine az.cl ?_;refine aO ?_);refine zw rfl (aC.cE (fP σ b _ _ _ _ _ k (by omega)) rfl) ?_;rintro _ _ _ ⟨_,⟨rfl,rfl,rfl⟩,rfl⟩;refine az.cl ?_;refine aW ?_;exact b8 rfl rfl ⟨rfl,rfl,rfl⟩
theorem qk (l:List Int) {i:Nat} (w:Int) (hi:i<l.length):aJ (ints l) i [i64 w]=ints (l.set i w):=by
 simp only[aJ,ints,List.length_singleton,List.map_set];rw[List.set_eq_take_append_cons_drop,if_pos (by simpa using hi)];simp
def lx (σ:PH) (mk:RS→Value→Option Addr→Nat→List HP) (r:RR):Ending→PH→List HP→Prop:=fun e ag ah=>match r,e with
 |.ok s',.returned v=>v=.tuple #[]∧σ=ag∧∃vi po co,aV σ vi s'.inp∧ah=mk s' vi po co
 |.error (c,s'),.panicked ch=>ch=oP c∧σ=ag∧∃vi po co,aV σ vi s'.inp∧ah=mk s' vi po co
 |_,_=>False
theorem lx.ok {P:Program} {f:FuncId} {vs:Array Value} {Γ:List HP} {σ:PH} {mk:RS→Value→Option Addr→Nat→List HP} {s':RS} (h:ae P f vs σ Γ (lx σ mk (.ok s'))):
 ae P f vs σ Γ (aE fun v ag ah=>v=.tuple #[]∧σ=ag∧∃vi po co,aV σ vi s'.inp∧ah=mk s' vi po co):=ae.mono h fun e _ _ he=>by cases e<;>exact he
theorem lx.err {P:Program} {f:FuncId} {vs:Array Value} {Γ:List HP} {σ:PH} {mk:RS→Value→Option Addr→Nat→List HP} {c:Int} {s':RS} (h:ae P f vs σ Γ (lx σ mk (.error (c,s')))):
 ae P f vs σ Γ (jP fun ch ag ah=>ch=oP c∧σ=ag∧∃vi po co,aV σ vi s'.inp∧ah=mk s' vi po co):=ae.mono h fun e _ _ he=>by cases e<;>exact he
@[reducible] def mkS (b:Nat) (pv:Option Addr) (nv cv:Nat) (bs:Value) (gc nc:Nat):RS→Value→Option Addr→Nat→List HP:=fun s vi po co=>[au b [.slice pv nv cv,bs,.slice (some ⟨gc,0,none⟩) nc nc,vi,.slice po (s).out.length co,i64 (s).left] 172,au gc (ints (s).cells) 2,bn 2 1 (.slice po (s).out.length co) (s).out.length (ints (s).out)]
structure rI (vs:List Va) (nc:Nat) (s:RS):Prop where
 cl:s.cells.length=nc
 sz:(nc:Int)=sizes vs
 left:s.left<1000000
 out:s.out.length+s.left<2000000
structure jA (s s':RS):Prop where
 cl:s'.cells.length=s.cells.length
 left:s'.left≤s.left
 out:s'.out.length+s'.left≤s.out.length+s.left
theorem jA.refl (s:RS):jA s s:=⟨rfl,Nat.le_refl _,Nat.le_refl _⟩
theorem jA.trans {a b c:RS} (h:jA a b) (k:jA b c):jA a c:=⟨k.cl.trans h.cl,Nat.le_trans k.left h.left,Nat.le_trans k.out h.out⟩
theorem rI.less {vs:List Va} {nc:Nat} {s s':RS} (h:rI vs nc s) (k:jA s s'):rI vs nc s':=⟨k.cl.trans h.cl,h.sz,Nat.lt_of_le_of_lt k.left h.left,Nat.lt_of_le_of_lt k.out h.out⟩
def rJ:RR→RS|.ok s=>s|.error (_,s)=>s
theorem oQ (vs:List Va) (x:Ex) (s:RS):(∀v s',mE vs x s=.ok (v,s')→jA s s'∧s'.left≤s.left∧s'={s with left:=s'.left})∧∀c s',mE vs x s=.error (c,s')→jA s s':=by
 have hx:=lT vs s.cells x s.left;rw[mE]
 cases e:b4 vs s.cells x s.left with
 |error q=>
  obtain⟨c,k⟩:=q;refine⟨fun v s' h=>(by cases h),fun c' s' h=>?_⟩;cases h;have:=(hx.err _ _ e).1;exact⟨rfl,this,by show s.out.length+k≤_;omega⟩
 |ok q=>
  obtain⟨n,k⟩:=q;refine⟨fun v s' h=>?_,fun c' s' h=>(by cases h)⟩;cases h;have:=hx.ok _ e;exact⟨⟨rfl,this,by show s.out.length+k≤_;simp only at this;omega⟩,this,rfl⟩
theorem fm {s:RS}:(∀s',cx s=.ok s'→jA s s'∧s'.left+1=s.left∧s'={s with left:=s'.left})∧∀c s',cx s=.error (c,s')→s'=s∧c=13∧s.left=0:=by
 rw[cx];by_cases h:s.left=0
 ·rw[if_pos h];exact⟨fun s' h=>(by cases h),fun c s' e=>by cases e;exact⟨rfl,rfl,h⟩⟩
 ·rw[if_neg h];refine⟨fun s' e=>?_,fun c s' e=>(by cases e)⟩;cases e;exact⟨⟨rfl,Nat.sub_le _ _,by show s.out.length+(s.left-1)≤_;omega⟩,by show s.left-1+1=_;omega,rfl⟩
theorem oR (vs:List Va) (g:Nat) (v:Int) (e f:Ex) (body cG:List St) (s:RS):fT vs (g+1) (.mk 5 v e f body cG) s=match tM vs e s with
 |.error e=>some (.error e)
 |.ok (false,s1)=>some (.ok s1)
 |.ok (true,s1)=>match dI (fT vs g) body s1 with
  |none=>none
  |some (.error e)=>some (.error e)
  |some (.ok s2)=>match cx s2 with
   |.error e=>some (.error e)
   |.ok s3=>fT vs g (.mk 5 v e f body cG) s3:=by rw[fT];rfl
theorem rh (vs:List Va) (g:Nat) (v:Int) (e f:Ex) (body cG:List St) (s:RS):fT vs (g+1) (.mk 6 v e f body cG) s=match tM vs e s with
 |.error e=>some (.error e)
 |.ok (true,s1)=>match dI (fT vs g) body s1 with
  |none=>none
  |some (.error e)=>some (.error e)
  |some (.ok s2)=>some (cx s2)
 |.ok (false,s1)=>dI (fT vs g) cG s1:=by rw[fT];rfl
theorem GN (vs:List Va) (x:Ex) (s:RS):(∀v s',tM vs x s=.ok (v,s')→jA s s'∧s'={s with left:=s'.left})∧∀c s',tM vs x s=.error (c,s')→jA s s':=by
 obtain⟨h1,h2⟩:=oQ vs x s;rw[tM]
 cases e:mE vs x s with
 |error q=>exact⟨fun v s' h=>(by cases h),fun c s' h=>by cases h;exact h2 _ _ e⟩
 |ok q=>
  obtain⟨n,s1⟩:=q;obtain⟨a1,a2,a3⟩:=h1 _ _ e;obtain⟨b1,b2⟩:=fm (s:=s1);simp only
  cases e2:cx s1 with
  |error q=>obtain⟨c0,s0⟩:=q;refine⟨fun v s' h=>(by cases h),fun c s' h=>?_⟩;cases h;obtain⟨rfl,-,-⟩:=b2 _ _ e2;exact a1
  |ok s2=>
   obtain⟨c1,c2,c3⟩:=b1 _ e2;refine⟨fun v s' h=>?_,fun c s' h=>(by cases h)⟩;cases h;exact⟨a1.trans c1,by rw[a3] at c3;exact c3⟩
theorem gW {F:St→RS→Option RR} (hF:∀x s r,F x s=some r→jA s (rJ r)):∀(l:List St) (s:RS) (r:RR),dI F l s=some r→jA s (rJ r)
 |[],s,r,h=>by cases h;exact jA.refl s
 |x::l,s,r,h=>by
  rw[dI] at h
  cases e:F x s with
  |none=>rw[e] at h;cases h
  |some q=>
   rw[e] at h;have h1:=hF _ _ _ e
   cases q with
   |error q=>cases h;exact h1
   |ok s1=>exact jA.trans h1 (gW hF l s1 r h)
theorem GO {s s1:RS} (h:jA s s1):jA s (rJ (cx s1)):=by
 obtain⟨h1,h2⟩:=fm (s:=s1)
 cases e:cx s1 with
 |error q=>obtain⟨c,s2⟩:=q;obtain⟨rfl,-,-⟩:=h2 _ _ e;exact h
 |ok s2=>exact h.trans (h1 _ e).1
theorem kq (vs:List Va):∀(g:Nat) (x:St) (s:RS) (r:RR),fT vs g x s=some r→jA s (rJ r):=by
 intro g
 induction g with
 |zero=>intro x s r h;cases h
 |succ g ih=>
  intro x s r h;obtain⟨op,v,e,f,body,cG⟩:=x;obtain⟨x1,x2⟩:=oQ vs e s;by_cases q1:op=1
  ·subst q1;rw[fT,if_pos rfl] at h;cases h;rw[vY]
   cases e1:mE vs e s with
   |error q=>exact x2 _ _ e1
   |ok q=>
    have a1:=(x1 _ _ e1).1;simp only;obtain⟨b1,b2⟩:=fm (s:=q.2)
    cases e2:cx q.2 with
    |error q=>obtain⟨c0,s0⟩:=q;obtain⟨rfl,-,-⟩:=b2 _ _ e2;exact a1
    |ok s2=>have:=a1.trans (b1 _ e2).1;exact⟨by simp only[rJ,List.length_set];exact this.cl,this.left,this.out⟩
  by_cases q2:op=2
  ·subst q2;rw[fT,if_neg (by decide),if_pos rfl] at h;cases h;rw[qh]
   cases e1:mE vs e s with
   |error q=>exact x2 _ _ e1
   |ok q=>
    have a1:=(x1 _ _ e1).1;simp only;obtain⟨y1,y2⟩:=oQ vs f q.2
    cases e2:mE vs f q.2 with
    |error q=>exact a1.trans (y2 _ _ e2)
    |ok q'=>
     have a2:=a1.trans (y1 _ _ e2).1;simp only;obtain⟨b1,b2⟩:=fm (s:=q'.2)
     cases e3:cx q'.2 with
     |error q=>obtain⟨c0,s0⟩:=q;obtain⟨rfl,-,-⟩:=b2 _ _ e3;exact a2
     |ok s2=>
      have:=a2.trans (b1 _ e3).1;simp only;split
      ·exact this
      ·exact⟨by simp only[rJ,List.length_set];exact this.cl,this.left,this.out⟩
  by_cases q3:op=3
  ·subst q3;rw[fT,if_neg (by decide),if_neg (by decide),if_pos rfl] at h;cases h;rw[kV]
   cases e1:mE vs e s with
   |error q=>exact x2 _ _ e1
   |ok q=>
    have a1:=(x1 _ _ e1).1;simp only;obtain⟨b1,b2⟩:=fm (s:=q.2)
    cases e2:cx q.2 with
    |error q=>obtain⟨c0,s0⟩:=q;obtain⟨rfl,-,-⟩:=b2 _ _ e2;exact a1
    |ok s2=>
     obtain⟨c1,c2,c3⟩:=b1 _ e2;have:=a1.trans c1;(have ho:s2.out=q.2.out:=by rw[c3]);have:=a1.out;refine⟨this |> fun _=>(a1.trans c1).cl,(a1.trans c1).left,?_⟩;simp only[rJ,List.length_append,List.length_singleton];rw[ho];omega
  by_cases q4:op=4
  ·subst q4;rw[fT,if_neg (by decide),if_neg (by decide),if_neg (by decide),if_pos rfl] at h;cases h;rw[oO];obtain⟨b1,b2⟩:=fm (s:=s)
   cases e2:cx s with
   |error q=>obtain⟨c0,s0⟩:=q;obtain⟨rfl,-,-⟩:=b2 _ _ e2;exact jA.refl _
   |ok s2=>
    have:=(b1 _ e2).1;simp only;split
    ·exact this
    ·exact⟨by simp only[rJ,List.length_set];exact this.cl,this.left,this.out⟩
  have hl:=gW ih;obtain⟨i1,i2⟩:=GN vs e s;by_cases q5:op=5
  ·subst q5;rw[oR] at h
   cases e1:tM vs e s with
   |error q=>rw[e1] at h;cases h;exact i2 _ _ e1
   |ok q=>
    obtain⟨bb,s1⟩:=q;have a1:=(i1 _ _ e1).1;rw[e1] at h
    cases bb with
    |false=>cases h;exact a1
    |true=>
     simp only at h
     cases e2:dI (fT vs g) body s1 with
     |none=>rw[e2] at h;cases h
     |some q=>
      rw[e2] at h;have a2:=a1.trans (hl _ _ _ e2)
      cases q with
      |error q=>cases h;exact a2
      |ok s2=>
       simp only at h;have a3:=GO a2
       cases e3:cx s2 with
       |error q=>simp only[rJ] at a3;rw[e3] at h a3;cases h;exact a3
       |ok s3=>simp only[rJ] at a3;rw[e3] at h a3;exact a3.trans (ih _ _ _ h)
  by_cases q6:op=6
  ·subst q6;rw[rh] at h
   cases e1:tM vs e s with
   |error q=>rw[e1] at h;cases h;exact i2 _ _ e1
   |ok q=>
    obtain⟨bb,s1⟩:=q;have a1:=(i1 _ _ e1).1;rw[e1] at h
    cases bb with
    |false=>exact a1.trans (hl _ _ _ h)
    |true=>
     simp only at h
     cases e2:dI (fT vs g) body s1 with
     |none=>rw[e2] at h;cases h
     |some q=>
      rw[e2] at h;have a2:=a1.trans (hl _ _ _ e2)
      cases q with
      |error q=>cases h;exact a2
      |ok s2=>cases h;exact GO a2
  rw[fT,if_neg q1,if_neg q2,if_neg q3,if_neg q4,if_neg q5,if_neg q6] at h;split at h
  ·cases h;exact GO (jA.refl s)
  ·cases h;exact jA.refl s
def Oy (g:Nat) (σ:PH) (pr:Pr) (x:St):Prop:=∀(cs:List Value) (b:Nat) (pv:Option Addr) (cv:Nat) (bs:Value) (gc nc:Nat) (s:RS) (vi:Value) (po:Option Addr) (co:Nat) (r:RR),
 fY σ [.slice pv pr.vars.length cv,bs] pr→cT σ cs x→A0 pr.vars.length x→rI pr.vars nc s→aV σ vi s.inp→fT pr.vars g x s=some r→
 ae Tryz.prog 154 #[ptr b,.agg cs.toArray] σ [au b [.slice pv pr.vars.length cv,bs,.slice (some ⟨gc,0,none⟩) nc nc,vi,.slice po (s.out).length co,i64 s.left] 172,au gc (ints (s.cells)) 2,bn 2 1 (.slice po (s.out).length co) (s.out).length (ints (s.out))] (lx σ (fun s vi po co=>[au b [.slice pv pr.vars.length cv,bs,.slice (some ⟨gc,0,none⟩) nc nc,vi,.slice po (s.out).length co,i64 s.left] 172,au gc (ints (s.cells)) 2,bn 2 1 (.slice po (s.out).length co) (s.out).length (ints (s.out))]) r)
theorem wa (g:Nat) (σ:PH) (pr:Pr) (l:List St) (ih:∀x∈l,Oy g σ pr x) (sl:Value) (b:Nat) (pv:Option Addr) (cv:Nat) (bs:Value) (gc nc:Nat) (s:RS) (vi:Value) (po:Option Addr) (co:Nat) (r:RR)
 (hp:fY σ [.slice pv pr.vars.length cv,bs] pr) (hl:bO 12 cT σ sl l) (GD:qf pr.vars.length l) (hF:rI pr.vars nc s) (ri:aV σ vi s.inp) (hr:dI (fT pr.vars g) l s=some r):
 ae Tryz.prog 111 #[ptr b,sl] σ [au b [.slice pv pr.vars.length cv,bs,.slice (some ⟨gc,0,none⟩) nc nc,vi,.slice po (s.out).length co,i64 s.left] 172,au gc (ints (s.cells)) 2,bn 2 1 (.slice po (s.out).length co) (s.out).length (ints (s.out))] (lx σ (fun s vi po co=>[au b [.slice pv pr.vars.length cv,bs,.slice (some ⟨gc,0,none⟩) nc nc,vi,.slice po (s.out).length co,i64 s.left] 172,au gc (ints (s.cells)) 2,bn 2 1 (.slice po (s.out).length co) (s.out).length (ints (s.out))]) r):=by
 obtain⟨pl,cl,rfl,hle,EO⟩:=hl.shape;simp only[maxLen] at EO;(have hlen:l.length≤9223372036854775807:=by omega);(refine bS Tryz.func111 ?_;refine bC ?_;refine XA.gen [(0,_),(6,_),(7,_),(8,_)] jN fun δ=>?_);dsimp only[List.foldl];refine XA.loop [(5,5),(8,15)] (fun i:Nat=>[(8,i64 i)]) (fun i ag ah=>σ=ag∧i≤l.length∧∃(s':RS) (D3:Value) (D4:Option Addr) (D5:Nat),dI (fT pr.vars g) (l.drop i) s'=some r∧rI pr.vars nc s'∧aV σ D3 s'.inp∧ah=[au b [.slice pv pr.vars.length cv,bs,.slice (some ⟨gc,0,none⟩) nc nc,D3,.slice D4 (s'.out).length D5,i64 s'.left] 172,au gc (ints (s'.cells)) 2,bn 2 1 (.slice D4 (s'.out).length D5) (s'.out).length (ints (s'.out))]) (fun i=>l.length-i) 0 (by exact⟨rfl,trivial⟩) (Δ0:=_) ?_ (⟨rfl,Nat.zero_le _,s,vi,po,co,hr,hF,ri,rfl⟩) ?_
 ·exact zE
 rintro i δ _ _ ⟨rfl,hi,s',D3,D4,D5,j4,WO,A9,rfl⟩;dsimp only[eb,List.foldl];refine aO ?_;refine XA.bI rfl (fun aT=>?_) (fun aT=>?_)
 ·(have aT:i<l.length:=by omega);obtain⟨x',mh⟩:∃x',l[i]? =some x':=⟨_,List.getElem?_eq_getElem aT⟩;obtain⟨gg,o,row,rfl,pA,rC,bL⟩:=hl.at mh;have yp:=List.mem_of_getElem? mh;have gG:=pA.dn;rw[er mh,dI] at j4
  cases e1:fT pr.vars g x' s' with
  |none=>rw[e1] at j4;cases j4
  |some q=>
   have hc:=ih x' yp row b pv cv bs gc nc s' D3 D4 D5 q hp pA (GD.mem x' yp) WO A9 e1;rw[e1] at j4
   cases q with
   |error q=>
    obtain⟨c0,s0⟩:=q;cases j4;refine bC ?_;refine cR (fun g5=>?_) (ad rfl);refine aO ?_;refine az.die rfl (lx.err hc) rfl ?_;rintro _ _ _ ⟨rfl,rfl,ql,qm,qn,iT,rfl⟩;refine DA.cl ?_;(repeat (first|refine DA.ax ?_|refine DA.ay ?_));exact ao.panic zE ⟨rfl,rfl,ql,qm,qn,iT,rfl⟩
   |ok s1=>
    have Ax:rI pr.vars nc s1:=WO.less (kq _ _ _ _ _ e1);refine bC ?_;refine cR (fun g5=>?_) (ad rfl);refine aO ?_;refine zw rfl (aC.cE (lx.ok hc) rfl) ?_;rintro _ _ _ ⟨_,⟨rfl,rfl,ql,qm,qn,iT,rfl⟩,rfl⟩;refine az.cl ?_;refine bC ?_;refine⟨cF,i+1,_,zM,?_,⟨rfl,aT,s1,ql,qm,qn,j4,Ax,iT,rfl⟩,(by omega)⟩
    ·exact zE
 (have rf:i=l.length:=by omega);subst rf;rw[List.drop_length] at j4;cases j4;refine bM ?_;exact fU rfl ⟨rfl,rfl,D3,D4,D5,A9,rfl⟩
end Go.Proofs.YtgeoiflbjcehcaaGreatDoor
