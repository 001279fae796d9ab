import Derived.Test.YtgeoiflbjcehcaaGreatDoorDj10
set_option maxHeartbeats 4000000
set_option maxRecDepth 2000
set_option linter.unusedVariables false
set_option linter.unusedSimpArgs false
namespace Go.Proofs.YtgeoiflbjcehcaaGreatDoor
open Go X
def lr (s:ByteArray):List Va→Nat→Option Nat
 |[],_=>none
 |v::r,k=>if v.name=s then some k else lr s r (k+1)
theorem QH (σ:PH) (g:Nat) (s:ByteArray) (w:Va):ae Tryz.prog 229 #[Wf w,ptr g] σ [au g [.string s] 9] (aE fun r ag ah=>r=.bool (decide (w.name=s))∧σ=ag∧ah=[au g [.string s] 9]):=by
 unfold Wf;(refine bS Tryz.func229 ?_;refine aN ?_;refine cN fun g2=>?_;refine bC ?_;refine zO rfl (Rd.eE rfl rfl) ?_;refine bM ?_);exact b8 rfl rfl ⟨rfl,rfl,rfl⟩
def QI:Option Nat→Int
 |some k=>k
 |none=>-1
theorem FK (σ:PH) (g:Nat) (s:ByteArray) (sl:Value) (l:List Va) (hl:bO 2 tU σ sl l):ae Tryz.prog 216 #[sl,.func (.func 229) #[] #[ptr g]] σ [au g [.string s] 9] (aE fun r ag ah=>r=i64 (QI (lr s l 0))∧σ=ag∧ah=[au g [.string s] 9]):=by
 obtain⟨pl,cl,rfl,hle,EO⟩:=hl.shape;(have hlen:l.length≤maxLen:=by omega);simp only[maxLen] at hlen;(refine bS Tryz.func216 ?_;refine dJ ?_;refine XA.gen [(0,_),(1,_),(4,_),(7,_),(8,_)] jN fun δ=>?_);dsimp only[List.foldl];refine XA.loop [(4,5),(8,18)] (fun k:Nat=>[(8,i64 k)]) (fun k ag ah=>σ=ag∧k≤l.length∧(lr s l 0=lr s (l.drop k) k)∧ah=[au g [.string s] 9]) (fun k=>l.length-k) 0 (by exact⟨rfl,trivial⟩) (Δ0:=_) ?_ (⟨rfl,Nat.zero_le _,rfl,rfl⟩) ?_
 ·exact zE
 rintro k δ _ _ ⟨rfl,hk,bF,rfl⟩;dsimp only[eb,List.foldl];refine aO ?_;refine XA.bI rfl (fun aT=>?_) (fun aT=>?_)
 ·(have aT:k<l.length:=by omega);obtain⟨x',mh⟩:∃x',l[k]? =some x':=⟨_,List.getElem?_eq_getElem aT⟩;obtain⟨gg,o,row,rfl,⟨rfl,-,-⟩,rC,bL⟩:=hl.at mh;have bF:lr s l 0=lr s (l.drop k) k:=bF;rw[er mh,lr] at bF;refine dE ?_;refine zw rfl (aC.cV (first:=[]) (cap:=[ptr g]) rfl (QH σ g s x') rfl) ?_;rintro _ _ _ ⟨_,⟨rfl,rfl,rfl⟩,rfl⟩;refine az.cl ?_;refine aN ?_;refine XA.bI rfl (fun hc=>?_) (fun hc=>?_)
  ·refine bH ?_;rw[if_pos hc] at bF;exact b8 rfl rfl ⟨by rw[bF];rfl,rfl,rfl⟩
  ·rw[if_neg hc] at bF;refine bC ?_;refine⟨cF,k+1,_,zM,?_,⟨rfl,aT,bF,rfl⟩,(by omega)⟩
   ·exact zE
 (have tJ:k=l.length:=by omega);subst tJ;have bF:lr s l 0=lr s (l.drop l.length) l.length:=bF;rw[List.drop_length] at bF;refine cg ?_;exact b8 rfl rfl ⟨by rw[bF];rfl,rfl,rfl⟩
section
variable (σ:PH) (b:Nat) (p:Option Addr) (n c:Nat) (e:Int) (vs:Value)
theorem B5 (l:List Tk) (hl:bO 4 iC σ (.slice p l.length c) l) (h:∀t r,l=t::r→t.num=false):
 ae Tryz.prog 179 #[ptr b] σ [au b [.slice p l.length c,i64 e,vs] 213] (jP fun ch ag ah=>ch=gI (bW e l 5)∧σ=ag∧ah=[au b [.slice p l.length c,i64 e,vs] 213]):=by
 cases l with
 |nil=>
  refine dF Tryz.func179 ?_;refine Qo ?_;refine bq ?_;refine az.die rfl (lN σ b p c e vs [] 5 hl) rfl ?_;rintro _ _ _ ⟨rfl,rfl,rfl⟩;refine DA.cl ?_;(repeat (first|refine DA.ax ?_|refine DA.ay ?_));exact ao.panic zE ⟨rfl,rfl,rfl⟩
 |cons t r=>
  obtain⟨g,o,rfl,h0,h1,h2,h3⟩:=j7 hl;(have fW:¬(((t::r).length:Nat):Int)=0:=by rw[List.length_cons];omega);rw[h t r rfl] at h2;refine dF Tryz.func179 ?_;refine Qo ?_;refine bq ?_;refine az.die rfl (lN σ b _ c e vs (t::r) 5 hl) rfl ?_;rintro _ _ _ ⟨rfl,rfl,rfl⟩;refine DA.cl ?_;(repeat (first|refine DA.ax ?_|refine DA.ay ?_));exact ao.panic zE ⟨rfl,rfl,rfl⟩
theorem vG (t:Tk) (r:List Tk) (hl:bO 4 iC σ (.slice p (t::r).length c) (t::r)) (hs:t.text.size≤maxLen) (h:eF t.text=true):
 ae Tryz.prog 178 #[ptr b] σ [au b [.slice p (t::r).length c,i64 e,vs] 213] (aE fun v ag ah=>v=.string t.text∧∃p' c',bO 4 iC σ (.slice p' r.length c') r∧σ=ag∧ah=[au b [.slice p' r.length c',i64 e,vs] 213]):=by
 obtain⟨g,o,rfl,h0,h1,h2,h3⟩:=j7 hl;(have fW:¬(((t::r).length:Nat):Int)=0:=by rw[List.length_cons];omega);have hn:=An σ t.text hs;rw[h] at hn;refine dF Tryz.func178 ?_;refine oa ?_;(first|refine az.wanted rfl rfl ?_|refine az.wq rfl rfl ?_);refine yC (hn) ?_;refine bM ?_;refine oa ?_;refine zO rfl (X.Rd.ns (ad rfl) rfl (ad rfl) rfl rfl rfl (by simp)) ?_;refine bH ?_;exact b8 rfl rfl ⟨rfl,_,_,sA hl,rfl,rfl⟩
theorem xM (l:List Tk) (hl:bO 4 iC σ (.slice p l.length c) l) (hs:∀t∈l,t.text.size≤maxLen) (h:∀t r,l=t::r→eF t.text=false):
 ae Tryz.prog 178 #[ptr b] σ [au b [.slice p l.length c,i64 e,vs] 213] (jP fun ch ag ah=>ch=gI (bW e l 5)∧σ=ag∧ah=[au b [.slice p l.length c,i64 e,vs] 213]):=by
 cases l with
 |nil=>
  refine dF Tryz.func178 ?_;refine oa ?_;(first|refine zH ?_);refine bM ?_;refine bq ?_;refine az.die rfl (lN σ b p c e vs [] 5 hl) rfl ?_;rintro _ _ _ ⟨rfl,rfl,rfl⟩;refine DA.cl ?_;(repeat (first|refine DA.ax ?_|refine DA.ay ?_));exact ao.panic zE ⟨rfl,rfl,rfl⟩
 |cons t r=>
  obtain⟨g,o,rfl,h0,h1,h2,h3⟩:=j7 hl;(have fW:¬(((t::r).length:Nat):Int)=0:=by rw[List.length_cons];omega);have hn:=An σ t.text (hs t (by simp));rw[h t r rfl] at hn;refine dF Tryz.func178 ?_;refine oa ?_;(first|refine az.wanted rfl rfl ?_|refine az.wq rfl rfl ?_);refine yC (hn) ?_;refine bM ?_;refine bq ?_;refine az.die rfl (lN σ b _ c e vs (t::r) 5 hl) rfl ?_;rintro _ _ _ ⟨rfl,rfl,rfl⟩;refine DA.cl ?_;(repeat (first|refine DA.ax ?_|refine DA.ay ?_));exact ao.panic zE ⟨rfl,rfl,rfl⟩
theorem ig (vl:List Va) (pv:Option Addr) (cv k:Nat) (t:Tk) (r:List Tk) (hv:bO 2 tU σ (.slice pv vl.length cv) vl) (hl:bO 4 iC σ (.slice p (t::r).length c) (t::r)) (hs:t.text.size≤maxLen) (h:eF t.text=true) (hk:lr t.text vl 0=some k):
 ae Tryz.prog 210 #[ptr b] σ [au b [.slice p (t::r).length c,i64 e,.slice pv vl.length cv] 213] (aE fun v ag ah=>v=i64 k∧∃p' c',bO 4 iC σ (.slice p' r.length c') r∧σ=ag∧ah=[au b [.slice p' r.length c',i64 e,.slice pv vl.length cv] 213]):=by
 (have hx:=fun g=>FK σ g t.text _ vl hv);rw[hk] at hx;refine dF Tryz.func210 ?_;refine dE ?_;refine zw rfl (aC.cE (vG σ b p c e _ t r hl hs h) rfl) ?_;rintro _ _ _ ⟨_,⟨rfl,p',c',pJ,rfl,rfl⟩,rfl⟩;refine az.cl ?_;refine cR (fun g4=>?_) (ad rfl);refine a8 ?_;refine zO rfl (Rd.jZ (by with_reducible (conv=>lhs;whnf))) ?_;refine yC (hx _) ?_;refine aW ?_;refine XA.aR rfl (by first|rfl|exact decide_eq_false (by show ¬((k:Int)<0);omega)) ?_;refine a8 ?_;exact b8 rfl rfl ⟨rfl,p',c',pJ,rfl,rfl⟩
theorem gq (pv:Option Addr) (nv cv:Nat) (l:List Tk) (hl:bO 4 iC σ (.slice p l.length c) l) (hs:∀t∈l,t.text.size≤maxLen) (h:∀t r,l=t::r→eF t.text=false):
 ae Tryz.prog 210 #[ptr b] σ [au b [.slice p l.length c,i64 e,vs] 213] (jP fun ch ag ah=>ch=gI (bW e l 5)∧σ=ag∧ah=[au b [.slice p l.length c,i64 e,vs] 213]):=by
 refine dF Tryz.func210 ?_;refine dE ?_;refine az.die rfl (xM σ b p c e vs l hl hs h) rfl ?_;rintro _ _ _ ⟨rfl,rfl,rfl⟩;refine DA.cl ?_;(repeat (first|refine DA.ax ?_|refine DA.ay ?_));exact ao.panic zE ⟨rfl,rfl,rfl⟩
theorem fD (vl:List Va) (pv:Option Addr) (cv:Nat) (t:Tk) (r:List Tk) (hv:bO 2 tU σ (.slice pv vl.length cv) vl) (hl:bO 4 iC σ (.slice p (t::r).length c) (t::r)) (hs:t.text.size≤maxLen) (h:eF t.text=true) (hk:lr t.text vl 0=none):
 ae Tryz.prog 210 #[ptr b] σ [au b [.slice p (t::r).length c,i64 e,.slice pv vl.length cv] 213] (jP fun ch ag ah=>ch=gI (bW e (t::r) 10)∧σ=ag∧ah=[au b [.slice p (t::r).length c,i64 e,.slice pv vl.length cv] 213]):=by
 (have hx:=fun g=>FK σ g t.text _ vl hv);rw[hk] at hx;refine dF Tryz.func210 ?_;refine dE ?_;refine zw rfl (aC.cE (vG σ b p c e _ t r hl hs h) rfl) ?_;rintro _ _ _ ⟨_,⟨rfl,p',c',pJ,rfl,rfl⟩,rfl⟩;refine az.cl ?_;refine cR (fun g4=>?_) (ad rfl);refine a8 ?_;refine zO rfl (Rd.jZ (by with_reducible (conv=>lhs;whnf))) ?_;refine yC (hx _) ?_;refine aW ?_;refine bH ?_;refine az.die rfl (lN σ b _ c e _ (t::r) 10 hl) rfl ?_;rintro _ _ _ ⟨rfl,rfl,rfl⟩;refine DA.cl ?_;(repeat (first|refine DA.ax ?_|refine DA.ay ?_));exact ao.panic zE ⟨rfl,rfl,rfl⟩
def Words (f:FuncId) (W:Int→ByteArray):Prop:=∀(σ:PH) (k:Int),ae Tryz.prog f #[i64 k] σ [] (aE fun v ag ah=>v=.string (W k)∧σ=ag∧ah=[])
theorem B6 (f:FuncId) (W:Int→ByteArray) (hf:Words f W) (most k0:Nat) (hm:most≤100) (t:Tk) (r:List Tk) (hl:bO 4 iC σ (.slice p (t::r).length c) (t::r)) (h1:1≤k0) (h2:k0≤most) (h:lA (W k0) (t::r)=true) (aT:∀j:Nat,1≤j→j<k0→lA (W j) (t::r)=false):
 ae Tryz.prog 207 #[ptr b,i64 most,.func (.func f) #[] #[]] σ [au b [.slice p (t::r).length c,i64 e,vs] 213] (aE fun v ag ah=>v=i64 k0∧∃p' c',bO 4 iC σ (.slice p' r.length c') r∧σ=ag∧ah=[au b [.slice p' r.length c',i64 e,vs] 213]):=by
 (refine ob Tryz.func207 ?_;refine bH ?_;refine XA.gen [(0,_),(1,_),(2,_),(6,_),(7,_)] jN fun δ=>?_);dsimp only[List.foldl];refine XA.loop [(6,18)] (fun k:Nat=>[(7,i64 k)]) (fun k ag ah=>σ=ag∧1≤k∧k≤k0∧ah=[au b [.slice p (t::r).length c,i64 e,vs] 213]) (fun k=>k0-k) 1 (by exact⟨rfl,trivial⟩) (Δ0:=_) ?_ (⟨rfl,Nat.le_refl _,h1,rfl⟩) ?_
 ·exact zE
 rintro k δ _ _ ⟨rfl,FL,uq,rfl⟩;dsimp only[eb,List.foldl];have FL:1≤k:=FL;have uq:k≤k0:=uq;refine bC ?_;refine mQ ?_;refine a8 ?_;refine zw rfl (aC.cV (first:=[]) (cap:=[]) rfl (hf σ k) rfl) ?_;rintro _ _ _ ⟨_,⟨rfl,rfl,rfl⟩,rfl⟩;refine az.cl ?_;by_cases q:k=k0
 ·subst q;refine zw rfl (aC.cE (vE σ b p c e vs t r (W k) hl h) rfl) ?_;rintro _ _ _ ⟨_,⟨rfl,p',c',pJ,rfl,rfl⟩,rfl⟩;refine az.cl ?_;refine aN ?_;refine eP ?_;exact b8 rfl rfl ⟨rfl,p',c',pJ,rfl,rfl⟩
 ·skip;refine yC (xK σ b p c e vs (t::r) (W k) hl (aT k FL (by omega))) ?_;refine aN ?_;refine aW ?_;refine⟨cF,k+1,_,zM,?_,⟨rfl,by show 1≤k+1;omega,by show k+1≤k0;omega,rfl⟩,(by omega)⟩
  ·exact zE
theorem xN (f:FuncId) (W:Int→ByteArray) (hf:Words f W) (most:Nat) (hm:most≤100) (l:List Tk) (hl:bO 4 iC σ (.slice p l.length c) l) (aT:∀j:Nat,1≤j→j≤most→lA (W j) l=false):
 ae Tryz.prog 207 #[ptr b,i64 most,.func (.func f) #[] #[]] σ [au b [.slice p l.length c,i64 e,vs] 213] (jP fun ch ag ah=>ch=gI (bW e l 5)∧σ=ag∧ah=[au b [.slice p l.length c,i64 e,vs] 213]):=by
 (refine ob Tryz.func207 ?_;refine bH ?_;refine XA.gen [(0,_),(1,_),(2,_),(6,_),(7,_)] jN fun δ=>?_);dsimp only[List.foldl];refine XA.loop [(6,18)] (fun k:Nat=>[(7,i64 k)]) (fun k ag ah=>σ=ag∧1≤k∧k≤most+1∧ah=[au b [.slice p l.length c,i64 e,vs] 213]) (fun k=>most+1-k) 1 (by exact⟨rfl,trivial⟩) (Δ0:=_) ?_ (⟨rfl,Nat.le_refl _,by omega,rfl⟩) ?_
 ·exact zE
 rintro k δ _ _ ⟨rfl,FL,uq,rfl⟩;dsimp only[eb,List.foldl];have FL:1≤k:=FL;have uq:k≤most+1:=uq;by_cases q:k≤most
 ·skip;refine bC ?_;refine mQ ?_;refine a8 ?_;refine zw rfl (aC.cV (first:=[]) (cap:=[]) rfl (hf σ k) rfl) ?_;rintro _ _ _ ⟨_,⟨rfl,rfl,rfl⟩,rfl⟩;refine az.cl ?_;refine yC (xK σ b p c e vs l (W k) hl (aT k FL q)) ?_;refine aN ?_;refine aW ?_;refine⟨cF,k+1,_,zM,?_,⟨rfl,by show 1≤k+1;omega,by show k+1≤most+1;omega,rfl⟩,(by omega)⟩
  ·exact zE
 ·skip;refine bC ?_;refine lz ?_;refine bC ?_;refine az.die rfl (lN σ b p c e vs l 5 hl) rfl ?_;rintro _ _ _ ⟨rfl,rfl,rfl⟩;refine DA.cl ?_;(repeat (first|refine DA.ax ?_|refine DA.ay ?_));exact ao.panic zE ⟨rfl,rfl,rfl⟩
end
def uB (W:Int→ByteArray) (l:List Tk):Nat→Nat→Option Nat
 |0,_=>none
 |f+1,k=>if lA (W k) l=true then some k else uB W l f (k+1)
def ia (W:Int→ByteArray) (most:Nat) (l:List Tk):Option Nat:=uB W l most 1
theorem kL {W:Int→ByteArray} {l:List Tk} {k0:Nat}:∀(f k:Nat),uB W l f k=some k0→k≤k0∧k0<k+f∧lA (W k0) l=true∧∀j:Nat,k≤j→j<k0→lA (W j) l=false
 |0,k,h=>by cases h
 |f+1,k,h=>by
  rw[uB] at h;split at h
  ·rename_i hk;cases h;exact⟨Nat.le_refl _,by omega,hk,fun j a b=>by omega⟩
  ·rename_i hk;obtain⟨a,b,c,d⟩:=kL f (k+1) h;refine⟨by omega,by omega,c,fun j x y=>?_⟩;by_cases q:j=k
   ·subst q;simpa using hk
   ·exact d j (by omega) y
theorem nt {W:Int→ByteArray} {l:List Tk}:∀(f k:Nat),uB W l f k=none→∀j:Nat,k≤j→j<k+f→lA (W j) l=false
 |0,k,_,j,a,b=>by omega
 |f+1,k,h,j,a,b=>by
  rw[uB] at h;split at h
  ·cases h
  ·rename_i hk;by_cases q:j=k
   ·subst q;simpa using hk
   ·exact nt f (k+1) h j (by omega) (by omega)
theorem ca {w:ByteArray} {l:List Tk} (h:lA w l=true):∃t r,l=t::r:=by
 cases l with
 |nil=>cases h
 |cons t r=>exact⟨t,r,rfl⟩
abbrev rD:ByteArray:=⟨#[40]⟩
abbrev eJ:ByteArray:=⟨#[41]⟩
abbrev PR (α:Type):=Except (Int×Int) (α×List Tk)
def dh {α:Type} (E:List Tk→PR α):Nat→List Tk→List α→PR (List α)
 |0,l,acc=>.ok (acc,l)
 |m+1,l,acc=>match E l with
  |.error x=>.error x
  |.ok (x,l1)=>dh E m l1 (acc++[x])
def j8 (vl:List Va) (e:Int) (l:List Tk):PR Int:=match l with
 |t::r=>if eF t.text=true then match lr t.text vl 0 with
  |some i=>.ok ((i:Int),r)
  |none=>.error (bW e l 10)
  else .error (bW e l 5)
 |[]=>.error (bW e l 5)
def kM (e:Int) (l:List Tk):PR Int:=match l with
 |t::r=>if t.num=true then .ok (t.n,r) else .error (bW e l 5)
 |[]=>.error (bW e l 5)
def gJ (vl:List Va) (e:Int) (k:Nat) (l:List Tk):PR (Int×Int):=
 if k=1 then match kM e l with|.error x=>.error x|.ok (n,r)=>.ok ((0,n),r)
 else if k=2∨k=3 then match j8 vl e l with|.error x=>.error x|.ok (v,r)=>.ok ((v,0),r)
 else .ok ((0,0),l)
def dz {α:Type} (e:Int) (x:α) (l:List Tk):PR α:=if lA eJ l=true then .ok (x,l.tail) else .error (bW e l 5)
def cm (vl:List Va) (e:Int):Nat→List Tk→PR Ex
 |0,l=>.error (bW e l 4)
 |f+1,l=>if lA rD l=true then match ia gQ 8 l.tail with
  |none=>.error (bW e l.tail 5)
  |some k=>match gJ vl e k l.tail.tail with
   |.error x=>.error x
   |.ok (vn,l3)=>match dh (cm vl e f) (partsOf k).toNat l3 [] with
    |.error x=>.error x
    |.ok (xs,l4)=>dz e (.mk k vn.1 vn.2 xs) l4
  else .error (bW e l 5)
theorem uC {α:Type} {E:List Tk→PR α} (hE:∀l x l',E l=.ok (x,l')→∀t∈l',t∈l):∀(m:Nat) (l:List Tk) (acc xs:List α) (l':List Tk),dh E m l acc=.ok (xs,l')→∀t∈l',t∈l
 |0,l,acc,xs,l',h,t,ht=>by cases h;exact ht
 |m+1,l,acc,xs,l',h,t,ht=>by
  rw[dh] at h
  cases q:E l with
  |error x=>rw[q] at h;cases h
  |ok y=>
   obtain⟨x,l1⟩:=y;rw[q] at h;exact hE l x l1 q t (uC hE m l1 _ xs l' h t ht)
theorem FM {e:Int} {l l':List Tk} {n:Int} (h:kM e l=.ok (n,l')):∀t∈l',t∈l:=by
 cases l with
 |nil=>cases h
 |cons t r=>
  rw[kM] at h;split at h
  ·cases h;exact fun x hx=>by simp[hx]
  ·cases h
theorem FN {vl:List Va} {e:Int} {l l':List Tk} {n:Int} (h:j8 vl e l=.ok (n,l')):∀t∈l',t∈l:=by
 cases l with
 |nil=>cases h
 |cons t r=>
  rw[j8] at h;split at h
  ·split at h
   ·cases h;exact fun x hx=>by simp[hx]
   ·cases h
  ·cases h
theorem Dz {vl:List Va} {e:Int} {k:Nat} {l l':List Tk} {vn:Int×Int} (h:gJ vl e k l=.ok (vn,l')):∀t∈l',t∈l:=by
 rw[gJ] at h;split at h
 ·cases q:kM e l with
  |error x=>rw[q] at h;cases h
  |ok y=>obtain⟨n,r⟩:=y;rw[q] at h;cases h;exact FM q
 ·split at h
  ·cases q:j8 vl e l with
   |error x=>rw[q] at h;cases h
   |ok y=>obtain⟨n,r⟩:=y;rw[q] at h;cases h;exact FN q
  ·cases h;exact fun t ht=>ht
theorem oz {α:Type} {l:List α} {t:α} (h:t∈l.tail):t∈l:=List.mem_of_mem_tail h
theorem Aw {α:Type} {e:Int} {x y:α} {l l':List Tk} (h:dz e x l=.ok (y,l')):∀t∈l',t∈l:=by
 rw[dz] at h;split at h
 ·cases h;exact fun t ht=>oz ht
 ·cases h
theorem j9 {vl:List Va} {e:Int}:∀(f:Nat) (l:List Tk) (x:Ex) (l':List Tk),cm vl e f l=.ok (x,l')→∀t∈l',t∈l
 |0,l,x,l',h=>by cases h
 |f+1,l,x,l',h=>by
  rw[cm] at h;split at h
  ·cases hk:ia gQ 8 l.tail with
   |none=>rw[hk] at h;cases h
   |some k=>
    rw[hk] at h;simp only at h
    cases hh:gJ vl e k l.tail.tail with
    |error x=>rw[hh] at h;cases h
    |ok y=>
     obtain⟨vn,l3⟩:=y;rw[hh] at h;simp only at h
     cases hs:dh (cm vl e f) (partsOf k).toNat l3 [] with
     |error x=>rw[hs] at h;cases h
     |ok z=>
      obtain⟨xs,l4⟩:=z;rw[hs] at h;simp only at h;intro t ht;exact oz (oz (Dz hh t (uC (j9 f) _ _ _ _ _ hs t (Aw h t ht))))
  ·cases h
theorem mq {s:ByteArray}:∀(l:List Va) (k i:Nat),lr s l k=some i→k≤i∧i<k+l.length
 |[],k,i,h=>by cases h
 |v::r,k,i,h=>by
  rw[lr] at h;split at h
  ·cases h;exact⟨Nat.le_refl _,by simp⟩
  ·have:=mq r (k+1) i h;simp only[List.length_cons];omega
def kN (t:Tk):Prop:=t.text.size≤maxLen∧aF t.n
def KP (Q:Value→PH→List HP→Prop) (D:List PanicEntry→PH→List HP→Prop):Ending→PH→List HP→Prop
 |.returned v,σ,Γ=>Q v σ Γ
 |.panicked c,σ,Γ=>D c σ Γ
 |_,_,_=>False
set_option maxRecDepth 4000
def oA (vl:List Va) (e:Int) (f:Nat):Prop:=∀(σ:PH) (b:Nat) (p:Option Addr) (c:Nat) (pv:Option Addr) (cv:Nat) (l:List Tk) (d:Int),bO 2 tU σ (.slice pv vl.length cv) vl→bO 4 iC σ (.slice p l.length c) l→(∀t∈l,kN t)→d+f=13→0≤d→
 ae Tryz.prog 211 #[ptr b,i64 d] σ [au b [.slice p l.length c,i64 e,.slice pv vl.length cv] 213] (KP
  (fun v ag ah=>∃x l',cm vl e f l=.ok (x,l')∧∃cs p' c',v=.agg (List.toArray cs)∧dc ag cs x∧bO 4 iC ag (.slice p' l'.length c') l'∧σ.sub ag∧ah=[au b [.slice p' l'.length c',i64 e,.slice pv vl.length cv] 213])
  (fun ch ag ah=>∃x,cm vl e f l=.error x∧ch=gI x∧σ.sub ag∧∃cs,ah=[au b cs 213]))
theorem oA.ok {vl:List Va} {e:Int} {f:Nat} (h:oA vl e f) {σ:PH} {b:Nat} {p:Option Addr} {c:Nat} {pv:Option Addr} {cv:Nat} {l:List Tk} {d:Int} (hv:bO 2 tU σ (.slice pv vl.length cv) vl) (hl:bO 4 iC σ (.slice p l.length c) l) (hF:∀t∈l,kN t) (hd:d+f=13) (tZ:0≤d) {x:Ex} {l':List Tk} (ho:cm vl e f l=.ok (x,l')):
 ae Tryz.prog 211 #[ptr b,i64 d] σ [au b [.slice p l.length c,i64 e,.slice pv vl.length cv] 213] (aE fun v ag ah=>∃cs p' c',v=.agg (List.toArray cs)∧dc ag cs x∧bO 4 iC ag (.slice p' l'.length c') l'∧σ.sub ag∧ah=[au b [.slice p' l'.length c',i64 e,.slice pv vl.length cv] 213]):=by
 refine(h σ b p c pv cv l d hv hl hF hd tZ).mono fun en ag ah hr=>?_
 cases en with
 |returned v=>
  obtain⟨x',QJ,h1,h2⟩:=hr;rw[ho] at h1;cases h1;exact h2
 |panicked ch=>obtain⟨x',h1,-⟩:=hr;rw[ho] at h1;cases h1
 |outgrown=>exact False.elim hr
theorem oA.bad {vl:List Va} {e:Int} {f:Nat} (h:oA vl e f) {σ:PH} {b:Nat} {p:Option Addr} {c:Nat} {pv:Option Addr} {cv:Nat} {l:List Tk} {d:Int} (hv:bO 2 tU σ (.slice pv vl.length cv) vl) (hl:bO 4 iC σ (.slice p l.length c) l) (hF:∀t∈l,kN t) (hd:d+f=13) (tZ:0≤d) {x:Int×Int} (ho:cm vl e f l=.error x):
 ae Tryz.prog 211 #[ptr b,i64 d] σ [au b [.slice p l.length c,i64 e,.slice pv vl.length cv] 213] (jP fun ch ag ah=>ch=gI x∧σ.sub ag∧∃cs,ah=[au b cs 213]):=by
 refine(h σ b p c pv cv l d hv hl hF hd tZ).mono fun en ag ah hr=>?_
 cases en with
 |returned v=>obtain⟨x',QJ,h1,-⟩:=hr;rw[ho] at h1;cases h1
 |panicked ch=>
  obtain⟨x',h1,h2⟩:=hr;rw[ho] at h1;cases h1;exact h2
 |outgrown=>exact False.elim hr
theorem oB {e:Int} {l:List Tk} {x:Int×Int} (h:kM e l=.error x):x=bW e l 5∧∀t r,l=t::r→t.num=false:=by
 cases l with
 |nil=>cases h;exact⟨rfl,fun t r q=>by cases q⟩
 |cons t r=>
  rw[kM] at h;split at h
  ·cases h
  ·rename_i hn;cases h;exact⟨rfl,fun t' r' q=>by cases q;simpa using hn⟩
theorem mr {e:Int} {l l':List Tk} {n:Int} (h:kM e l=.ok (n,l')):∃t,l=t::l'∧t.num=true∧t.n=n:=by
 cases l with
 |nil=>cases h
 |cons t r=>
  rw[kM] at h;split at h
  ·rename_i hn;cases h;exact⟨t,rfl,hn,rfl⟩
  ·cases h
theorem jg {vl:List Va} {e:Int} {l:List Tk} {x:Int×Int} (h:j8 vl e l=.error x):(x=bW e l 5∧∀t r,l=t::r→eF t.text=false)∨∃t r,l=t::r∧x=bW e (t::r) 10∧eF t.text=true∧lr t.text vl 0=none:=by
 cases l with
 |nil=>cases h;exact .inl ⟨rfl,fun t r q=>by cases q⟩
 |cons t r=>
  rw[j8] at h;split at h
  ·rename_i hn
   cases hi:lr t.text vl 0 with
   |some i=>rw[hi] at h;cases h
   |none=>rw[hi] at h;cases h;exact .inr ⟨t,r,rfl,rfl,hn,hi⟩
  ·rename_i hn;cases h;exact .inl ⟨rfl,fun t' r' q=>by cases q;simpa using hn⟩
theorem mu {vl:List Va} {e:Int} {l l':List Tk} {v:Int} (h:j8 vl e l=.ok (v,l')):∃t i,l=t::l'∧v=((i:Nat):Int)∧eF t.text=true∧lr t.text vl 0=some i:=by
 cases l with
 |nil=>cases h
 |cons t r=>
  rw[j8] at h;split at h
  ·rename_i hn
   cases hi:lr t.text vl 0 with
   |some i=>rw[hi] at h;cases h;exact⟨t,i,rfl,rfl,hn,hi⟩
   |none=>rw[hi] at h;cases h
  ·cases h
theorem kO (k:Int):partsOf k≤2:=by rw[partsOf];split;(decide);split;(decide);split<;>decide
theorem kP {k:Int} (h1:1≤k) (h2:k≤8):0≤partsOf k:=by
 rw[partsOf];split;(decide);split;(decide);rw[if_pos (by omega)];decide
theorem X.bO.sB {α:Type} {s n c:Nat} {R:RT α} {σ:PH} {p:Option Addr} {xs:List α} (h:bO s R σ (.slice p n c) xs):xs.length≤9223372036854775807:=by
 obtain⟨p',c',-,h1,h2⟩:=h.shape;simp only[maxLen] at h2;omega
theorem gR (vl:List Va) (e:Int):∀f:Nat,oA vl e f
 |0=>by
  intro σ b p c pv cv l d hv hl hF hd tZ;(have hd:d=13:=by simpa using hd);subst hd;refine bS Tryz.func211 ?_;refine aN ?_;refine cR (fun g4=>?_) (ad rfl);refine aO ?_;refine az.die rfl (xL σ b p c e _ 13 l hl (by decide)) rfl ?_;rintro _ _ _ ⟨rfl,rfl,rfl⟩;refine DA.cl ?_;(repeat (first|refine DA.ax ?_|refine DA.ay ?_));exact ao.panic zE ⟨_,rfl,rfl,.refl _,_,rfl⟩
 |f+1=>by
  intro σ b p c pv cv l d hv hl hF hd tZ;have ih:=gR vl e f;(have Dt:d≤12:=by omega);(have SG:-9223372036854775808≤d+1:=by omega);obtain⟨R,hR⟩:∃R,cm vl e (f+1) l=R:=⟨_,rfl⟩;have fV:=hR;rw[cm] at hR;refine bS Tryz.func211 ?_;refine aN ?_;refine cR (fun g4=>?_) (ad rfl);refine aO ?_;refine yC (B1 σ b d _ Dt) ?_;refine b9 ?_
  cases hq:lA rD l with
  |false=>
   rw[if_neg (by rw[hq];exact Bool.noConfusion)] at hR;refine az.die rfl (dV σ b p c e _ l rD hl hq) rfl ?_;rintro _ _ _ ⟨rfl,rfl,rfl⟩;refine DA.cl ?_;(repeat (first|refine DA.ax ?_|refine DA.ay ?_));exact ao.panic zE ⟨_,fV.trans hR.symm,rfl,.refl _,_,rfl⟩
  |true=>
   obtain⟨t1,l1,rfl⟩:=ca hq;rw[if_pos hq,List.tail_cons] at hR;refine zw rfl (aC.cE (eT σ b p c e _ t1 l1 rD hl hq) rfl) ?_;rintro _ _ _ ⟨_,⟨rfl,p1,c1,zl,rfl,rfl⟩,rfl⟩;refine az.cl ?_;refine b9 ?_
   cases hk:ia gQ 8 l1 with
   |none=>
    rw[hk] at hR;refine az.die rfl (xN σ b p1 c1 e _ 230 gQ FI 8 (by decide) l1 zl (fun j a b=>nt 8 1 hk j a (by omega))) rfl ?_;rintro _ _ _ ⟨rfl,rfl,rfl⟩;refine DA.cl ?_;(repeat (first|refine DA.ax ?_|refine DA.ay ?_));exact ao.panic zE ⟨_,fV.trans hR.symm,rfl,.refl _,_,rfl⟩
   |some k=>
    rw[hk] at hR;simp only at hR;obtain⟨k1,k2,k3,k4⟩:=kL 8 1 hk;(have k2:k≤8:=by omega);obtain⟨t2,l2,rfl⟩:=ca k3;rw[List.tail_cons] at hR;(have jQ:∀t∈l2,kN t:=fun t ht=>hF t (by simp[ht]));refine zw rfl (aC.cE (B6 σ b p1 c1 e _ 230 gQ FI 8 k (by decide) t2 l2 zl k1 k2 k3 k4) rfl) ?_;rintro _ _ _ ⟨_,⟨rfl,p2,c2,jy,rfl,rfl⟩,rfl⟩;refine az.cl ?_;refine b3 ?_;refine cR (fun g5=>?_) (ad rfl);refine dE ?_;by_cases q1:k=1
    ·subst q1;rw[gJ,if_pos rfl] at hR;refine bq ?_
     cases hn:kM e l2 with
     |error x=>
      rw[hn] at hR;simp only at hR;have hx:x=bW e l2 5∧∀t r,l2=t::r→t.num=false:=oB hn;obtain⟨rfl,hx⟩:=hx;refine az.die rfl (B5 σ b p2 c2 e _ l2 jy hx) rfl ?_;rintro _ _ _ ⟨rfl,rfl,rfl⟩;refine DA.cl ?_;(repeat (first|refine DA.ax ?_|refine DA.ay ?_));exact ao.panic zE ⟨_,fV.trans hR.symm,rfl,.refl _,_,rfl⟩
     |ok y=>
      obtain⟨n3,l3⟩:=y;rw[hn] at hR;simp only at hR;obtain⟨t3,rfl,h3,rfl⟩:=mr hn;(have FO:∀t∈l3,kN t:=fun t ht=>jQ t (by simp[ht]));refine zw rfl (aC.cE (vF σ b p2 c2 e _ t3 l3 jy h3) rfl) ?_;rintro _ _ _ ⟨_,⟨rfl,p3,c3,DB,rfl,rfl⟩,rfl⟩;refine az.cl ?_;refine aW ?_;refine yC (kG σ ((1:Nat):Int)) ?_;refine bM ?_;obtain⟨m,hm⟩:∃m:Nat,partsOf ((1:Nat):Int)=m:=⟨(partsOf ((1:Nat):Int)).toNat,by have:=kP (k:=((1:Nat):Int)) (by omega) (by omega);omega⟩;(have X5:m≤2:=by have:=kO ((1:Nat):Int);omega);rw[hm] at hR⊢;rw[Int.toNat_natCast] at hR;obtain⟨S,hS⟩:∃S,dh (cm vl e f) m l3 []=S:=⟨_,rfl⟩;rw[hS] at hR;(refine XA.gen [(0,_),(1,_),(4,_),(5,_),(29,_),(30,_)] jN fun δ=>?_);dsimp only[List.foldl];refine XA.loop [(30,41)] (fun i:Nat=>[(30,i64 i)]) (fun i ag ah=>σ.sub ag∧i≤m∧∃(lc:List Tk) (acc:List Ex) (pp:Option Addr) (pc:Nat) (pl:Option Addr) (cl:Nat) (rows:List (List Value)),S=dh (cm vl e f) (m-i) lc acc∧(∀t∈lc,kN t)∧acc.length=i∧bO 4 iC ag (.slice pp lc.length pc) lc∧cA 4 dc ag rows acc∧ah=[bn 138 4 (.slice pl i cl) i rows.flatten,au g5 [i64 ((1:Nat):Int),i64 0,i64 t3.n,.slice pl i cl] 138,au b [.slice pp lc.length pc,i64 e,.slice pv vl.length cv] 213,au g4 uu.zero 138]) (fun i=>m-i) 0 (by exact⟨rfl,trivial⟩) (Δ0:=_) ?_ (⟨.refl _,Nat.zero_le _,l3,[],p3,c3,none,0,[],hS.symm,FO,rfl,DB,cA.nil _ _ _,rfl⟩) ?_
      ·exact zE
      rintro i δ dQ _ ⟨bQ,hi,lc,acc,pp,pc,pl,cl,rows,kQ,tL,eR,mR,eK,rfl⟩;dsimp only[eb,List.foldl];have hi:i≤m:=hi;have nU:=hv.mono bQ (fun _ _ h=>h);by_cases aT:i<m
      ·obtain⟨j,hj⟩:∃j,m-i=j+1:=⟨m-i-1,by omega⟩;rw[hj,dh] at kQ
       cases hx:cm vl e f lc with
       |error x=>
        rw[hx] at kQ;simp only at kQ;rw[kQ] at hR;refine aO ?_;refine mQ ?_;refine bM ?_;refine fZ 10 45687 [7,9] (aw.bP (R:=au g5 _ _) zL (aw.nil _)) ?_;refine b9 ?_;refine aK.die rfl rfl Gd.free (ih.bad nU mR tL (by omega) (by omega) hx) rfl ?_;rintro _ dq _ ⟨rfl,bT,vH,rfl⟩;refine DA.cl ?_;(repeat (first|refine DA.ax ?_|refine DA.ay ?_));exact ao.panic zE ⟨_,fV.trans hR.symm,rfl,bQ.trans bT,_,rfl⟩
       |ok y=>
        obtain⟨x,l'⟩:=y;rw[hx] at kQ;simp only at kQ;refine aO ?_;refine mQ ?_;refine bM ?_;refine fZ 10 45687 [7,9] (aw.bP (R:=au g5 _ _) zL (aw.nil _)) ?_;refine b9 ?_;refine aK.fL rfl rfl Gd.free (aC.cE (ih.ok nU mR tL (by omega) (by omega) hx) rfl) ?_;rintro _ dq _ ⟨_,⟨vH,p',c',rfl,kR,pJ,bT,rfl⟩,rfl⟩;refine stays (aK.cl ?_);have sC:=kR.len;have sD:=kR.dn;refine aK.fL rfl rfl Gd.free (aC.qO (ad rfl) rfl (ad rfl)) ?_;rintro _ _ _ ⟨X6,rfl,rfl,rfl⟩;refine stays ?_;refine aK.bj rfl rfl Gd.free (by kernel_rfl) (aC.tS (ad rfl) rfl (ad rfl) rfl rfl rfl) ?_;rintro _ _ _ ⟨QK,QL,rfl,rfl,rfl⟩;refine b3 ?_;refine aK.bj rfl rfl Gd.free (by kernel_rfl) (aC.st (ad rfl) rfl) ?_;rintro _ _ _ ⟨rfl,rfl,rfl⟩;refine bC ?_;have fI:cA 4 dc dq (rows++[vH]) (acc++[x]):=(eK.mono (fun _ _ h=>h.mono bT)).snoc sC kR;refine⟨cF,i+1,_,zM,?_,⟨bQ.trans bT,aT,l',acc++[x],p',c',QK,QL,rows++[vH],(by rw[kQ,show m-(i+1)=j by omega]),(fun t ht=>tL t (j9 f _ _ _ hx t ht)),(by rw[List.length_append,eR];rfl),pJ,fI,rfl⟩,(by omega)⟩
        ·rw[mP];exact zE
      ·(have B7:i=m:=by omega);subst B7;rw[Nat.sub_self,dh] at kQ;rw[kQ] at hR;simp only at hR;rw[dz] at hR;refine aO ?_;refine lz ?_;refine bC ?_
       cases hc:lA eJ lc with
       |false=>
        rw[if_neg (by rw[hc];exact Bool.noConfusion)] at hR;refine az.die rfl (dV dQ b pp pc e _ lc eJ mR hc) rfl ?_;rintro _ _ _ ⟨rfl,rfl,rfl⟩;refine DA.cl ?_;(repeat (first|refine DA.ax ?_|refine DA.ay ?_));exact ao.panic zE ⟨_,fV.trans hR.symm,rfl,bQ,_,rfl⟩
       |true=>
        obtain⟨t4,l4,rfl⟩:=ca hc;rw[if_pos hc,List.tail_cons] at hR;refine zw rfl (aC.cE (eT dQ b pp pc e _ t4 l4 eJ mR hc) rfl) ?_;rintro _ _ _ ⟨_,⟨rfl,p5,c5,FP,rfl,rfl⟩,rfl⟩;refine az.cl ?_;refine a8 ?_;refine DA.qM (R:=bn 138 4 _ _ _) zL dp aU ?_;rintro lB ⟨⟩ hf fc;have fS:dc lB [i64 ((1:Nat):Int),i64 0,i64 t3.n,.slice pl i cl] (.mk ((1:Nat):Int) 0 t3.n acc):=dc.of ⟨by omega,by omega⟩ ⟨by decide,by decide⟩ (jQ t3 (by simp)).2 ((eK.mono (fun _ _ h=>h.mono fc)).H4 eR.symm hf);exact ao.ret (aG.cell rfl rfl (Ld.bN (ad rfl) rfl zL rfl (by first|exact bJ (by first|rfl|assumption|(refine(aj _).trans ?_;assumption)|(simp[*];(first|done|fail)))|assumption|exact aI (by first|rfl|assumption|(refine(aj _).trans ?_;assumption)|(simp[*];(first|done|fail)))|(conv=>lhs;simp only[List.drop_succ_cons,List.drop_zero,List.take_succ_cons,List.take_zero])) (by first|rfl|assumption|(refine(aj _).trans ?_;assumption)|(simp[*];(first|done|fail))))) zE ⟨_,l4,fV.trans hR.symm,_,p5,c5,rfl,fS,FP.mono fc (fun _ _ h=>h),bQ.trans fc,rfl⟩
    by_cases q2:k=2
    ·subst q2;rw[gJ,if_neg (by decide),if_pos (by decide)] at hR;refine bC ?_;refine bq ?_;refine bq ?_
     cases hn:j8 vl e l2 with
     |error x=>
      rw[hn] at hR;simp only at hR;rcases jg hn with ⟨rfl,hx⟩|⟨t3,l3,rfl,rfl,hx,hy⟩
      ·skip;refine az.die rfl (gq σ b p2 c2 e _ pv vl.length cv l2 jy (fun t ht=>(jQ t ht).1) hx) rfl ?_;rintro _ _ _ ⟨rfl,rfl,rfl⟩;refine DA.cl ?_;(repeat (first|refine DA.ax ?_|refine DA.ay ?_));exact ao.panic zE ⟨_,fV.trans hR.symm,rfl,.refl _,_,rfl⟩
      ·skip;refine az.die rfl (fD σ b p2 c2 e vl pv cv t3 l3 hv jy (jQ t3 (by simp)).1 hx hy) rfl ?_;rintro _ _ _ ⟨rfl,rfl,rfl⟩;refine DA.cl ?_;(repeat (first|refine DA.ax ?_|refine DA.ay ?_));exact ao.panic zE ⟨_,fV.trans hR.symm,rfl,.refl _,_,rfl⟩
     |ok y=>
      obtain⟨v3,l3⟩:=y;rw[hn] at hR;simp only at hR;obtain⟨t3,i3,rfl,rfl,h3,h4⟩:=mu hn;(have FO:∀t∈l3,kN t:=fun t ht=>jQ t (by simp[ht]));have Wo:=mq _ _ _ h4;have KC:=hv.sB;refine zw rfl (aC.cE (ig σ b p2 c2 e vl pv cv i3 t3 l3 hv jy (jQ t3 (by simp)).1 h3 h4) rfl) ?_;rintro _ _ _ ⟨_,⟨rfl,p3,c3,DB,rfl,rfl⟩,rfl⟩;refine az.cl ?_;refine aW ?_;refine yC (kG σ ((2:Nat):Int)) ?_;refine bM ?_;obtain⟨m,hm⟩:∃m:Nat,partsOf ((2:Nat):Int)=m:=⟨(partsOf ((2:Nat):Int)).toNat,by have:=kP (k:=((2:Nat):Int)) (by omega) (by omega);omega⟩;(have X5:m≤2:=by have:=kO ((2:Nat):Int);omega);rw[hm] at hR⊢;rw[Int.toNat_natCast] at hR;obtain⟨S,hS⟩:∃S,dh (cm vl e f) m l3 []=S:=⟨_,rfl⟩;rw[hS] at hR;(refine XA.gen [(0,_),(1,_),(4,_),(5,_),(29,_),(30,_)] jN fun δ=>?_);dsimp only[List.foldl];refine XA.loop [(30,41)] (fun i:Nat=>[(30,i64 i)]) (fun i ag ah=>σ.sub ag∧i≤m∧∃(lc:List Tk) (acc:List Ex) (pp:Option Addr) (pc:Nat) (pl:Option Addr) (cl:Nat) (rows:List (List Value)),S=dh (cm vl e f) (m-i) lc acc∧(∀t∈lc,kN t)∧acc.length=i∧bO 4 iC ag (.slice pp lc.length pc) lc∧cA 4 dc ag rows acc∧ah=[bn 138 4 (.slice pl i cl) i rows.flatten,au g5 [i64 ((2:Nat):Int),i64 (i3:Int),i64 0,.slice pl i cl] 138,au b [.slice pp lc.length pc,i64 e,.slice pv vl.length cv] 213,au g4 uu.zero 138]) (fun i=>m-i) 0 (by exact⟨rfl,trivial⟩) (Δ0:=_) ?_ (⟨.refl _,Nat.zero_le _,l3,[],p3,c3,none,0,[],hS.symm,FO,rfl,DB,cA.nil _ _ _,rfl⟩) ?_
      ·exact zE
      rintro i δ dQ _ ⟨bQ,hi,lc,acc,pp,pc,pl,cl,rows,kQ,tL,eR,mR,eK,rfl⟩;dsimp only[eb,List.foldl];have hi:i≤m:=hi;have nU:=hv.mono bQ (fun _ _ h=>h);by_cases aT:i<m
      ·obtain⟨j,hj⟩:∃j,m-i=j+1:=⟨m-i-1,by omega⟩;rw[hj,dh] at kQ
       cases hx:cm vl e f lc with
       |error x=>
        rw[hx] at kQ;simp only at kQ;rw[kQ] at hR;refine aO ?_;refine mQ ?_;refine bM ?_;refine fZ 10 45687 [7,9] (aw.bP (R:=au g5 _ _) zL (aw.nil _)) ?_;refine b9 ?_;refine aK.die rfl rfl Gd.free (ih.bad nU mR tL (by omega) (by omega) hx) rfl ?_;rintro _ dq _ ⟨rfl,bT,vH,rfl⟩;refine DA.cl ?_;(repeat (first|refine DA.ax ?_|refine DA.ay ?_));exact ao.panic zE ⟨_,fV.trans hR.symm,rfl,bQ.trans bT,_,rfl⟩
       |ok y=>
        obtain⟨x,l'⟩:=y;rw[hx] at kQ;simp only at kQ;refine aO ?_;refine mQ ?_;refine bM ?_;refine fZ 10 45687 [7,9] (aw.bP (R:=au g5 _ _) zL (aw.nil _)) ?_;refine b9 ?_;refine aK.fL rfl rfl Gd.free (aC.cE (ih.ok nU mR tL (by omega) (by omega) hx) rfl) ?_;rintro _ dq _ ⟨_,⟨vH,p',c',rfl,kR,pJ,bT,rfl⟩,rfl⟩;refine stays (aK.cl ?_);have sC:=kR.len;have sD:=kR.dn;refine aK.fL rfl rfl Gd.free (aC.qO (ad rfl) rfl (ad rfl)) ?_;rintro _ _ _ ⟨X6,rfl,rfl,rfl⟩;refine stays ?_;refine aK.bj rfl rfl Gd.free (by kernel_rfl) (aC.tS (ad rfl) rfl (ad rfl) rfl rfl rfl) ?_;rintro _ _ _ ⟨QK,QL,rfl,rfl,rfl⟩;refine b3 ?_;refine aK.bj rfl rfl Gd.free (by kernel_rfl) (aC.st (ad rfl) rfl) ?_;rintro _ _ _ ⟨rfl,rfl,rfl⟩;refine bC ?_;have fI:cA 4 dc dq (rows++[vH]) (acc++[x]):=(eK.mono (fun _ _ h=>h.mono bT)).snoc sC kR;refine⟨cF,i+1,_,zM,?_,⟨bQ.trans bT,aT,l',acc++[x],p',c',QK,QL,rows++[vH],(by rw[kQ,show m-(i+1)=j by omega]),(fun t ht=>tL t (j9 f _ _ _ hx t ht)),(by rw[List.length_append,eR];rfl),pJ,fI,rfl⟩,(by omega)⟩
        ·rw[mP];exact zE
      ·(have B7:i=m:=by omega);subst B7;rw[Nat.sub_self,dh] at kQ;rw[kQ] at hR;simp only at hR;rw[dz] at hR;refine aO ?_;refine lz ?_;refine bC ?_
       cases hc:lA eJ lc with
       |false=>
        rw[if_neg (by rw[hc];exact Bool.noConfusion)] at hR;refine az.die rfl (dV dQ b pp pc e _ lc eJ mR hc) rfl ?_;rintro _ _ _ ⟨rfl,rfl,rfl⟩;refine DA.cl ?_;(repeat (first|refine DA.ax ?_|refine DA.ay ?_));exact ao.panic zE ⟨_,fV.trans hR.symm,rfl,bQ,_,rfl⟩
       |true=>
        obtain⟨t4,l4,rfl⟩:=ca hc;rw[if_pos hc,List.tail_cons] at hR;refine zw rfl (aC.cE (eT dQ b pp pc e _ t4 l4 eJ mR hc) rfl) ?_;rintro _ _ _ ⟨_,⟨rfl,p5,c5,FP,rfl,rfl⟩,rfl⟩;refine az.cl ?_;refine a8 ?_;refine DA.qM (R:=bn 138 4 _ _ _) zL dp aU ?_;rintro lB ⟨⟩ hf fc;have fS:dc lB [i64 ((2:Nat):Int),i64 (i3:Int),i64 0,.slice pl i cl] (.mk ((2:Nat):Int) (i3:Int) 0 acc):=dc.of ⟨by omega,by omega⟩ ⟨by omega,by omega⟩ ⟨by decide,by decide⟩ ((eK.mono (fun _ _ h=>h.mono fc)).H4 eR.symm hf);exact ao.ret (aG.cell rfl rfl (Ld.bN (ad rfl) rfl zL rfl (by first|exact bJ (by first|rfl|assumption|(refine(aj _).trans ?_;assumption)|(simp[*];(first|done|fail)))|assumption|exact aI (by first|rfl|assumption|(refine(aj _).trans ?_;assumption)|(simp[*];(first|done|fail)))|(conv=>lhs;simp only[List.drop_succ_cons,List.drop_zero,List.take_succ_cons,List.take_zero])) (by first|rfl|assumption|(refine(aj _).trans ?_;assumption)|(simp[*];(first|done|fail))))) zE ⟨_,l4,fV.trans hR.symm,_,p5,c5,rfl,fS,FP.mono fc (fun _ _ h=>h),bQ.trans fc,rfl⟩
    by_cases q3:k=3
    ·subst q3;rw[gJ,if_neg (by decide),if_pos (by decide)] at hR;refine bC ?_;refine aO ?_;refine bq ?_
     cases hn:j8 vl e l2 with
     |error x=>
      rw[hn] at hR;simp only at hR;rcases jg hn with ⟨rfl,hx⟩|⟨t3,l3,rfl,rfl,hx,hy⟩
      ·skip;refine az.die rfl (gq σ b p2 c2 e _ pv vl.length cv l2 jy (fun t ht=>(jQ t ht).1) hx) rfl ?_;rintro _ _ _ ⟨rfl,rfl,rfl⟩;refine DA.cl ?_;(repeat (first|refine DA.ax ?_|refine DA.ay ?_));exact ao.panic zE ⟨_,fV.trans hR.symm,rfl,.refl _,_,rfl⟩
      ·skip;refine az.die rfl (fD σ b p2 c2 e vl pv cv t3 l3 hv jy (jQ t3 (by simp)).1 hx hy) rfl ?_;rintro _ _ _ ⟨rfl,rfl,rfl⟩;refine DA.cl ?_;(repeat (first|refine DA.ax ?_|refine DA.ay ?_));exact ao.panic zE ⟨_,fV.trans hR.symm,rfl,.refl _,_,rfl⟩
     |ok y=>
      obtain⟨v3,l3⟩:=y;rw[hn] at hR;simp only at hR;obtain⟨t3,i3,rfl,rfl,h3,h4⟩:=mu hn;(have FO:∀t∈l3,kN t:=fun t ht=>jQ t (by simp[ht]));have Wo:=mq _ _ _ h4;have KC:=hv.sB;refine zw rfl (aC.cE (ig σ b p2 c2 e vl pv cv i3 t3 l3 hv jy (jQ t3 (by simp)).1 h3 h4) rfl) ?_;rintro _ _ _ ⟨_,⟨rfl,p3,c3,DB,rfl,rfl⟩,rfl⟩;refine az.cl ?_;refine aW ?_;refine yC (kG σ ((3:Nat):Int)) ?_;refine bM ?_;obtain⟨m,hm⟩:∃m:Nat,partsOf ((3:Nat):Int)=m:=⟨(partsOf ((3:Nat):Int)).toNat,by have:=kP (k:=((3:Nat):Int)) (by omega) (by omega);omega⟩;(have X5:m≤2:=by have:=kO ((3:Nat):Int);omega);rw[hm] at hR⊢;rw[Int.toNat_natCast] at hR;obtain⟨S,hS⟩:∃S,dh (cm vl e f) m l3 []=S:=⟨_,rfl⟩;rw[hS] at hR;(refine XA.gen [(0,_),(1,_),(4,_),(5,_),(29,_),(30,_)] jN fun δ=>?_);dsimp only[List.foldl];refine XA.loop [(30,41)] (fun i:Nat=>[(30,i64 i)]) (fun i ag ah=>σ.sub ag∧i≤m∧∃(lc:List Tk) (acc:List Ex) (pp:Option Addr) (pc:Nat) (pl:Option Addr) (cl:Nat) (rows:List (List Value)),S=dh (cm vl e f) (m-i) lc acc∧(∀t∈lc,kN t)∧acc.length=i∧bO 4 iC ag (.slice pp lc.length pc) lc∧cA 4 dc ag rows acc∧ah=[bn 138 4 (.slice pl i cl) i rows.flatten,au g5 [i64 ((3:Nat):Int),i64 (i3:Int),i64 0,.slice pl i cl] 138,au b [.slice pp lc.length pc,i64 e,.slice pv vl.length cv] 213,au g4 uu.zero 138]) (fun i=>m-i) 0 (by exact⟨rfl,trivial⟩) (Δ0:=_) ?_ (⟨.refl _,Nat.zero_le _,l3,[],p3,c3,none,0,[],hS.symm,FO,rfl,DB,cA.nil _ _ _,rfl⟩) ?_
      ·exact zE
      rintro i δ dQ _ ⟨bQ,hi,lc,acc,pp,pc,pl,cl,rows,kQ,tL,eR,mR,eK,rfl⟩;dsimp only[eb,List.foldl];have hi:i≤m:=hi;have nU:=hv.mono bQ (fun _ _ h=>h);by_cases aT:i<m
      ·obtain⟨j,hj⟩:∃j,m-i=j+1:=⟨m-i-1,by omega⟩;rw[hj,dh] at kQ
       cases hx:cm vl e f lc with
       |error x=>
        rw[hx] at kQ;simp only at kQ;rw[kQ] at hR;refine aO ?_;refine mQ ?_;refine bM ?_;refine fZ 10 45687 [7,9] (aw.bP (R:=au g5 _ _) zL (aw.nil _)) ?_;refine b9 ?_;refine aK.die rfl rfl Gd.free (ih.bad nU mR tL (by omega) (by omega) hx) rfl ?_;rintro _ dq _ ⟨rfl,bT,vH,rfl⟩;refine DA.cl ?_;(repeat (first|refine DA.ax ?_|refine DA.ay ?_));exact ao.panic zE ⟨_,fV.trans hR.symm,rfl,bQ.trans bT,_,rfl⟩
       |ok y=>
        obtain⟨x,l'⟩:=y;rw[hx] at kQ;simp only at kQ;refine aO ?_;refine mQ ?_;refine bM ?_;refine fZ 10 45687 [7,9] (aw.bP (R:=au g5 _ _) zL (aw.nil _)) ?_;refine b9 ?_;refine aK.fL rfl rfl Gd.free (aC.cE (ih.ok nU mR tL (by omega) (by omega) hx) rfl) ?_;rintro _ dq _ ⟨_,⟨vH,p',c',rfl,kR,pJ,bT,rfl⟩,rfl⟩;refine stays (aK.cl ?_);have sC:=kR.len;have sD:=kR.dn;refine aK.fL rfl rfl Gd.free (aC.qO (ad rfl) rfl (ad rfl)) ?_;rintro _ _ _ ⟨X6,rfl,rfl,rfl⟩;refine stays ?_;refine aK.bj rfl rfl Gd.free (by kernel_rfl) (aC.tS (ad rfl) rfl (ad rfl) rfl rfl rfl) ?_;rintro _ _ _ ⟨QK,QL,rfl,rfl,rfl⟩;refine b3 ?_;refine aK.bj rfl rfl Gd.free (by kernel_rfl) (aC.st (ad rfl) rfl) ?_;rintro _ _ _ ⟨rfl,rfl,rfl⟩;refine bC ?_;have fI:cA 4 dc dq (rows++[vH]) (acc++[x]):=(eK.mono (fun _ _ h=>h.mono bT)).snoc sC kR;refine⟨cF,i+1,_,zM,?_,⟨bQ.trans bT,aT,l',acc++[x],p',c',QK,QL,rows++[vH],(by rw[kQ,show m-(i+1)=j by omega]),(fun t ht=>tL t (j9 f _ _ _ hx t ht)),(by rw[List.length_append,eR];rfl),pJ,fI,rfl⟩,(by omega)⟩
        ·rw[mP];exact zE
      ·(have B7:i=m:=by omega);subst B7;rw[Nat.sub_self,dh] at kQ;rw[kQ] at hR;simp only at hR;rw[dz] at hR;refine aO ?_;refine lz ?_;refine bC ?_
       cases hc:lA eJ lc with
       |false=>
        rw[if_neg (by rw[hc];exact Bool.noConfusion)] at hR;refine az.die rfl (dV dQ b pp pc e _ lc eJ mR hc) rfl ?_;rintro _ _ _ ⟨rfl,rfl,rfl⟩;refine DA.cl ?_;(repeat (first|refine DA.ax ?_|refine DA.ay ?_));exact ao.panic zE ⟨_,fV.trans hR.symm,rfl,bQ,_,rfl⟩
       |true=>
        obtain⟨t4,l4,rfl⟩:=ca hc;rw[if_pos hc,List.tail_cons] at hR;refine zw rfl (aC.cE (eT dQ b pp pc e _ t4 l4 eJ mR hc) rfl) ?_;rintro _ _ _ ⟨_,⟨rfl,p5,c5,FP,rfl,rfl⟩,rfl⟩;refine az.cl ?_;refine a8 ?_;refine DA.qM (R:=bn 138 4 _ _ _) zL dp aU ?_;rintro lB ⟨⟩ hf fc;have fS:dc lB [i64 ((3:Nat):Int),i64 (i3:Int),i64 0,.slice pl i cl] (.mk ((3:Nat):Int) (i3:Int) 0 acc):=dc.of ⟨by omega,by omega⟩ ⟨by omega,by omega⟩ ⟨by decide,by decide⟩ ((eK.mono (fun _ _ h=>h.mono fc)).H4 eR.symm hf);exact ao.ret (aG.cell rfl rfl (Ld.bN (ad rfl) rfl zL rfl (by first|exact bJ (by first|rfl|assumption|(refine(aj _).trans ?_;assumption)|(simp[*];(first|done|fail)))|assumption|exact aI (by first|rfl|assumption|(refine(aj _).trans ?_;assumption)|(simp[*];(first|done|fail)))|(conv=>lhs;simp only[List.drop_succ_cons,List.drop_zero,List.take_succ_cons,List.take_zero])) (by first|rfl|assumption|(refine(aj _).trans ?_;assumption)|(simp[*];(first|done|fail))))) zE ⟨_,l4,fV.trans hR.symm,_,p5,c5,rfl,fS,FP.mono fc (fun _ _ h=>h),bQ.trans fc,rfl⟩
    rw[gJ,if_neg q1,if_neg (by omega)] at hR;simp only at hR;refine lz ?_;refine bt ?_;refine lz ?_;refine b9 ?_;refine lz ?_;refine bC ?_;refine yC (kG σ (k:Int)) ?_;refine bM ?_;obtain⟨m,hm⟩:∃m:Nat,partsOf (k:Int)=m:=⟨(partsOf (k:Int)).toNat,by have:=kP (k:=(k:Int)) (by omega) (by omega);omega⟩;(have X5:m≤2:=by have:=kO (k:Int);omega);rw[hm] at hR⊢;rw[Int.toNat_natCast] at hR;obtain⟨S,hS⟩:∃S,dh (cm vl e f) m l2 []=S:=⟨_,rfl⟩;rw[hS] at hR;(refine XA.gen [(0,_),(1,_),(4,_),(5,_),(29,_),(30,_)] jN fun δ=>?_);dsimp only[List.foldl];refine XA.loop [(30,41)] (fun i:Nat=>[(30,i64 i)]) (fun i ag ah=>σ.sub ag∧i≤m∧∃(lc:List Tk) (acc:List Ex) (pp:Option Addr) (pc:Nat) (pl:Option Addr) (cl:Nat) (rows:List (List Value)),S=dh (cm vl e f) (m-i) lc acc∧(∀t∈lc,kN t)∧acc.length=i∧bO 4 iC ag (.slice pp lc.length pc) lc∧cA 4 dc ag rows acc∧ah=[bn 138 4 (.slice pl i cl) i rows.flatten,au g5 [i64 (k:Int),i64 0,i64 0,.slice pl i cl] 138,au b [.slice pp lc.length pc,i64 e,.slice pv vl.length cv] 213,au g4 uu.zero 138]) (fun i=>m-i) 0 (by exact⟨rfl,trivial⟩) (Δ0:=_) ?_ (⟨.refl _,Nat.zero_le _,l2,[],p2,c2,none,0,[],hS.symm,jQ,rfl,jy,cA.nil _ _ _,rfl⟩) ?_
    ·exact zE
    rintro i δ dQ _ ⟨bQ,hi,lc,acc,pp,pc,pl,cl,rows,kQ,tL,eR,mR,eK,rfl⟩;dsimp only[eb,List.foldl];have hi:i≤m:=hi;have nU:=hv.mono bQ (fun _ _ h=>h);by_cases aT:i<m
    ·obtain⟨j,hj⟩:∃j,m-i=j+1:=⟨m-i-1,by omega⟩;rw[hj,dh] at kQ
     cases hx:cm vl e f lc with
     |error x=>
      rw[hx] at kQ;simp only at kQ;rw[kQ] at hR;refine aO ?_;refine mQ ?_;refine bM ?_;refine fZ 10 45687 [7,9] (aw.bP (R:=au g5 _ _) zL (aw.nil _)) ?_;refine b9 ?_;refine aK.die rfl rfl Gd.free (ih.bad nU mR tL (by omega) (by omega) hx) rfl ?_;rintro _ dq _ ⟨rfl,bT,vH,rfl⟩;refine DA.cl ?_;(repeat (first|refine DA.ax ?_|refine DA.ay ?_));exact ao.panic zE ⟨_,fV.trans hR.symm,rfl,bQ.trans bT,_,rfl⟩
     |ok y=>
      obtain⟨x,l'⟩:=y;rw[hx] at kQ;simp only at kQ;refine aO ?_;refine mQ ?_;refine bM ?_;refine fZ 10 45687 [7,9] (aw.bP (R:=au g5 _ _) zL (aw.nil _)) ?_;refine b9 ?_;refine aK.fL rfl rfl Gd.free (aC.cE (ih.ok nU mR tL (by omega) (by omega) hx) rfl) ?_;rintro _ dq _ ⟨_,⟨vH,p',c',rfl,kR,pJ,bT,rfl⟩,rfl⟩;refine stays (aK.cl ?_);have sC:=kR.len;have sD:=kR.dn;refine aK.fL rfl rfl Gd.free (aC.qO (ad rfl) rfl (ad rfl)) ?_;rintro _ _ _ ⟨X6,rfl,rfl,rfl⟩;refine stays ?_;refine aK.bj rfl rfl Gd.free (by kernel_rfl) (aC.tS (ad rfl) rfl (ad rfl) rfl rfl rfl) ?_;rintro _ _ _ ⟨QK,QL,rfl,rfl,rfl⟩;refine b3 ?_;refine aK.bj rfl rfl Gd.free (by kernel_rfl) (aC.st (ad rfl) rfl) ?_;rintro _ _ _ ⟨rfl,rfl,rfl⟩;refine bC ?_;have fI:cA 4 dc dq (rows++[vH]) (acc++[x]):=(eK.mono (fun _ _ h=>h.mono bT)).snoc sC kR;refine⟨cF,i+1,_,zM,?_,⟨bQ.trans bT,aT,l',acc++[x],p',c',QK,QL,rows++[vH],(by rw[kQ,show m-(i+1)=j by omega]),(fun t ht=>tL t (j9 f _ _ _ hx t ht)),(by rw[List.length_append,eR];rfl),pJ,fI,rfl⟩,(by omega)⟩
      ·rw[mP];exact zE
    ·(have B7:i=m:=by omega);subst B7;rw[Nat.sub_self,dh] at kQ;rw[kQ] at hR;simp only at hR;rw[dz] at hR;refine aO ?_;refine lz ?_;refine bC ?_
     cases hc:lA eJ lc with
     |false=>
      rw[if_neg (by rw[hc];exact Bool.noConfusion)] at hR;refine az.die rfl (dV dQ b pp pc e _ lc eJ mR hc) rfl ?_;rintro _ _ _ ⟨rfl,rfl,rfl⟩;refine DA.cl ?_;(repeat (first|refine DA.ax ?_|refine DA.ay ?_));exact ao.panic zE ⟨_,fV.trans hR.symm,rfl,bQ,_,rfl⟩
     |true=>
      obtain⟨t4,l4,rfl⟩:=ca hc;rw[if_pos hc,List.tail_cons] at hR;refine zw rfl (aC.cE (eT dQ b pp pc e _ t4 l4 eJ mR hc) rfl) ?_;rintro _ _ _ ⟨_,⟨rfl,p5,c5,FP,rfl,rfl⟩,rfl⟩;refine az.cl ?_;refine a8 ?_;refine DA.qM (R:=bn 138 4 _ _ _) zL dp aU ?_;rintro lB ⟨⟩ hf fc;have fS:dc lB [i64 (k:Int),i64 0,i64 0,.slice pl i cl] (.mk (k:Int) 0 0 acc):=dc.of ⟨by omega,by omega⟩ ⟨by decide,by decide⟩ ⟨by decide,by decide⟩ ((eK.mono (fun _ _ h=>h.mono fc)).H4 eR.symm hf);exact ao.ret (aG.cell rfl rfl (Ld.bN (ad rfl) rfl zL rfl (by first|exact bJ (by first|rfl|assumption|(refine(aj _).trans ?_;assumption)|(simp[*];(first|done|fail)))|assumption|exact aI (by first|rfl|assumption|(refine(aj _).trans ?_;assumption)|(simp[*];(first|done|fail)))|(conv=>lhs;simp only[List.drop_succ_cons,List.drop_zero,List.take_succ_cons,List.take_zero])) (by first|rfl|assumption|(refine(aj _).trans ?_;assumption)|(simp[*];(first|done|fail))))) zE ⟨_,l4,fV.trans hR.symm,_,p5,c5,rfl,fS,FP.mono fc (fun _ _ h=>h),bQ.trans fc,rfl⟩
end Go.Proofs.YtgeoiflbjcehcaaGreatDoor
