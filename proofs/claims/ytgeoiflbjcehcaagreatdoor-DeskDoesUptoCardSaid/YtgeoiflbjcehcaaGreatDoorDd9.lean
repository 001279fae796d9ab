import Derived.Test.YtgeoiflbjcehcaaGreatDoorDd6
import Derived.Test.YtgeoiflbjcehcaaGreatDoorDd8
set_option maxHeartbeats 4000000
set_option maxRecDepth 2000
set_option linter.unusedVariables false
set_option linter.unusedSimpArgs false
namespace Go.Proofs.YtgeoiflbjcehcaaGreatDoor
open Go X
def bD (e:Int) (l:List Tk) (code:Int):Int×Int:=match l with
 |t::_=>(code,t.at_)
 |[]=>(if code=5 then 6 else code,e)
def ku (w:ByteArray):List Tk→Bool
 |t::_=>!t.num&&decide (t.text=w)
 |[]=>false
def j4 (x:Int×Int):List PanicEntry:=[{v:=.iface 209 (.agg #[i64 x.1,i64 x.2]),recovered:=false}]
theorem X.Rd.rT {P:Program} {ρ:Env} {S:Heap→Prop} {ty:TypeId} {T:TypeId} {x y:Operand} {r re:Ty} {e len cap:Nat} {a:Option Addr} {kk:IntKind} (hT:aX P T=some r) (hk:r.k=.slice e) (hE:aX P e=some re) (bz:re.size=4) (hx:ev ρ x=.slice a len cap) (hy:ev ρ y=.int kk 1) (hl:1≤len):Rd P ρ S (.slice T x (some y) none none) ty (.slice (if cap=1 then a else a.map (·.add 4)) (len-1) (cap-1)):=by
 have h:=Rd.qx (P:=P) (ρ:=ρ) (S:=S) (ty:=ty) (lo:=some y) (hi:=none) (mx:=none) (l:=1) (hh:=len) (m:=cap) hT hk hE hx (fun w=>by
  have hb:=fun c w=>sP (P:=P) (y:=len) (c:=c) (kk:=kk) (i:=1) au ad w
  simp[Instr.sliceBounds,hy,hb])
 rw[bz] at h;exact h
theorem X.Rd.SU {P:Program} {ρ:Env} {S:Heap→Prop} {ty T:TypeId} {x:Operand} {v:Value} {r:Ty} {fs:List (TypeId×Nat)} (hT:aX P T=some r) (hk:r.k=.struct fs) (hx:ev ρ x=v):Rd P ρ S (.makeInterface T x) ty (.iface T v):=by
 (refine .pure fun d pos af g w=>?_);obtain⟨dd,i,z,e1,e2,-⟩:=aF hT;rw[hk] at e2;(cases dd<;>simp[kindOf] at e2);simp[execOp,Instr.makeInterface,run_underlying e1,hx]
theorem xG {α:Type} {R:RT α} {σ:PH} {p:Option Addr} {c:Nat} {t:α} {r:List α} (h:bV 4 R σ (.slice p (t::r).length c) (t::r)):bV 4 R σ (.slice (if c=1 then p else p.map (·.add 4)) ((t::r).length-1) (c-1)) r:=by
 obtain⟨p',c',rows,h1,h2,h3,h4,h5,h6,h7⟩:=h;simp only[Value.slice.injEq] at h1;obtain⟨rfl,-,rfl⟩:=h1;obtain⟨g,o,rfl,hr⟩:=h7 aZ
 match rows,h4 with
 |row::rows,h4=>
  have hl:=h5 row aZ;simp only[bF] at h2 h4;refine⟨_,_,rows,by rw[bF,Nat.add_sub_cancel],ad,ad,ad,fun q hq=>h5 q (by simp[hq]),fun i q x a b=>h6 (i+1) q x (by simpa using a) (by simpa using b),fun hp=>?_⟩;refine⟨g,o+4,by rw[ag ad,Option.map_some,addr_add],?_⟩;refine hr.sub (j:=4) ?_;rw[List.flatten_cons,←hl,List.drop_left,List.take_of_length_le (bX _)]
theorem nI {σ:PH} {p:Option Addr} {c:Nat} {t:Tk} {r:List Tk} (h:bV 4 je σ (.slice p (t::r).length c) (t::r)):∃g o,p=some ⟨g,o,none⟩∧cH σ g o [i64 t.at_]∧cH σ g (o+1) [.string t.text]∧cH σ g (o+2) [.bool t.num]∧cH σ g (o+3) [i64 t.n]:=by
 obtain⟨g,o,row,rfl,hr,-,bG⟩:=h.at (k:=0) rfl;have hr:row=Lu t:=hr;subst hr;rw[Nat.zero_mul,Nat.add_zero] at bG;exact⟨g,o,rfl,bG.sub (j:=0) rfl,bG.sub (j:=1) rfl,bG.sub (j:=2) rfl,bG.sub (j:=3) rfl⟩
section
variable (σ:PH) (b:Nat) (p:Option Addr) (n c:Nat) (e:Int) (vs:Value)
theorem pQ (l:List Tk) (code:Int) (hl:bV 4 je σ (.slice p l.length c) l):
 ah Tryz.prog 204 #[ptr b,i64 code] σ [aw b [.slice p l.length c,i64 e,vs] 213] (na fun ch aj al=>ch=j4 (bD e l code)∧σ=aj∧al=[aw b [.slice p l.length c,i64 e,vs] 213]):=by
 cases l with
 |cons t r=>
  obtain⟨g,o,rfl,h0,h1,h2,h3⟩:=nI hl;(have uB:(0:Int)<((t::r).length:Nat):=by rw[bF];omega);refine cw Tryz.func204 ?_;refine mI ?_;refine XA.aY rfl (by first|rfl|exact aM uB) ?_;refine dh ?_;refine zO rfl (X.Rd.SU (ae rfl) rfl rfl) ?_;refine az.throw rfl rfl ?_;refine fL ?_;exact ao.panic zE ⟨rfl,rfl,rfl⟩
 |nil=>
  by_cases q:code=5
  ·subst q;refine cw Tryz.func204 ?_;refine Lc ?_;refine zO rfl (X.Rd.SU (ae rfl) rfl rfl) ?_;refine az.throw rfl rfl ?_;refine fL ?_;exact ao.panic zE ⟨rfl,rfl,rfl⟩
  ·(have hf:bD e [] code=(code,e):=by rw[bD,ag q]);rw[hf];refine cw Tryz.func204 ?_;refine zi ?_;refine XA.aI rfl (by first|rfl|exact aE q) ?_;refine a8 ?_;refine zO rfl (X.Rd.SU (ae rfl) rfl rfl) ?_;refine az.throw rfl rfl ?_;refine fL ?_;exact ao.panic zE ⟨rfl,rfl,rfl⟩
theorem Lx (l:List Tk) (w:ByteArray) (hl:bV 4 je σ (.slice p l.length c) l):
 ah Tryz.prog 203 #[ptr b,.string w] σ [aw b [.slice p l.length c,i64 e,vs] 213] (aA fun v aj al=>v=.bool (ku w l)∧σ=aj∧al=[aw b [.slice p l.length c,i64 e,vs] 213]):=by
 cases l with
 |cons t r=>
  obtain⟨g,o,rfl,h0,h1,h2,h3⟩:=nI hl;(have uB:(0:Int)<((t::r).length:Nat):=by rw[bF];omega);have aV:(0:Int)≤0∧(0:Int)<((t::r).length:Nat):=⟨Int.le_refl _,uB⟩;obtain⟨ta,tt,tn,tv⟩:=t
  cases tn with
  |true=>
   refine cw Tryz.func203 ?_;refine Jd ?_;(first|(refine zG ?_;refine zO rfl (Rd.fE rfl rfl) ?_)|refine zH ?_);refine dc ?_;exact bC rfl rfl ⟨rfl,rfl,rfl⟩
  |false=>
   refine cw Tryz.func203 ?_;refine Jd ?_;(first|(refine zG ?_;refine zO rfl (Rd.fE rfl rfl) ?_)|refine zH ?_);refine dc ?_;exact bC rfl rfl ⟨rfl,rfl,rfl⟩
 |nil=>
  refine cw Tryz.func203 ?_;refine Jd ?_;(first|(refine zG ?_;refine zO rfl (Rd.fE rfl rfl) ?_)|refine zH ?_);refine dc ?_;exact bC rfl rfl ⟨rfl,rfl,rfl⟩
end
def SV:List ByteArray:=[⟨#[]⟩,⟨#[110,117,109]⟩,⟨#[118,97,114]⟩,⟨#[103,101,116]⟩,⟨#[97,100,100]⟩,⟨#[115,117,98]⟩,⟨#[109,117,108]⟩,⟨#[108,101,115,115]⟩,⟨#[115,97,109,101]⟩]
def SW:List ByteArray:=[⟨#[]⟩,⟨#[115,101,116]⟩,⟨#[112,117,116]⟩,⟨#[112,114,105,110,116]⟩,⟨#[114,101,97,100]⟩,⟨#[119,104,105,108,101]⟩,⟨#[105,102]⟩,⟨#[99,111,109,109,105,116]⟩]
def cS (k:Int):ByteArray:=if 1≤k∧k≤8 then SV.getD k.toNat ByteArray.empty else ByteArray.empty
def eH (k:Int):ByteArray:=if 1≤k∧k≤7 then SW.getD k.toNat ByteArray.empty else ByteArray.empty
theorem Ly (σ:PH) (k:Int):ah Tryz.prog 230 #[i64 k] σ [] (aA fun v aj al=>v=.string (cS k)∧σ=aj∧al=[]):=by
 by_cases hr:1≤k∧k≤8
 ·(have hp:¬partsOf k<0:=by rw[partsOf];split;(decide);split;(decide);rw[aq ad];decide);have uF:k=1∨k=2∨k=3∨k=4∨k=5∨k=6∨k=7∨k=8:=by omega
  have Om:(List.toArray [Value.string ⟨#[]⟩,.string ⟨#[110,117,109]⟩,.string ⟨#[118,97,114]⟩,.string ⟨#[103,101,116]⟩,.string ⟨#[97,100,100]⟩,.string ⟨#[115,117,98]⟩,.string ⟨#[109,117,108]⟩,.string ⟨#[108,101,115,115]⟩,.string ⟨#[115,97,109,101]⟩])[k.toNat]? =some (.string (cS k)):=by
   rcases uF with rfl|rfl|rfl|rfl|rfl|rfl|rfl|rfl<;>rfl
  refine cM Tryz.func230 ?_;refine bt ?_;refine yC (ox σ k) ?_;refine cx ?_;refine XA.aI rfl (by first|rfl|exact aE hp) ?_;refine bY ?_;refine zO rfl (Rd.Bj (cs:=[Value.string ⟨#[]⟩,.string ⟨#[110,117,109]⟩,.string ⟨#[118,97,114]⟩,.string ⟨#[103,101,116]⟩,.string ⟨#[97,100,100]⟩,.string ⟨#[115,117,98]⟩,.string ⟨#[109,117,108]⟩,.string ⟨#[108,101,115,115]⟩,.string ⟨#[115,97,109,101]⟩]) (fun _ _=>ae) rfl rfl rfl rfl aC) ?_;refine bS ?_;refine zO rfl (by apply Rd.sJ;exact ae rfl;rfl;exact ae rfl;rfl;rfl;rfl;rfl;exact ad;exact Om) ?_;refine bY ?_;exact ao.ret (aB.one rfl rfl) (ar.refl _) ⟨rfl,rfl,rfl⟩
 ·(have hp:partsOf k<0:=by rw[partsOf,ag ad,ag ad,ag ad];decide);(have hw:cS k=ByteArray.empty:=by rw[cS,ag hr]);rw[hw];refine cM Tryz.func230 ?_;refine bt ?_;refine yC (ox σ k) ?_;refine cx ?_;refine XA.aY rfl (by first|rfl|exact aM hp) ?_;refine bg ?_;exact ao.ret (aB.one rfl rfl) (ar.refl _) ⟨rfl,rfl,rfl⟩
theorem Lz (σ:PH) (k:Int):ah Tryz.prog 208 #[i64 k] σ [] (aA fun v aj al=>v=.string (eH k)∧σ=aj∧al=[]):=by
 by_cases h1:k<1
 ·(have hw:eH k=ByteArray.empty:=by rw[eH,ag ad]);rw[hw];refine cM Tryz.func208 ?_;refine dC ?_;refine XA.aY rfl (by first|rfl|exact aM h1) ?_;refine bg ?_;exact ao.ret (aB.one rfl rfl) (ar.refl _) ⟨rfl,rfl,rfl⟩
 by_cases h7:k>7
 ·(have hw:eH k=ByteArray.empty:=by rw[eH,ag ad]);rw[hw];refine cM Tryz.func208 ?_;refine dC ?_;refine XA.aY rfl (by first|rfl|exact aM h7) ?_;refine bg ?_;exact ao.ret (aB.one rfl rfl) (ar.refl _) ⟨rfl,rfl,rfl⟩
 have uF:k=1∨k=2∨k=3∨k=4∨k=5∨k=6∨k=7:=by omega
 have Om:(List.toArray [Value.string ⟨#[]⟩,.string ⟨#[115,101,116]⟩,.string ⟨#[112,117,116]⟩,.string ⟨#[112,114,105,110,116]⟩,.string ⟨#[114,101,97,100]⟩,.string ⟨#[119,104,105,108,101]⟩,.string ⟨#[105,102]⟩,.string ⟨#[99,111,109,109,105,116]⟩])[k.toNat]? =some (.string (eH k)):=by
  rcases uF with rfl|rfl|rfl|rfl|rfl|rfl|rfl<;>rfl
 refine cM Tryz.func208 ?_;refine dC ?_;refine XA.aI rfl (by first|rfl|exact aE h7) ?_;refine bY ?_;refine zO rfl (Rd.Bj (cs:=[Value.string ⟨#[]⟩,.string ⟨#[115,101,116]⟩,.string ⟨#[112,117,116]⟩,.string ⟨#[112,114,105,110,116]⟩,.string ⟨#[114,101,97,100]⟩,.string ⟨#[119,104,105,108,101]⟩,.string ⟨#[105,102]⟩,.string ⟨#[99,111,109,109,105,116]⟩]) (fun _ _=>ae) rfl rfl rfl rfl aC) ?_;refine bS ?_;refine zO rfl (by apply Rd.sJ;exact ae rfl;rfl;exact ae rfl;rfl;rfl;rfl;rfl;exact ad;exact Om) ?_;refine bY ?_;exact ao.ret (aB.one rfl rfl) (ar.refl _) ⟨rfl,rfl,rfl⟩
section
variable (σ:PH) (b:Nat) (p:Option Addr) (n c:Nat) (e:Int) (vs:Value)
theorem Bx (t:Tk) (r:List Tk) (w:ByteArray) (hl:bV 4 je σ (.slice p (t::r).length c) (t::r)) (h:ku w (t::r)=true):
 ah Tryz.prog 177 #[ptr b,.string w] σ [aw b [.slice p (t::r).length c,i64 e,vs] 213] (aA fun v aj al=>v=.bool true∧∃p' c',bV 4 je σ (.slice p' r.length c') r∧σ=aj∧al=[aw b [.slice p' r.length c',i64 e,vs] 213]):=by
 have hp:=Lx σ b p c e vs (t::r) w hl;rw[h] at hp;refine cw Tryz.func177 ?_;refine bt ?_;refine yC (hp) ?_;refine dC ?_;refine zO rfl (X.Rd.rT (ae rfl) rfl (ae rfl) rfl rfl rfl aZ) ?_;refine bm ?_;exact bC rfl rfl ⟨rfl,_,_,xG hl,rfl,rfl⟩
theorem Dq (l:List Tk) (w:ByteArray) (hl:bV 4 je σ (.slice p l.length c) l) (h:ku w l=false):
 ah Tryz.prog 177 #[ptr b,.string w] σ [aw b [.slice p l.length c,i64 e,vs] 213] (aA fun v aj al=>v=.bool false∧σ=aj∧al=[aw b [.slice p l.length c,i64 e,vs] 213]):=by
 have hp:=Lx σ b p c e vs l w hl;rw[h] at hp;refine cw Tryz.func177 ?_;refine bt ?_;refine yC (hp) ?_;refine iA ?_;exact bC rfl rfl ⟨rfl,rfl,rfl⟩
theorem iq (t:Tk) (r:List Tk) (w:ByteArray) (hl:bV 4 je σ (.slice p (t::r).length c) (t::r)) (h:ku w (t::r)=true):
 ah Tryz.prog 206 #[ptr b,.string w] σ [aw b [.slice p (t::r).length c,i64 e,vs] 213] (aA fun v aj al=>v=.tuple #[]∧∃p' c',bV 4 je σ (.slice p' r.length c') r∧σ=aj∧al=[aw b [.slice p' r.length c',i64 e,vs] 213]):=by
 refine cw Tryz.func206 ?_;refine bY ?_;refine zw rfl (ax.cE (Bx σ b p c e vs t r w hl h) rfl) ?_;rintro _ _ _ ⟨_,⟨rfl,p',c',ux,rfl,rfl⟩,rfl⟩;refine az.cl ?_;refine dc ?_;exact iN rfl ⟨rfl,p',c',ux,rfl,rfl⟩
theorem fU (l:List Tk) (w:ByteArray) (hl:bV 4 je σ (.slice p l.length c) l) (h:ku w l=false):
 ah Tryz.prog 206 #[ptr b,.string w] σ [aw b [.slice p l.length c,i64 e,vs] 213] (na fun ch aj al=>ch=j4 (bD e l 5)∧σ=aj∧al=[aw b [.slice p l.length c,i64 e,vs] 213]):=by
 refine cw Tryz.func206 ?_;refine bY ?_;refine yC (Dq σ b p c e vs l w hl h) ?_;refine a8 ?_;refine az.die rfl (pQ σ b p c e vs l 5 hl) rfl ?_;rintro _ _ _ ⟨rfl,rfl,rfl⟩;refine DA.cl ?_;refine fL ?_;exact ao.panic zE ⟨rfl,rfl,rfl⟩
theorem Hu (m:Int) (v:List Value) (h:m≤12):
 ah Tryz.prog 205 #[ptr b,i64 m] σ [aw b v 213] (aA fun v' aj al=>v'=.tuple #[]∧σ=aj∧al=[aw b v 213]):=by
 refine cw Tryz.func205 ?_;refine a8 ?_;refine ik ?_;refine bS ?_;exact iN rfl ⟨rfl,rfl,rfl⟩
theorem Dr (m:Int) (l:List Tk) (hl:bV 4 je σ (.slice p l.length c) l) (h:¬m≤12):
 ah Tryz.prog 205 #[ptr b,i64 m] σ [aw b [.slice p l.length c,i64 e,vs] 213] (na fun ch aj al=>ch=j4 (bD e l 4)∧σ=aj∧al=[aw b [.slice p l.length c,i64 e,vs] 213]):=by
 refine cw Tryz.func205 ?_;refine a8 ?_;refine iQ ?_;refine aU ?_;refine az.die rfl (pQ σ b p c e vs l 4 hl) rfl ?_;rintro _ _ _ ⟨rfl,rfl,rfl⟩;refine DA.cl ?_;refine fL ?_;exact ao.panic zE ⟨rfl,rfl,rfl⟩
theorem By (t:Tk) (r:List Tk) (hl:bV 4 je σ (.slice p (t::r).length c) (t::r)) (h:t.num=true):
 ah Tryz.prog 179 #[ptr b] σ [aw b [.slice p (t::r).length c,i64 e,vs] 213] (aA fun v aj al=>v=i64 t.n∧∃p' c',bV 4 je σ (.slice p' r.length c') r∧σ=aj∧al=[aw b [.slice p' r.length c',i64 e,vs] 213]):=by
 obtain⟨g,o,rfl,h0,h1,h2,h3⟩:=nI hl;(have ix:¬(((t::r).length:Nat):Int)=0:=by rw[bF];omega);rw[h] at h2;refine cM Tryz.func179 ?_;refine W1 ?_;refine zO rfl (X.Rd.rT (ae rfl) rfl (ae rfl) rfl rfl rfl aZ) ?_;refine bm ?_;exact bC rfl rfl ⟨rfl,_,_,xG hl,rfl,rfl⟩
end
def lq (s:ByteArray):List Va→Nat→Option Nat
 |[],_=>none
 |v::r,k=>if v.name=s then some k else lq s r (k+1)
theorem SX (σ:PH) (g:Nat) (s:ByteArray) (w:Va):ah Tryz.prog 229 #[Zc w,ptr g] σ [aw g [.string s] 9] (aA fun r aj al=>r=.bool (decide (w.name=s))∧σ=aj∧al=[aw g [.string s] 9]):=by
 unfold Zc;(refine cw Tryz.func229 ?_;refine aU ?_;refine cP fun g2=>?_;refine bJ ?_;refine zO rfl (Rd.fE rfl rfl) ?_;refine bY ?_);exact bC rfl rfl ⟨rfl,rfl,rfl⟩
def SY:Option Nat→Int
 |some k=>k
 |none=>-1
theorem LA (σ:PH) (g:Nat) (s:ByteArray) (sl:Value) (l:List Va) (hl:bV 2 sB σ sl l):ah Tryz.prog 216 #[sl,.func (.func 229) #[] #[ptr g]] σ [aw g [.string s] 9] (aA fun r aj al=>r=i64 (SY (lq s l 0))∧σ=aj∧al=[aw g [.string s] 9]):=by
 obtain⟨pl,cl,rfl,hle,Hd⟩:=hl.shape;(have hlen:l.length≤maxLen:=by omega);simp only[maxLen] at hlen;(refine cw Tryz.func216 ?_;refine eA ?_;refine XA.gen [(0,_),(1,_),(4,_),(7,_),(8,_)] iX fun δ=>?_);dsimp only[List.foldl];refine XA.loop [(4,5),(8,18)] (fun k:Nat=>[(8,i64 k)]) (fun k aj al=>σ=aj∧k≤l.length∧(lq s l 0=lq s (l.drop k) k)∧al=[aw g [.string s] 9]) (fun k=>l.length-k) 0 eb (Δ0:=_) ?_ (⟨rfl,cg _,rfl,rfl⟩) ?_
 ·exact zE
 rintro k δ _ _ ⟨rfl,hk,bu,rfl⟩;dsimp only[dq,List.foldl];refine a8 ?_;refine XA.bE rfl (fun aV=>?_) (fun aV=>?_)
 ·(have aV:k<l.length:=by omega);obtain⟨x',lF⟩:∃x',l[k]? =some x':=⟨_,b9 aV⟩;obtain⟨gg,o,row,rfl,⟨rfl,-,-⟩,mZ,bG⟩:=hl.at lF;have bu:lq s l 0=lq s (l.drop k) k:=bu;rw[eC lF,lq] at bu;refine dV ?_;refine zw rfl (ax.cV (first:=[]) (cap:=[ptr g]) rfl (SX σ g s x') rfl) ?_;rintro _ _ _ ⟨_,⟨rfl,rfl,rfl⟩,rfl⟩;refine az.cl ?_;refine aU ?_;refine XA.bE rfl (fun hc=>?_) (fun hc=>?_)
  ·refine bm ?_;rw[aq hc] at bu;exact bC rfl rfl ⟨by rw[bu];rfl,rfl,rfl⟩
  ·rw[ag hc] at bu;refine bJ ?_;refine⟨bQ,k+1,_,zM,?_,⟨rfl,aV,bu,rfl⟩,ad⟩
   ·exact zE
 (have sC:k=l.length:=by omega);subst sC;have bu:lq s l 0=lq s (l.drop l.length) l.length:=bu;rw[List.drop_length] at bu;refine cp ?_;exact bC rfl rfl ⟨by rw[bu];rfl,rfl,rfl⟩
section
variable (σ:PH) (b:Nat) (p:Option Addr) (n c:Nat) (e:Int) (vs:Value)
theorem Hv (l:List Tk) (hl:bV 4 je σ (.slice p l.length c) l) (h:∀t r,l=t::r→t.num=false):
 ah Tryz.prog 179 #[ptr b] σ [aw b [.slice p l.length c,i64 e,vs] 213] (na fun ch aj al=>ch=j4 (bD e l 5)∧σ=aj∧al=[aw b [.slice p l.length c,i64 e,vs] 213]):=by
 cases l with
 |nil=>
  refine cM Tryz.func179 ?_;refine C5 ?_;refine az.die rfl (pQ σ b p c e vs [] 5 hl) rfl ?_;rintro _ _ _ ⟨rfl,rfl,rfl⟩;refine DA.cl ?_;refine fL ?_;exact ao.panic zE ⟨rfl,rfl,rfl⟩
 |cons t r=>
  obtain⟨g,o,rfl,h0,h1,h2,h3⟩:=nI hl;(have ix:¬(((t::r).length:Nat):Int)=0:=by rw[bF];omega);rw[h t r rfl] at h2;refine cM Tryz.func179 ?_;refine C5 ?_;refine az.die rfl (pQ σ b _ c e vs (t::r) 5 hl) rfl ?_;rintro _ _ _ ⟨rfl,rfl,rfl⟩;refine DA.cl ?_;refine fL ?_;exact ao.panic zE ⟨rfl,rfl,rfl⟩
theorem Bz (t:Tk) (r:List Tk) (hl:bV 4 je σ (.slice p (t::r).length c) (t::r)) (hs:t.text.size≤maxLen) (h:dW t.text=true):
 ah Tryz.prog 178 #[ptr b] σ [aw b [.slice p (t::r).length c,i64 e,vs] 213] (aA fun v aj al=>v=.string t.text∧∃p' c',bV 4 je σ (.slice p' r.length c') r∧σ=aj∧al=[aw b [.slice p' r.length c',i64 e,vs] 213]):=by
 obtain⟨g,o,rfl,h0,h1,h2,h3⟩:=nI hl;(have ix:¬(((t::r).length:Nat):Int)=0:=by rw[bF];omega);have hn:=FA σ t.text hs;rw[h] at hn;refine cM Tryz.func178 ?_;refine px ?_;refine zG ?_;refine yC (hn) ?_;refine Jc ?_;refine zO rfl (X.Rd.rT (ae rfl) rfl (ae rfl) rfl rfl rfl aZ) ?_;refine bm ?_;exact bC rfl rfl ⟨rfl,_,_,xG hl,rfl,rfl⟩
theorem Ds (l:List Tk) (hl:bV 4 je σ (.slice p l.length c) l) (hs:∀t∈l,t.text.size≤maxLen) (h:∀t r,l=t::r→dW t.text=false):
 ah Tryz.prog 178 #[ptr b] σ [aw b [.slice p l.length c,i64 e,vs] 213] (na fun ch aj al=>ch=j4 (bD e l 5)∧σ=aj∧al=[aw b [.slice p l.length c,i64 e,vs] 213]):=by
 cases l with
 |nil=>
  refine cM Tryz.func178 ?_;refine jZ ?_;refine az.die rfl (pQ σ b p c e vs [] 5 hl) rfl ?_;rintro _ _ _ ⟨rfl,rfl,rfl⟩;refine DA.cl ?_;refine fL ?_;exact ao.panic zE ⟨rfl,rfl,rfl⟩
 |cons t r=>
  obtain⟨g,o,rfl,h0,h1,h2,h3⟩:=nI hl;(have ix:¬(((t::r).length:Nat):Int)=0:=by rw[bF];omega);have hn:=FA σ t.text (hs t aZ);rw[h t r rfl] at hn;refine cM Tryz.func178 ?_;refine px ?_;refine zG ?_;refine yC (hn) ?_;refine bg ?_;refine az.die rfl (pQ σ b _ c e vs (t::r) 5 hl) rfl ?_;rintro _ _ _ ⟨rfl,rfl,rfl⟩;refine DA.cl ?_;refine fL ?_;exact ao.panic zE ⟨rfl,rfl,rfl⟩
theorem kD (vl:List Va) (pv:Option Addr) (cv k:Nat) (t:Tk) (r:List Tk) (hv:bV 2 sB σ (.slice pv vl.length cv) vl) (hl:bV 4 je σ (.slice p (t::r).length c) (t::r)) (hs:t.text.size≤maxLen) (h:dW t.text=true) (hk:lq t.text vl 0=some k):
 ah Tryz.prog 210 #[ptr b] σ [aw b [.slice p (t::r).length c,i64 e,.slice pv vl.length cv] 213] (aA fun v aj al=>v=i64 k∧∃p' c',bV 4 je σ (.slice p' r.length c') r∧σ=aj∧al=[aw b [.slice p' r.length c',i64 e,.slice pv vl.length cv] 213]):=by
 (have hx:=fun g=>LA σ g t.text _ vl hv);rw[hk] at hx;refine cM Tryz.func210 ?_;refine dV ?_;refine zw rfl (ax.cE (Bz σ b p c e _ t r hl hs h) rfl) ?_;rintro _ _ _ ⟨_,⟨rfl,p',c',ux,rfl,rfl⟩,rfl⟩;refine az.cl ?_;refine di (fun g4=>?_) (ae rfl);refine bt ?_;refine zO rfl (Rd.nw xl) ?_;refine yC (hx _) ?_;refine aR ?_;refine XA.aI rfl (by first|rfl|exact aE (by show ¬((k:Int)<0);omega)) ?_;refine bt ?_;exact bC rfl rfl ⟨rfl,p',c',ux,rfl,rfl⟩
theorem jJ (pv:Option Addr) (nv cv:Nat) (l:List Tk) (hl:bV 4 je σ (.slice p l.length c) l) (hs:∀t∈l,t.text.size≤maxLen) (h:∀t r,l=t::r→dW t.text=false):
 ah Tryz.prog 210 #[ptr b] σ [aw b [.slice p l.length c,i64 e,vs] 213] (na fun ch aj al=>ch=j4 (bD e l 5)∧σ=aj∧al=[aw b [.slice p l.length c,i64 e,vs] 213]):=by
 refine cM Tryz.func210 ?_;refine dV ?_;refine az.die rfl (Ds σ b p c e vs l hl hs h) rfl ?_;rintro _ _ _ ⟨rfl,rfl,rfl⟩;refine DA.cl ?_;refine fL ?_;exact ao.panic zE ⟨rfl,rfl,rfl⟩
theorem jk (vl:List Va) (pv:Option Addr) (cv:Nat) (t:Tk) (r:List Tk) (hv:bV 2 sB σ (.slice pv vl.length cv) vl) (hl:bV 4 je σ (.slice p (t::r).length c) (t::r)) (hs:t.text.size≤maxLen) (h:dW t.text=true) (hk:lq t.text vl 0=none):
 ah Tryz.prog 210 #[ptr b] σ [aw b [.slice p (t::r).length c,i64 e,.slice pv vl.length cv] 213] (na fun ch aj al=>ch=j4 (bD e (t::r) 10)∧σ=aj∧al=[aw b [.slice p (t::r).length c,i64 e,.slice pv vl.length cv] 213]):=by
 (have hx:=fun g=>LA σ g t.text _ vl hv);rw[hk] at hx;refine cM Tryz.func210 ?_;refine dV ?_;refine zw rfl (ax.cE (Bz σ b p c e _ t r hl hs h) rfl) ?_;rintro _ _ _ ⟨_,⟨rfl,p',c',ux,rfl,rfl⟩,rfl⟩;refine az.cl ?_;refine di (fun g4=>?_) (ae rfl);refine bt ?_;refine zO rfl (Rd.nw xl) ?_;refine yC (hx _) ?_;refine px ?_;refine az.die rfl (pQ σ b _ c e _ (t::r) 10 hl) rfl ?_;rintro _ _ _ ⟨rfl,rfl,rfl⟩;refine DA.cl ?_;refine fL ?_;exact ao.panic zE ⟨rfl,rfl,rfl⟩
def Words (f:FuncId) (W:Int→ByteArray):Prop:=∀(σ:PH) (k:Int),ah Tryz.prog f #[i64 k] σ [] (aA fun v aj al=>v=.string (W k)∧σ=aj∧al=[])
theorem Hw (f:FuncId) (W:Int→ByteArray) (hf:Words f W) (most k0:Nat) (hm:most≤100) (t:Tk) (r:List Tk) (hl:bV 4 je σ (.slice p (t::r).length c) (t::r)) (h1:1≤k0) (h2:k0≤most) (h:ku (W k0) (t::r)=true) (aV:∀j:Nat,1≤j→j<k0→ku (W j) (t::r)=false):
 ah Tryz.prog 207 #[ptr b,i64 most,.func (.func f) #[] #[]] σ [aw b [.slice p (t::r).length c,i64 e,vs] 213] (aA fun v aj al=>v=i64 k0∧∃p' c',bV 4 je σ (.slice p' r.length c') r∧σ=aj∧al=[aw b [.slice p' r.length c',i64 e,vs] 213]):=by
 (refine lS Tryz.func207 ?_;refine bm ?_;refine XA.gen [(0,_),(1,_),(2,_),(6,_),(7,_)] iX fun δ=>?_);dsimp only[List.foldl];refine XA.loop [(6,18)] (fun k:Nat=>[(7,i64 k)]) (fun k aj al=>σ=aj∧1≤k∧k≤k0∧al=[aw b [.slice p (t::r).length c,i64 e,vs] 213]) (fun k=>k0-k) 1 eb (Δ0:=_) ?_ (⟨rfl,bX _,h1,rfl⟩) ?_
 ·exact zE
 rintro k δ _ _ ⟨rfl,uK,kP,rfl⟩;dsimp only[dq,List.foldl];have uK:1≤k:=uK;have kP:k≤k0:=kP;refine bJ ?_;refine iQ ?_;refine bt ?_;refine zw rfl (ax.cV (first:=[]) (cap:=[]) rfl (hf σ k) rfl) ?_;rintro _ _ _ ⟨_,⟨rfl,rfl,rfl⟩,rfl⟩;refine az.cl ?_;by_cases q:k=k0
 ·subst q;refine zw rfl (ax.cE (Bx σ b p c e vs t r (W k) hl h) rfl) ?_;rintro _ _ _ ⟨_,⟨rfl,p',c',ux,rfl,rfl⟩,rfl⟩;refine az.cl ?_;refine dh ?_;exact bC rfl rfl ⟨rfl,p',c',ux,rfl,rfl⟩
 ·skip;refine yC (Dq σ b p c e vs (t::r) (W k) hl (aV k uK ad)) ?_;refine bm ?_;refine⟨bQ,k+1,_,zM,?_,⟨rfl,by show 1≤k+1;omega,by show k+1≤k0;omega,rfl⟩,ad⟩
  ·exact zE
theorem Dt (f:FuncId) (W:Int→ByteArray) (hf:Words f W) (most:Nat) (hm:most≤100) (l:List Tk) (hl:bV 4 je σ (.slice p l.length c) l) (aV:∀j:Nat,1≤j→j≤most→ku (W j) l=false):
 ah Tryz.prog 207 #[ptr b,i64 most,.func (.func f) #[] #[]] σ [aw b [.slice p l.length c,i64 e,vs] 213] (na fun ch aj al=>ch=j4 (bD e l 5)∧σ=aj∧al=[aw b [.slice p l.length c,i64 e,vs] 213]):=by
 (refine lS Tryz.func207 ?_;refine bm ?_;refine XA.gen [(0,_),(1,_),(2,_),(6,_),(7,_)] iX fun δ=>?_);dsimp only[List.foldl];refine XA.loop [(6,18)] (fun k:Nat=>[(7,i64 k)]) (fun k aj al=>σ=aj∧1≤k∧k≤most+1∧al=[aw b [.slice p l.length c,i64 e,vs] 213]) (fun k=>most+1-k) 1 eb (Δ0:=_) ?_ (⟨rfl,bX _,ad,rfl⟩) ?_
 ·exact zE
 rintro k δ _ _ ⟨rfl,uK,kP,rfl⟩;dsimp only[dq,List.foldl];have uK:1≤k:=uK;have kP:k≤most+1:=kP;by_cases q:k≤most
 ·skip;refine bJ ?_;refine iQ ?_;refine bt ?_;refine zw rfl (ax.cV (first:=[]) (cap:=[]) rfl (hf σ k) rfl) ?_;rintro _ _ _ ⟨_,⟨rfl,rfl,rfl⟩,rfl⟩;refine az.cl ?_;refine yC (Dq σ b p c e vs l (W k) hl (aV k uK q)) ?_;refine bm ?_;refine⟨bQ,k+1,_,zM,?_,⟨rfl,by show 1≤k+1;omega,by show k+1≤most+1;omega,rfl⟩,ad⟩
  ·exact zE
 ·skip;refine bJ ?_;refine ik ?_;refine bJ ?_;refine az.die rfl (pQ σ b p c e vs l 5 hl) rfl ?_;rintro _ _ _ ⟨rfl,rfl,rfl⟩;refine DA.cl ?_;refine fL ?_;exact ao.panic zE ⟨rfl,rfl,rfl⟩
end
def rz (W:Int→ByteArray) (l:List Tk):Nat→Nat→Option Nat
 |0,_=>none
 |f+1,k=>if ku (W k) l=true then some k else rz W l f (k+1)
def iC (W:Int→ByteArray) (most:Nat) (l:List Tk):Option Nat:=rz W l most 1
theorem lY {W:Int→ByteArray} {l:List Tk} {k0:Nat}:∀(f k:Nat),rz W l f k=some k0→k≤k0∧k0<k+f∧ku (W k0) l=true∧∀j:Nat,k≤j→j<k0→ku (W j) l=false
 |0,k,h=>by cases h
 |f+1,k,h=>by
  rw[rz] at h;split at h
  ·rename_i hk;cases h;exact⟨bX _,ad,hk,fun j a b=>by omega⟩
  ·rename_i hk;obtain⟨a,b,c,d⟩:=lY f (k+1) h;refine⟨ad,ad,c,fun j x y=>?_⟩;by_cases q:j=k
   ·subst q;simpa using hk
   ·exact d j ad y
theorem rU {W:Int→ByteArray} {l:List Tk}:∀(f k:Nat),rz W l f k=none→∀j:Nat,k≤j→j<k+f→ku (W j) l=false
 |0,k,_,j,a,b=>by omega
 |f+1,k,h,j,a,b=>by
  rw[rz] at h;split at h
  ·cases h
  ·rename_i hk;by_cases q:j=k
   ·subst q;simpa using hk
   ·exact rU f (k+1) h j ad ad
theorem dv {w:ByteArray} {l:List Tk} (h:ku w l=true):∃t r,l=t::r:=by
 cases l with
 |nil=>cases h
 |cons t r=>exact⟨t,r,rfl⟩
abbrev lr:ByteArray:=⟨#[40]⟩
abbrev eD:ByteArray:=⟨#[41]⟩
abbrev PR (α:Type):=Except (Int×Int) (α×List Tk)
def dX {α:Type} (E:List Tk→PR α):Nat→List Tk→List α→PR (List α)
 |0,l,acc=>.ok (acc,l)
 |m+1,l,acc=>match E l with
  |.error x=>.error x
  |.ok (x,l1)=>dX E m l1 (acc++[x])
def gk (vl:List Va) (e:Int) (l:List Tk):PR Int:=match l with
 |t::r=>if dW t.text=true then match lq t.text vl 0 with
  |some i=>.ok ((i:Int),r)
  |none=>.error (bD e l 10)
  else .error (bD e l 5)
 |[]=>.error (bD e l 5)
def gM (e:Int) (l:List Tk):PR Int:=match l with
 |t::r=>if t.num=true then .ok (t.n,r) else .error (bD e l 5)
 |[]=>.error (bD e l 5)
def fH (vl:List Va) (e:Int) (k:Nat) (l:List Tk):PR (Int×Int):=
 if k=1 then match gM e l with|.error x=>.error x|.ok (n,r)=>.ok ((0,n),r)
 else if k=2∨k=3 then match gk vl e l with|.error x=>.error x|.ok (v,r)=>.ok ((v,0),r)
 else .ok ((0,0),l)
def cT {α:Type} (e:Int) (x:α) (l:List Tk):PR α:=if ku eD l=true then .ok (x,l.tail) else .error (bD e l 5)
def bL (vl:List Va) (e:Int):Nat→List Tk→PR Ex
 |0,l=>.error (bD e l 4)
 |f+1,l=>if ku lr l=true then match iC cS 8 l.tail with
  |none=>.error (bD e l.tail 5)
  |some k=>match fH vl e k l.tail.tail with
   |.error x=>.error x
   |.ok (vn,l3)=>match dX (bL vl e f) (partsOf k).toNat l3 [] with
    |.error x=>.error x
    |.ok (xs,l4)=>cT e (.mk k vn.1 vn.2 xs) l4
  else .error (bD e l 5)
theorem Al {α:Type} {E:List Tk→PR α} (hE:∀l x l',E l=.ok (x,l')→∀t∈l',t∈l):∀(m:Nat) (l:List Tk) (acc xs:List α) (l':List Tk),dX E m l acc=.ok (xs,l')→∀t∈l',t∈l
 |0,l,acc,xs,l',h,t,ht=>by cases h;exact ht
 |m+1,l,acc,xs,l',h,t,ht=>by
  rw[dX] at h
  cases q:E l with
  |error x=>rw[q] at h;cases h
  |ok y=>
   obtain⟨x,l1⟩:=y;rw[q] at h;exact hE l x l1 q t (Al hE m l1 _ xs l' h t ht)
theorem LB {e:Int} {l l':List Tk} {n:Int} (h:gM e l=.ok (n,l')):∀t∈l',t∈l:=by
 cases l with
 |nil=>cases h
 |cons t r=>
  rw[gM] at h;split at h
  ·cases h;exact fun x hx=>by simp[hx]
  ·cases h
theorem LC {vl:List Va} {e:Int} {l l':List Tk} {n:Int} (h:gk vl e l=.ok (n,l')):∀t∈l',t∈l:=by
 cases l with
 |nil=>cases h
 |cons t r=>
  rw[gk] at h;split at h
  ·split at h
   ·cases h;exact fun x hx=>by simp[hx]
   ·cases h
  ·cases h
theorem Jm {vl:List Va} {e:Int} {k:Nat} {l l':List Tk} {vn:Int×Int} (h:fH vl e k l=.ok (vn,l')):∀t∈l',t∈l:=by
 rw[fH] at h;split at h
 ·cases q:gM e l with
  |error x=>rw[q] at h;cases h
  |ok y=>obtain⟨n,r⟩:=y;rw[q] at h;cases h;exact LB q
 ·split at h
  ·cases q:gk vl e l with
   |error x=>rw[q] at h;cases h
   |ok y=>obtain⟨n,r⟩:=y;rw[q] at h;cases h;exact LC q
  ·cases h;exact fun t ht=>ht
theorem tc {α:Type} {l:List α} {t:α} (h:t∈l.tail):t∈l:=List.mem_of_mem_tail h
theorem FH {α:Type} {e:Int} {x y:α} {l l':List Tk} (h:cT e x l=.ok (y,l')):∀t∈l',t∈l:=by
 rw[cT] at h;split at h
 ·cases h;exact fun t ht=>tc ht
 ·cases h
theorem nJ {vl:List Va} {e:Int}:∀(f:Nat) (l:List Tk) (x:Ex) (l':List Tk),bL vl e f l=.ok (x,l')→∀t∈l',t∈l
 |0,l,x,l',h=>by cases h
 |f+1,l,x,l',h=>by
  rw[bL] at h;split at h
  ·cases hk:iC cS 8 l.tail with
   |none=>rw[hk] at h;cases h
   |some k=>
    rw[hk] at h;simp only at h
    cases hh:fH vl e k l.tail.tail with
    |error x=>rw[hh] at h;cases h
    |ok y=>
     obtain⟨vn,l3⟩:=y;rw[hh] at h;simp only at h
     cases hs:dX (bL vl e f) (partsOf k).toNat l3 [] with
     |error x=>rw[hs] at h;cases h
     |ok z=>
      obtain⟨xs,l4⟩:=z;rw[hs] at h;simp only at h;intro t ht;exact tc (tc (Jm hh t (Al (nJ f) _ _ _ _ _ hs t (FH h t ht))))
  ·cases h
theorem oB {s:ByteArray}:∀(l:List Va) (k i:Nat),lq s l k=some i→k≤i∧i<k+l.length
 |[],k,i,h=>by cases h
 |v::r,k,i,h=>by
  rw[lq] at h;split at h
  ·cases h;exact⟨bX _,aZ⟩
  ·have:=oB r (k+1) i h;simp only[bF];omega
def lH (t:Tk):Prop:=t.text.size≤maxLen∧aG t.n
def Ps (Q:Value→PH→List HP→Prop) (D:List PanicEntry→PH→List HP→Prop):Ending→PH→List HP→Prop
 |.returned v,σ,Γ=>Q v σ Γ
 |.panicked c,σ,Γ=>D c σ Γ
 |_,_,_=>False
set_option maxRecDepth 4000
def td (vl:List Va) (e:Int) (f:Nat):Prop:=∀(σ:PH) (b:Nat) (p:Option Addr) (c:Nat) (pv:Option Addr) (cv:Nat) (l:List Tk) (d:Int),bV 2 sB σ (.slice pv vl.length cv) vl→bV 4 je σ (.slice p l.length c) l→(∀t∈l,lH t)→d+f=13→0≤d→
 ah Tryz.prog 211 #[ptr b,i64 d] σ [aw b [.slice p l.length c,i64 e,.slice pv vl.length cv] 213] (Ps
  (fun v aj al=>∃x l',bL vl e f l=.ok (x,l')∧∃cs p' c',v=.agg (List.toArray cs)∧dL aj cs x∧bV 4 je aj (.slice p' l'.length c') l'∧σ.sub aj∧al=[aw b [.slice p' l'.length c',i64 e,.slice pv vl.length cv] 213])
  (fun ch aj al=>∃x,bL vl e f l=.error x∧ch=j4 x∧σ.sub aj∧∃cs,al=[aw b cs 213]))
theorem td.ok {vl:List Va} {e:Int} {f:Nat} (h:td vl e f) {σ:PH} {b:Nat} {p:Option Addr} {c:Nat} {pv:Option Addr} {cv:Nat} {l:List Tk} {d:Int} (hv:bV 2 sB σ (.slice pv vl.length cv) vl) (hl:bV 4 je σ (.slice p l.length c) l) (hF:∀t∈l,lH t) (hd:d+f=13) (xu:0≤d) {x:Ex} {l':List Tk} (ho:bL vl e f l=.ok (x,l')):
 ah Tryz.prog 211 #[ptr b,i64 d] σ [aw b [.slice p l.length c,i64 e,.slice pv vl.length cv] 213] (aA fun v aj al=>∃cs p' c',v=.agg (List.toArray cs)∧dL aj cs x∧bV 4 je aj (.slice p' l'.length c') l'∧σ.sub aj∧al=[aw b [.slice p' l'.length c',i64 e,.slice pv vl.length cv] 213]):=by
 refine(h σ b p c pv cv l d hv hl hF hd xu).mono fun en aj al hr=>?_
 cases en with
 |returned v=>
  obtain⟨x',SZ,h1,h2⟩:=hr;rw[ho] at h1;cases h1;exact h2
 |panicked ch=>obtain⟨x',h1,-⟩:=hr;rw[ho] at h1;cases h1
 |outgrown=>exact False.elim hr
theorem td.bad {vl:List Va} {e:Int} {f:Nat} (h:td vl e f) {σ:PH} {b:Nat} {p:Option Addr} {c:Nat} {pv:Option Addr} {cv:Nat} {l:List Tk} {d:Int} (hv:bV 2 sB σ (.slice pv vl.length cv) vl) (hl:bV 4 je σ (.slice p l.length c) l) (hF:∀t∈l,lH t) (hd:d+f=13) (xu:0≤d) {x:Int×Int} (ho:bL vl e f l=.error x):
 ah Tryz.prog 211 #[ptr b,i64 d] σ [aw b [.slice p l.length c,i64 e,.slice pv vl.length cv] 213] (na fun ch aj al=>ch=j4 x∧σ.sub aj∧∃cs,al=[aw b cs 213]):=by
 refine(h σ b p c pv cv l d hv hl hF hd xu).mono fun en aj al hr=>?_
 cases en with
 |returned v=>obtain⟨x',SZ,h1,-⟩:=hr;rw[ho] at h1;cases h1
 |panicked ch=>
  obtain⟨x',h1,h2⟩:=hr;rw[ho] at h1;cases h1;exact h2
 |outgrown=>exact False.elim hr
theorem tf {e:Int} {l:List Tk} {x:Int×Int} (h:gM e l=.error x):x=bD e l 5∧∀t r,l=t::r→t.num=false:=by
 cases l with
 |nil=>cases h;exact⟨rfl,fun t r q=>by cases q⟩
 |cons t r=>
  rw[gM] at h;split at h
  ·cases h
  ·rename_i hn;cases h;exact⟨rfl,fun t' r' q=>by cases q;simpa using hn⟩
theorem oC {e:Int} {l l':List Tk} {n:Int} (h:gM e l=.ok (n,l')):∃t,l=t::l'∧t.num=true∧t.n=n:=by
 cases l with
 |nil=>cases h
 |cons t r=>
  rw[gM] at h;split at h
  ·rename_i hn;cases h;exact⟨t,rfl,hn,rfl⟩
  ·cases h
theorem lZ {vl:List Va} {e:Int} {l:List Tk} {x:Int×Int} (h:gk vl e l=.error x):(x=bD e l 5∧∀t r,l=t::r→dW t.text=false)∨∃t r,l=t::r∧x=bD e (t::r) 10∧dW t.text=true∧lq t.text vl 0=none:=by
 cases l with
 |nil=>cases h;exact .inl ⟨rfl,fun t r q=>by cases q⟩
 |cons t r=>
  rw[gk] at h;split at h
  ·rename_i hn
   cases hi:lq t.text vl 0 with
   |some i=>rw[hi] at h;cases h
   |none=>rw[hi] at h;cases h;exact .inr ⟨t,r,rfl,rfl,hn,hi⟩
  ·rename_i hn;cases h;exact .inl ⟨rfl,fun t' r' q=>by cases q;simpa using hn⟩
theorem oD {vl:List Va} {e:Int} {l l':List Tk} {v:Int} (h:gk vl e l=.ok (v,l')):∃t i,l=t::l'∧v=((i:Nat):Int)∧dW t.text=true∧lq t.text vl 0=some i:=by
 cases l with
 |nil=>cases h
 |cons t r=>
  rw[gk] at h;split at h
  ·rename_i hn
   cases hi:lq t.text vl 0 with
   |some i=>rw[hi] at h;cases h;exact⟨t,i,rfl,rfl,hn,hi⟩
   |none=>rw[hi] at h;cases h
  ·cases h
theorem l9 (k:Int):partsOf k≤2:=by rw[partsOf];split;(decide);split;(decide);split<;>decide
theorem oE {k:Int} (h1:1≤k) (h2:k≤8):0≤partsOf k:=by
 rw[partsOf];split;(decide);split;(decide);rw[aq ad];decide
theorem X.bV.jK {α:Type} {s n c:Nat} {R:RT α} {σ:PH} {p:Option Addr} {xs:List α} (h:bV s R σ (.slice p n c) xs):xs.length≤9223372036854775807:=by
 obtain⟨p',c',-,h1,h2⟩:=h.shape;simp only[maxLen] at h2;omega
theorem ka (vl:List Va) (e:Int):∀f:Nat,td vl e f
 |0=>by
  intro σ b p c pv cv l d hv hl hF hd xu;(have hd:d=13:=by simpa using hd);subst hd;refine cw Tryz.func211 ?_;refine aU ?_;refine di (fun g4=>?_) (ae rfl);refine a8 ?_;refine az.die rfl (Dr σ b p c e _ 13 l hl au) rfl ?_;rintro _ _ _ ⟨rfl,rfl,rfl⟩;refine DA.cl ?_;refine fL ?_;exact ao.panic zE ⟨_,rfl,rfl,.refl _,_,rfl⟩
 |f+1=>by
  intro σ b p c pv cv l d hv hl hF hd xu;have ih:=ka vl e f;(have Cy:d≤12:=by omega);(have E6:-9223372036854775808≤d+1:=by omega);obtain⟨R,hR⟩:∃R,bL vl e (f+1) l=R:=⟨_,rfl⟩;have jE:=hR;rw[bL] at hR;refine cw Tryz.func211 ?_;refine aU ?_;refine di (fun g4=>?_) (ae rfl);refine a8 ?_;refine yC (Hu σ b d _ Cy) ?_;refine dc ?_
  cases hq:ku lr l with
  |false=>
   rw[ag (by rw[hq];exact Bool.noConfusion)] at hR;refine az.die rfl (fU σ b p c e _ l lr hl hq) rfl ?_;rintro _ _ _ ⟨rfl,rfl,rfl⟩;refine DA.cl ?_;refine fL ?_;exact ao.panic zE ⟨_,jE.trans hR.symm,rfl,.refl _,_,rfl⟩
  |true=>
   obtain⟨t1,l1,rfl⟩:=dv hq;rw[aq hq,List.tail_cons] at hR;refine zw rfl (ax.cE (iq σ b p c e _ t1 l1 lr hl hq) rfl) ?_;rintro _ _ _ ⟨_,⟨rfl,p1,c1,BA,rfl,rfl⟩,rfl⟩;refine az.cl ?_;refine dc ?_
   cases hk:iC cS 8 l1 with
   |none=>
    rw[hk] at hR;refine az.die rfl (Dt σ b p1 c1 e _ 230 cS Ly 8 au l1 BA (fun j a b=>rU 8 1 hk j a ad)) rfl ?_;rintro _ _ _ ⟨rfl,rfl,rfl⟩;refine DA.cl ?_;refine fL ?_;exact ao.panic zE ⟨_,jE.trans hR.symm,rfl,.refl _,_,rfl⟩
   |some k=>
    rw[hk] at hR;simp only at hR;obtain⟨k1,k2,k3,k4⟩:=lY 8 1 hk;(have k2:k≤8:=by omega);obtain⟨t2,l2,rfl⟩:=dv k3;rw[List.tail_cons] at hR;(have ng:∀t∈l2,lH t:=fun t ht=>hF t (by simp[ht]));refine zw rfl (ax.cE (Hw σ b p1 c1 e _ 230 cS Ly 8 k au t2 l2 BA k1 k2 k3 k4) rfl) ?_;rintro _ _ _ ⟨_,⟨rfl,p2,c2,nh,rfl,rfl⟩,rfl⟩;refine az.cl ?_;refine bS ?_;refine di (fun g5=>?_) (ae rfl);refine dV ?_;by_cases q1:k=1
    ·subst q1;rw[fH,aq rfl] at hR;refine cx ?_
     cases hn:gM e l2 with
     |error x=>
      rw[hn] at hR;simp only at hR;have hx:x=bD e l2 5∧∀t r,l2=t::r→t.num=false:=tf hn;obtain⟨rfl,hx⟩:=hx;refine az.die rfl (Hv σ b p2 c2 e _ l2 nh hx) rfl ?_;rintro _ _ _ ⟨rfl,rfl,rfl⟩;refine DA.cl ?_;refine fL ?_;exact ao.panic zE ⟨_,jE.trans hR.symm,rfl,.refl _,_,rfl⟩
     |ok y=>
      obtain⟨n3,l3⟩:=y;rw[hn] at hR;simp only at hR;obtain⟨t3,rfl,h3,rfl⟩:=oC hn;(have LD:∀t∈l3,lH t:=fun t ht=>ng t (by simp[ht]));refine zw rfl (ax.cE (By σ b p2 c2 e _ t3 l3 nh h3) rfl) ?_;rintro _ _ _ ⟨_,⟨rfl,p3,c3,Kx,rfl,rfl⟩,rfl⟩;refine az.cl ?_;refine aR ?_;refine yC (ox σ ((1:Nat):Int)) ?_;refine bY ?_;obtain⟨m,hm⟩:∃m:Nat,partsOf ((1:Nat):Int)=m:=⟨(partsOf ((1:Nat):Int)).toNat,by have:=oE (k:=((1:Nat):Int)) ad ad;omega⟩;(have Zj:m≤2:=by have:=l9 ((1:Nat):Int);omega);rw[hm] at hR⊢;rw[Int.toNat_natCast] at hR;obtain⟨S,hS⟩:∃S,dX (bL vl e f) m l3 []=S:=⟨_,rfl⟩;rw[hS] at hR;(refine XA.gen [(0,_),(1,_),(4,_),(5,_),(29,_),(30,_)] iX fun δ=>?_);dsimp only[List.foldl];refine XA.loop [(30,41)] (fun i:Nat=>[(30,i64 i)]) (fun i aj al=>σ.sub aj∧i≤m∧∃(lc:List Tk) (acc:List Ex) (pp:Option Addr) (pc:Nat) (pl:Option Addr) (cl:Nat) (rows:List (List Value)),S=dX (bL vl e f) (m-i) lc acc∧(∀t∈lc,lH t)∧acc.length=i∧bV 4 je aj (.slice pp lc.length pc) lc∧cN 4 dL aj rows acc∧al=[aS 138 4 (.slice pl i cl) i rows.flatten,aw g5 [i64 ((1:Nat):Int),i64 0,i64 t3.n,.slice pl i cl] 138,aw b [.slice pp lc.length pc,i64 e,.slice pv vl.length cv] 213,aw g4 CX.zero 138]) (fun i=>m-i) 0 eb (Δ0:=_) ?_ (⟨.refl _,cg _,l3,[],p3,c3,none,0,[],hS.symm,LD,rfl,Kx,cN.nil _ _ _,rfl⟩) ?_
      ·exact zE
      rintro i δ cO _ ⟨bz,hi,lc,acc,pp,pc,pl,cl,rows,oF,y4,dr,rh,ep,rfl⟩;dsimp only[dq,List.foldl];have hi:i≤m:=hi;have mK:=hv.mono bz (fun _ _ h=>h);by_cases aV:i<m
      ·obtain⟨j,hj⟩:∃j,m-i=j+1:=⟨m-i-1,ad⟩;rw[hj,dX] at oF
       cases hx:bL vl e f lc with
       |error x=>
        rw[hx] at oF;simp only at oF;rw[oF] at hR;refine a8 ?_;refine iQ ?_;refine bY ?_;refine et 10 45687 [7,9] (ar.bB (R:=aw g5 _ _) zL (ar.nil _)) ?_;refine dc ?_;refine aP.die rfl rfl Gd.free (ih.bad mK rh y4 ad ad hx) rfl ?_;rintro _ cL _ ⟨rfl,bT,wh,rfl⟩;refine DA.cl ?_;refine fL ?_;exact ao.panic zE ⟨_,jE.trans hR.symm,rfl,bz.trans bT,_,rfl⟩
       |ok y=>
        obtain⟨x,l'⟩:=y;rw[hx] at oF;simp only at oF;refine a8 ?_;refine iQ ?_;refine bY ?_;refine et 10 45687 [7,9] (ar.bB (R:=aw g5 _ _) zL (ar.nil _)) ?_;refine dc ?_;refine aP.fw rfl rfl Gd.free (ax.cE (ih.ok mK rh y4 ad ad hx) rfl) ?_;rintro _ cL _ ⟨_,⟨wh,p',c',rfl,ju,ux,bT,rfl⟩,rfl⟩;refine stays (aP.cl ?_);have rV:=ju.len;have tg:=ju.dT;refine aP.fw rfl rfl Gd.free (ax.jY (ae rfl) rfl (ae rfl)) ?_;rintro _ _ _ ⟨g38,rfl,rfl,rfl⟩;refine stays ?_;refine aP.b7 rfl rfl Gd.free aC (ax.kM (ae rfl) rfl (ae rfl) rfl rfl rfl) ?_;rintro _ _ _ ⟨S0,S1,rfl,rfl,rfl⟩;refine bS ?_;refine kS rfl (ax.st (ae rfl) rfl) ?_;refine bJ ?_;have eR:cN 4 dL cL (rows++[wh]) (acc++[x]):=(ep.mono (fun _ _ h=>h.mono bT)).snoc rV ju;refine⟨bQ,i+1,_,zM,?_,⟨bz.trans bT,aV,l',acc++[x],p',c',S0,S1,rows++[wh],(by rw[oF,show m-(i+1)=j by omega]),(fun t ht=>y4 t (nJ f _ _ _ hx t ht)),(by rw[bq,dr];rfl),ux,eR,rfl⟩,ad⟩
        ·rw[k6];exact zE
      ·(have CB:i=m:=by omega);subst CB;rw[Nat.sub_self,dX] at oF;rw[oF] at hR;simp only at hR;rw[cT] at hR;refine a8 ?_;refine ik ?_;refine bJ ?_
       cases hc:ku eD lc with
       |false=>
        rw[ag (by rw[hc];exact Bool.noConfusion)] at hR;refine az.die rfl (fU cO b pp pc e _ lc eD rh hc) rfl ?_;rintro _ _ _ ⟨rfl,rfl,rfl⟩;refine DA.cl ?_;refine fL ?_;exact ao.panic zE ⟨_,jE.trans hR.symm,rfl,bz,_,rfl⟩
       |true=>
        obtain⟨t4,l4,rfl⟩:=dv hc;rw[aq hc,List.tail_cons] at hR;refine zw rfl (ax.cE (iq cO b pp pc e _ t4 l4 eD rh hc) rfl) ?_;rintro _ _ _ ⟨_,⟨rfl,p5,c5,Ky,rfl,rfl⟩,rfl⟩;refine az.cl ?_;refine bt ?_;refine DA.mX (R:=aS 138 4 _ _ _) zL cm aH ?_;rintro fZ ⟨⟩ hf cQ;have gG:dL fZ [i64 ((1:Nat):Int),i64 0,i64 t3.n,.slice pl i cl] (.mk ((1:Nat):Int) 0 t3.n acc):=dL.of ⟨ad,ad⟩ ⟨au,au⟩ (ng t3 aZ).2 ((ep.mono (fun _ _ h=>h.mono cQ)).Cx dr.symm hf);exact ao.ret (aB.cell rfl rfl (Ld.bn (ae rfl) rfl zL rfl cK cJ)) zE ⟨_,l4,jE.trans hR.symm,_,p5,c5,rfl,gG,Ky.mono cQ (fun _ _ h=>h),bz.trans cQ,rfl⟩
    by_cases q2:k=2
    ·subst q2;rw[fH,ag au,aq au] at hR;refine eA ?_
     cases hn:gk vl e l2 with
     |error x=>
      rw[hn] at hR;simp only at hR;rcases lZ hn with ⟨rfl,hx⟩|⟨t3,l3,rfl,rfl,hx,hy⟩
      ·skip;refine az.die rfl (jJ σ b p2 c2 e _ pv vl.length cv l2 nh (fun t ht=>(ng t ht).1) hx) rfl ?_;rintro _ _ _ ⟨rfl,rfl,rfl⟩;refine DA.cl ?_;refine fL ?_;exact ao.panic zE ⟨_,jE.trans hR.symm,rfl,.refl _,_,rfl⟩
      ·skip;refine az.die rfl (jk σ b p2 c2 e vl pv cv t3 l3 hv nh (ng t3 aZ).1 hx hy) rfl ?_;rintro _ _ _ ⟨rfl,rfl,rfl⟩;refine DA.cl ?_;refine fL ?_;exact ao.panic zE ⟨_,jE.trans hR.symm,rfl,.refl _,_,rfl⟩
     |ok y=>
      obtain⟨v3,l3⟩:=y;rw[hn] at hR;simp only at hR;obtain⟨t3,i3,rfl,rfl,h3,h4⟩:=oD hn;(have LD:∀t∈l3,lH t:=fun t ht=>ng t (by simp[ht]));have Jn:=oB _ _ _ h4;have Hf:=hv.jK;refine zw rfl (ax.cE (kD σ b p2 c2 e vl pv cv i3 t3 l3 hv nh (ng t3 aZ).1 h3 h4) rfl) ?_;rintro _ _ _ ⟨_,⟨rfl,p3,c3,Kx,rfl,rfl⟩,rfl⟩;refine az.cl ?_;refine aR ?_;refine yC (ox σ ((2:Nat):Int)) ?_;refine bY ?_;obtain⟨m,hm⟩:∃m:Nat,partsOf ((2:Nat):Int)=m:=⟨(partsOf ((2:Nat):Int)).toNat,by have:=oE (k:=((2:Nat):Int)) ad ad;omega⟩;(have Zj:m≤2:=by have:=l9 ((2:Nat):Int);omega);rw[hm] at hR⊢;rw[Int.toNat_natCast] at hR;obtain⟨S,hS⟩:∃S,dX (bL vl e f) m l3 []=S:=⟨_,rfl⟩;rw[hS] at hR;(refine XA.gen [(0,_),(1,_),(4,_),(5,_),(29,_),(30,_)] iX fun δ=>?_);dsimp only[List.foldl];refine XA.loop [(30,41)] (fun i:Nat=>[(30,i64 i)]) (fun i aj al=>σ.sub aj∧i≤m∧∃(lc:List Tk) (acc:List Ex) (pp:Option Addr) (pc:Nat) (pl:Option Addr) (cl:Nat) (rows:List (List Value)),S=dX (bL vl e f) (m-i) lc acc∧(∀t∈lc,lH t)∧acc.length=i∧bV 4 je aj (.slice pp lc.length pc) lc∧cN 4 dL aj rows acc∧al=[aS 138 4 (.slice pl i cl) i rows.flatten,aw g5 [i64 ((2:Nat):Int),i64 (i3:Int),i64 0,.slice pl i cl] 138,aw b [.slice pp lc.length pc,i64 e,.slice pv vl.length cv] 213,aw g4 CX.zero 138]) (fun i=>m-i) 0 eb (Δ0:=_) ?_ (⟨.refl _,cg _,l3,[],p3,c3,none,0,[],hS.symm,LD,rfl,Kx,cN.nil _ _ _,rfl⟩) ?_
      ·exact zE
      rintro i δ cO _ ⟨bz,hi,lc,acc,pp,pc,pl,cl,rows,oF,y4,dr,rh,ep,rfl⟩;dsimp only[dq,List.foldl];have hi:i≤m:=hi;have mK:=hv.mono bz (fun _ _ h=>h);by_cases aV:i<m
      ·obtain⟨j,hj⟩:∃j,m-i=j+1:=⟨m-i-1,ad⟩;rw[hj,dX] at oF
       cases hx:bL vl e f lc with
       |error x=>
        rw[hx] at oF;simp only at oF;rw[oF] at hR;refine a8 ?_;refine iQ ?_;refine bY ?_;refine et 10 45687 [7,9] (ar.bB (R:=aw g5 _ _) zL (ar.nil _)) ?_;refine dc ?_;refine aP.die rfl rfl Gd.free (ih.bad mK rh y4 ad ad hx) rfl ?_;rintro _ cL _ ⟨rfl,bT,wh,rfl⟩;refine DA.cl ?_;refine fL ?_;exact ao.panic zE ⟨_,jE.trans hR.symm,rfl,bz.trans bT,_,rfl⟩
       |ok y=>
        obtain⟨x,l'⟩:=y;rw[hx] at oF;simp only at oF;refine a8 ?_;refine iQ ?_;refine bY ?_;refine et 10 45687 [7,9] (ar.bB (R:=aw g5 _ _) zL (ar.nil _)) ?_;refine dc ?_;refine aP.fw rfl rfl Gd.free (ax.cE (ih.ok mK rh y4 ad ad hx) rfl) ?_;rintro _ cL _ ⟨_,⟨wh,p',c',rfl,ju,ux,bT,rfl⟩,rfl⟩;refine stays (aP.cl ?_);have rV:=ju.len;have tg:=ju.dT;refine aP.fw rfl rfl Gd.free (ax.jY (ae rfl) rfl (ae rfl)) ?_;rintro _ _ _ ⟨g38,rfl,rfl,rfl⟩;refine stays ?_;refine aP.b7 rfl rfl Gd.free aC (ax.kM (ae rfl) rfl (ae rfl) rfl rfl rfl) ?_;rintro _ _ _ ⟨S0,S1,rfl,rfl,rfl⟩;refine bS ?_;refine kS rfl (ax.st (ae rfl) rfl) ?_;refine bJ ?_;have eR:cN 4 dL cL (rows++[wh]) (acc++[x]):=(ep.mono (fun _ _ h=>h.mono bT)).snoc rV ju;refine⟨bQ,i+1,_,zM,?_,⟨bz.trans bT,aV,l',acc++[x],p',c',S0,S1,rows++[wh],(by rw[oF,show m-(i+1)=j by omega]),(fun t ht=>y4 t (nJ f _ _ _ hx t ht)),(by rw[bq,dr];rfl),ux,eR,rfl⟩,ad⟩
        ·rw[k6];exact zE
      ·(have CB:i=m:=by omega);subst CB;rw[Nat.sub_self,dX] at oF;rw[oF] at hR;simp only at hR;rw[cT] at hR;refine a8 ?_;refine ik ?_;refine bJ ?_
       cases hc:ku eD lc with
       |false=>
        rw[ag (by rw[hc];exact Bool.noConfusion)] at hR;refine az.die rfl (fU cO b pp pc e _ lc eD rh hc) rfl ?_;rintro _ _ _ ⟨rfl,rfl,rfl⟩;refine DA.cl ?_;refine fL ?_;exact ao.panic zE ⟨_,jE.trans hR.symm,rfl,bz,_,rfl⟩
       |true=>
        obtain⟨t4,l4,rfl⟩:=dv hc;rw[aq hc,List.tail_cons] at hR;refine zw rfl (ax.cE (iq cO b pp pc e _ t4 l4 eD rh hc) rfl) ?_;rintro _ _ _ ⟨_,⟨rfl,p5,c5,Ky,rfl,rfl⟩,rfl⟩;refine az.cl ?_;refine bt ?_;refine DA.mX (R:=aS 138 4 _ _ _) zL cm aH ?_;rintro fZ ⟨⟩ hf cQ;have gG:dL fZ [i64 ((2:Nat):Int),i64 (i3:Int),i64 0,.slice pl i cl] (.mk ((2:Nat):Int) (i3:Int) 0 acc):=dL.of ⟨ad,ad⟩ ⟨ad,ad⟩ ⟨au,au⟩ ((ep.mono (fun _ _ h=>h.mono cQ)).Cx dr.symm hf);exact ao.ret (aB.cell rfl rfl (Ld.bn (ae rfl) rfl zL rfl cK cJ)) zE ⟨_,l4,jE.trans hR.symm,_,p5,c5,rfl,gG,Ky.mono cQ (fun _ _ h=>h),bz.trans cQ,rfl⟩
    by_cases q3:k=3
    ·subst q3;rw[fH,ag au,aq au] at hR;refine dV ?_
     cases hn:gk vl e l2 with
     |error x=>
      rw[hn] at hR;simp only at hR;rcases lZ hn with ⟨rfl,hx⟩|⟨t3,l3,rfl,rfl,hx,hy⟩
      ·skip;refine az.die rfl (jJ σ b p2 c2 e _ pv vl.length cv l2 nh (fun t ht=>(ng t ht).1) hx) rfl ?_;rintro _ _ _ ⟨rfl,rfl,rfl⟩;refine DA.cl ?_;refine fL ?_;exact ao.panic zE ⟨_,jE.trans hR.symm,rfl,.refl _,_,rfl⟩
      ·skip;refine az.die rfl (jk σ b p2 c2 e vl pv cv t3 l3 hv nh (ng t3 aZ).1 hx hy) rfl ?_;rintro _ _ _ ⟨rfl,rfl,rfl⟩;refine DA.cl ?_;refine fL ?_;exact ao.panic zE ⟨_,jE.trans hR.symm,rfl,.refl _,_,rfl⟩
     |ok y=>
      obtain⟨v3,l3⟩:=y;rw[hn] at hR;simp only at hR;obtain⟨t3,i3,rfl,rfl,h3,h4⟩:=oD hn;(have LD:∀t∈l3,lH t:=fun t ht=>ng t (by simp[ht]));have Jn:=oB _ _ _ h4;have Hf:=hv.jK;refine zw rfl (ax.cE (kD σ b p2 c2 e vl pv cv i3 t3 l3 hv nh (ng t3 aZ).1 h3 h4) rfl) ?_;rintro _ _ _ ⟨_,⟨rfl,p3,c3,Kx,rfl,rfl⟩,rfl⟩;refine az.cl ?_;refine aR ?_;refine yC (ox σ ((3:Nat):Int)) ?_;refine bY ?_;obtain⟨m,hm⟩:∃m:Nat,partsOf ((3:Nat):Int)=m:=⟨(partsOf ((3:Nat):Int)).toNat,by have:=oE (k:=((3:Nat):Int)) ad ad;omega⟩;(have Zj:m≤2:=by have:=l9 ((3:Nat):Int);omega);rw[hm] at hR⊢;rw[Int.toNat_natCast] at hR;obtain⟨S,hS⟩:∃S,dX (bL vl e f) m l3 []=S:=⟨_,rfl⟩;rw[hS] at hR;(refine XA.gen [(0,_),(1,_),(4,_),(5,_),(29,_),(30,_)] iX fun δ=>?_);dsimp only[List.foldl];refine XA.loop [(30,41)] (fun i:Nat=>[(30,i64 i)]) (fun i aj al=>σ.sub aj∧i≤m∧∃(lc:List Tk) (acc:List Ex) (pp:Option Addr) (pc:Nat) (pl:Option Addr) (cl:Nat) (rows:List (List Value)),S=dX (bL vl e f) (m-i) lc acc∧(∀t∈lc,lH t)∧acc.length=i∧bV 4 je aj (.slice pp lc.length pc) lc∧cN 4 dL aj rows acc∧al=[aS 138 4 (.slice pl i cl) i rows.flatten,aw g5 [i64 ((3:Nat):Int),i64 (i3:Int),i64 0,.slice pl i cl] 138,aw b [.slice pp lc.length pc,i64 e,.slice pv vl.length cv] 213,aw g4 CX.zero 138]) (fun i=>m-i) 0 eb (Δ0:=_) ?_ (⟨.refl _,cg _,l3,[],p3,c3,none,0,[],hS.symm,LD,rfl,Kx,cN.nil _ _ _,rfl⟩) ?_
      ·exact zE
      rintro i δ cO _ ⟨bz,hi,lc,acc,pp,pc,pl,cl,rows,oF,y4,dr,rh,ep,rfl⟩;dsimp only[dq,List.foldl];have hi:i≤m:=hi;have mK:=hv.mono bz (fun _ _ h=>h);by_cases aV:i<m
      ·obtain⟨j,hj⟩:∃j,m-i=j+1:=⟨m-i-1,ad⟩;rw[hj,dX] at oF
       cases hx:bL vl e f lc with
       |error x=>
        rw[hx] at oF;simp only at oF;rw[oF] at hR;refine a8 ?_;refine iQ ?_;refine bY ?_;refine et 10 45687 [7,9] (ar.bB (R:=aw g5 _ _) zL (ar.nil _)) ?_;refine dc ?_;refine aP.die rfl rfl Gd.free (ih.bad mK rh y4 ad ad hx) rfl ?_;rintro _ cL _ ⟨rfl,bT,wh,rfl⟩;refine DA.cl ?_;refine fL ?_;exact ao.panic zE ⟨_,jE.trans hR.symm,rfl,bz.trans bT,_,rfl⟩
       |ok y=>
        obtain⟨x,l'⟩:=y;rw[hx] at oF;simp only at oF;refine a8 ?_;refine iQ ?_;refine bY ?_;refine et 10 45687 [7,9] (ar.bB (R:=aw g5 _ _) zL (ar.nil _)) ?_;refine dc ?_;refine aP.fw rfl rfl Gd.free (ax.cE (ih.ok mK rh y4 ad ad hx) rfl) ?_;rintro _ cL _ ⟨_,⟨wh,p',c',rfl,ju,ux,bT,rfl⟩,rfl⟩;refine stays (aP.cl ?_);have rV:=ju.len;have tg:=ju.dT;refine aP.fw rfl rfl Gd.free (ax.jY (ae rfl) rfl (ae rfl)) ?_;rintro _ _ _ ⟨g38,rfl,rfl,rfl⟩;refine stays ?_;refine aP.b7 rfl rfl Gd.free aC (ax.kM (ae rfl) rfl (ae rfl) rfl rfl rfl) ?_;rintro _ _ _ ⟨S0,S1,rfl,rfl,rfl⟩;refine bS ?_;refine kS rfl (ax.st (ae rfl) rfl) ?_;refine bJ ?_;have eR:cN 4 dL cL (rows++[wh]) (acc++[x]):=(ep.mono (fun _ _ h=>h.mono bT)).snoc rV ju;refine⟨bQ,i+1,_,zM,?_,⟨bz.trans bT,aV,l',acc++[x],p',c',S0,S1,rows++[wh],(by rw[oF,show m-(i+1)=j by omega]),(fun t ht=>y4 t (nJ f _ _ _ hx t ht)),(by rw[bq,dr];rfl),ux,eR,rfl⟩,ad⟩
        ·rw[k6];exact zE
      ·(have CB:i=m:=by omega);subst CB;rw[Nat.sub_self,dX] at oF;rw[oF] at hR;simp only at hR;rw[cT] at hR;refine a8 ?_;refine ik ?_;refine bJ ?_
       cases hc:ku eD lc with
       |false=>
        rw[ag (by rw[hc];exact Bool.noConfusion)] at hR;refine az.die rfl (fU cO b pp pc e _ lc eD rh hc) rfl ?_;rintro _ _ _ ⟨rfl,rfl,rfl⟩;refine DA.cl ?_;refine fL ?_;exact ao.panic zE ⟨_,jE.trans hR.symm,rfl,bz,_,rfl⟩
       |true=>
        obtain⟨t4,l4,rfl⟩:=dv hc;rw[aq hc,List.tail_cons] at hR;refine zw rfl (ax.cE (iq cO b pp pc e _ t4 l4 eD rh hc) rfl) ?_;rintro _ _ _ ⟨_,⟨rfl,p5,c5,Ky,rfl,rfl⟩,rfl⟩;refine az.cl ?_;refine bt ?_;refine DA.mX (R:=aS 138 4 _ _ _) zL cm aH ?_;rintro fZ ⟨⟩ hf cQ;have gG:dL fZ [i64 ((3:Nat):Int),i64 (i3:Int),i64 0,.slice pl i cl] (.mk ((3:Nat):Int) (i3:Int) 0 acc):=dL.of ⟨ad,ad⟩ ⟨ad,ad⟩ ⟨au,au⟩ ((ep.mono (fun _ _ h=>h.mono cQ)).Cx dr.symm hf);exact ao.ret (aB.cell rfl rfl (Ld.bn (ae rfl) rfl zL rfl cK cJ)) zE ⟨_,l4,jE.trans hR.symm,_,p5,c5,rfl,gG,Ky.mono cQ (fun _ _ h=>h),bz.trans cQ,rfl⟩
    rw[fH,ag q1,ag ad] at hR;simp only at hR;refine ik ?_;refine bg ?_;refine ik ?_;refine dc ?_;refine ik ?_;refine bJ ?_;refine yC (ox σ (k:Int)) ?_;refine bY ?_;obtain⟨m,hm⟩:∃m:Nat,partsOf (k:Int)=m:=⟨(partsOf (k:Int)).toNat,by have:=oE (k:=(k:Int)) ad ad;omega⟩;(have Zj:m≤2:=by have:=l9 (k:Int);omega);rw[hm] at hR⊢;rw[Int.toNat_natCast] at hR;obtain⟨S,hS⟩:∃S,dX (bL vl e f) m l2 []=S:=⟨_,rfl⟩;rw[hS] at hR;(refine XA.gen [(0,_),(1,_),(4,_),(5,_),(29,_),(30,_)] iX fun δ=>?_);dsimp only[List.foldl];refine XA.loop [(30,41)] (fun i:Nat=>[(30,i64 i)]) (fun i aj al=>σ.sub aj∧i≤m∧∃(lc:List Tk) (acc:List Ex) (pp:Option Addr) (pc:Nat) (pl:Option Addr) (cl:Nat) (rows:List (List Value)),S=dX (bL vl e f) (m-i) lc acc∧(∀t∈lc,lH t)∧acc.length=i∧bV 4 je aj (.slice pp lc.length pc) lc∧cN 4 dL aj rows acc∧al=[aS 138 4 (.slice pl i cl) i rows.flatten,aw g5 [i64 (k:Int),i64 0,i64 0,.slice pl i cl] 138,aw b [.slice pp lc.length pc,i64 e,.slice pv vl.length cv] 213,aw g4 CX.zero 138]) (fun i=>m-i) 0 eb (Δ0:=_) ?_ (⟨.refl _,cg _,l2,[],p2,c2,none,0,[],hS.symm,ng,rfl,nh,cN.nil _ _ _,rfl⟩) ?_
    ·exact zE
    rintro i δ cO _ ⟨bz,hi,lc,acc,pp,pc,pl,cl,rows,oF,y4,dr,rh,ep,rfl⟩;dsimp only[dq,List.foldl];have hi:i≤m:=hi;have mK:=hv.mono bz (fun _ _ h=>h);by_cases aV:i<m
    ·obtain⟨j,hj⟩:∃j,m-i=j+1:=⟨m-i-1,ad⟩;rw[hj,dX] at oF
     cases hx:bL vl e f lc with
     |error x=>
      rw[hx] at oF;simp only at oF;rw[oF] at hR;refine a8 ?_;refine iQ ?_;refine bY ?_;refine et 10 45687 [7,9] (ar.bB (R:=aw g5 _ _) zL (ar.nil _)) ?_;refine dc ?_;refine aP.die rfl rfl Gd.free (ih.bad mK rh y4 ad ad hx) rfl ?_;rintro _ cL _ ⟨rfl,bT,wh,rfl⟩;refine DA.cl ?_;refine fL ?_;exact ao.panic zE ⟨_,jE.trans hR.symm,rfl,bz.trans bT,_,rfl⟩
     |ok y=>
      obtain⟨x,l'⟩:=y;rw[hx] at oF;simp only at oF;refine a8 ?_;refine iQ ?_;refine bY ?_;refine et 10 45687 [7,9] (ar.bB (R:=aw g5 _ _) zL (ar.nil _)) ?_;refine dc ?_;refine aP.fw rfl rfl Gd.free (ax.cE (ih.ok mK rh y4 ad ad hx) rfl) ?_;rintro _ cL _ ⟨_,⟨wh,p',c',rfl,ju,ux,bT,rfl⟩,rfl⟩;refine stays (aP.cl ?_);have rV:=ju.len;have tg:=ju.dT;refine aP.fw rfl rfl Gd.free (ax.jY (ae rfl) rfl (ae rfl)) ?_;rintro _ _ _ ⟨g38,rfl,rfl,rfl⟩;refine stays ?_;refine aP.b7 rfl rfl Gd.free aC (ax.kM (ae rfl) rfl (ae rfl) rfl rfl rfl) ?_;rintro _ _ _ ⟨S0,S1,rfl,rfl,rfl⟩;refine bS ?_;refine kS rfl (ax.st (ae rfl) rfl) ?_;refine bJ ?_;have eR:cN 4 dL cL (rows++[wh]) (acc++[x]):=(ep.mono (fun _ _ h=>h.mono bT)).snoc rV ju;refine⟨bQ,i+1,_,zM,?_,⟨bz.trans bT,aV,l',acc++[x],p',c',S0,S1,rows++[wh],(by rw[oF,show m-(i+1)=j by omega]),(fun t ht=>y4 t (nJ f _ _ _ hx t ht)),(by rw[bq,dr];rfl),ux,eR,rfl⟩,ad⟩
      ·rw[k6];exact zE
    ·(have CB:i=m:=by omega);subst CB;rw[Nat.sub_self,dX] at oF;rw[oF] at hR;simp only at hR;rw[cT] at hR;refine a8 ?_;refine ik ?_;refine bJ ?_
     cases hc:ku eD lc with
     |false=>
      rw[ag (by rw[hc];exact Bool.noConfusion)] at hR;refine az.die rfl (fU cO b pp pc e _ lc eD rh hc) rfl ?_;rintro _ _ _ ⟨rfl,rfl,rfl⟩;refine DA.cl ?_;refine fL ?_;exact ao.panic zE ⟨_,jE.trans hR.symm,rfl,bz,_,rfl⟩
     |true=>
      obtain⟨t4,l4,rfl⟩:=dv hc;rw[aq hc,List.tail_cons] at hR;refine zw rfl (ax.cE (iq cO b pp pc e _ t4 l4 eD rh hc) rfl) ?_;rintro _ _ _ ⟨_,⟨rfl,p5,c5,Ky,rfl,rfl⟩,rfl⟩;refine az.cl ?_;refine bt ?_;refine DA.mX (R:=aS 138 4 _ _ _) zL cm aH ?_;rintro fZ ⟨⟩ hf cQ;have gG:dL fZ [i64 (k:Int),i64 0,i64 0,.slice pl i cl] (.mk (k:Int) 0 0 acc):=dL.of ⟨ad,ad⟩ ⟨au,au⟩ ⟨au,au⟩ ((ep.mono (fun _ _ h=>h.mono cQ)).Cx dr.symm hf);exact ao.ret (aB.cell rfl rfl (Ld.bn (ae rfl) rfl zL rfl cK cJ)) zE ⟨_,l4,jE.trans hR.symm,_,p5,c5,rfl,gG,Ky.mono cQ (fun _ _ h=>h),bz.trans cQ,rfl⟩
end Go.Proofs.YtgeoiflbjcehcaaGreatDoor
namespace Go.Proofs.YtgeoiflbjcehcaaGreatDoor
open Go X
def aT {α β:Type} (a:PR α) (k:α→List Tk→PR β):PR β:=match a with
 |.error x=>.error x
 |.ok (x,l)=>k x l
theorem fc {α β:Type} {a:PR α} {k:α→List Tk→PR β} {y:β} {l':List Tk} (h:aT a k=.ok (y,l')):∃x l,a=.ok (x,l)∧k x l=.ok (y,l'):=by
 cases a with
 |error x=>cases h
 |ok z=>obtain⟨x,l⟩:=z;exact⟨x,l,rfl,h⟩
def eU:Ex:=.mk 0 0 0 []
def iF (S:List Tk→PR St):Nat→List Tk→List St→PR (List St)
 |0,_,_=>.error (0,0)
 |g+1,l,acc=>if ku eD l=true then .ok (acc,l.tail) else match S l with
  |.error x=>.error x
  |.ok (s,l1)=>iF S g l1 (acc++[s])
def dA (S:List Tk→PR St) (e:Int) (l:List Tk):PR (List St):=if ku lr l=true then iF S (l.tail.length+1) l.tail [] else .error (bD e l 5)
def cA {α:Type} (b:Bool) (z:α) (a:List Tk→PR α) (l:List Tk):PR α:=if b=true then a l else .ok (z,l)
def bH (vl:List Va) (e:Int):Nat→List Tk→PR St
 |0,l=>.error (bD e l 4)
 |f+1,l=>if ku lr l=true then match iC eH 7 l.tail with
  |none=>.error (bD e l.tail 5)
  |some k=>aT (cA (k7 k) 0 (gk vl e) l.tail.tail) fun v l3=>aT (cA (dE k) eU (bL vl e f) l3) fun x l4=>aT (cA (fS k) eU (bL vl e f) l4) fun y l5=>
   aT (cA (jw k) [] (dA (bH vl e f) e) l5) fun bd l6=>aT (cA (jj k) [] (dA (bH vl e f) e) l6) fun el l7=>cT e (.mk k v x y bd el) l7
  else .error (bD e l 5)
def Sub (l' l:List Tk):Prop:=(∀t∈l',t∈l)∧l'.length≤l.length
theorem Sub.refl (l:List Tk):Sub l l:=⟨fun _ h=>h,bX _⟩
theorem Sub.trans {a b c:List Tk} (h:Sub a b) (k:Sub b c):Sub a c:=⟨fun t ht=>k.1 t (h.1 t ht),Nat.le_trans h.2 k.2⟩
theorem Sub.tail (l:List Tk):Sub l.tail l:=⟨fun _ h=>tc h,by rw[List.length_tail];omega⟩
theorem Du {e:Int} {l l':List Tk} {n:Int} (h:gM e l=.ok (n,l')):Sub l' l:=by
 obtain⟨t,rfl,-,-⟩:=oC h;exact Sub.tail (t::l')
theorem tj {vl:List Va} {e:Int} {l l':List Tk} {n:Int} (h:gk vl e l=.ok (n,l')):Sub l' l:=by
 obtain⟨t,i,rfl,-,-,-⟩:=oD h;exact Sub.tail (t::l')
theorem xH {α:Type} {e:Int} {x y:α} {l l':List Tk} (h:cT e x l=.ok (y,l')):Sub l' l:=by
 rw[cT] at h;split at h
 ·cases h;exact Sub.tail l
 ·cases h
theorem uL {vl:List Va} {e:Int} {k:Nat} {l l':List Tk} {vn:Int×Int} (h:fH vl e k l=.ok (vn,l')):Sub l' l:=by
 rw[fH] at h;split at h
 ·cases q:gM e l with
  |error x=>rw[q] at h;cases h
  |ok y=>obtain⟨n,r⟩:=y;rw[q] at h;cases h;exact Du q
 ·split at h
  ·cases q:gk vl e l with
   |error x=>rw[q] at h;cases h
   |ok y=>obtain⟨n,r⟩:=y;rw[q] at h;cases h;exact tj q
  ·cases h;exact Sub.refl _
theorem uM {α:Type} {E:List Tk→PR α} (hE:∀l x l',E l=.ok (x,l')→Sub l' l):∀(m:Nat) (l:List Tk) (acc xs:List α) (l':List Tk),dX E m l acc=.ok (xs,l')→Sub l' l
 |0,l,acc,xs,l',h=>by cases h;exact Sub.refl _
 |m+1,l,acc,xs,l',h=>by
  rw[dX] at h
  cases q:E l with
  |error x=>rw[q] at h;cases h
  |ok y=>
   obtain⟨x,l1⟩:=y;rw[q] at h;exact(uM hE m l1 _ xs l' h).trans (hE l x l1 q)
theorem fm {vl:List Va} {e:Int}:∀(f:Nat) (l:List Tk) (x:Ex) (l':List Tk),bL vl e f l=.ok (x,l')→Sub l' l
 |0,l,x,l',h=>by cases h
 |f+1,l,x,l',h=>by
  rw[bL] at h;split at h
  ·cases hk:iC cS 8 l.tail with
   |none=>rw[hk] at h;cases h
   |some k=>
    rw[hk] at h;simp only at h
    cases hh:fH vl e k l.tail.tail with
    |error x=>rw[hh] at h;cases h
    |ok y=>
     obtain⟨vn,l3⟩:=y;rw[hh] at h;simp only at h
     cases hs:dX (bL vl e f) (partsOf k).toNat l3 [] with
     |error x=>rw[hs] at h;cases h
     |ok z=>
      obtain⟨xs,l4⟩:=z;rw[hs] at h;simp only at h;exact((xH h).trans (uM (fm f) _ _ _ _ _ hs)).trans ((uL hh).trans ((Sub.tail _).trans (Sub.tail _)))
  ·cases h
theorem Am {S:List Tk→PR St} (hS:∀l x l',S l=.ok (x,l')→Sub l' l):∀(g:Nat) (l:List Tk) (acc xs:List St) (l':List Tk),iF S g l acc=.ok (xs,l')→Sub l' l
 |0,l,acc,xs,l',h=>by cases h
 |g+1,l,acc,xs,l',h=>by
  rw[iF] at h;split at h
  ·cases h;exact Sub.tail _
  ·cases q:S l with
   |error x=>rw[q] at h;cases h
   |ok y=>
    obtain⟨x,l1⟩:=y;rw[q] at h;exact(Am hS g l1 _ xs l' h).trans (hS l x l1 q)
theorem lI {S:List Tk→PR St} {e:Int} (hS:∀l x l',S l=.ok (x,l')→Sub l' l) {l l':List Tk} {xs:List St} (h:dA S e l=.ok (xs,l')):Sub l' l:=by
 rw[dA] at h;split at h
 ·exact(Am hS _ _ _ _ _ h).trans (Sub.tail _)
 ·cases h
theorem iG {α:Type} {b:Bool} {z x:α} {a:List Tk→PR α} {l l':List Tk} (ha:∀l x l',a l=.ok (x,l')→Sub l' l) (h:cA b z a l=.ok (x,l')):Sub l' l:=by
 rw[cA] at h;split at h
 ·exact ha _ _ _ h
 ·cases h;exact Sub.refl _
theorem eI {vl:List Va} {e:Int}:∀(f:Nat) (l:List Tk) (x:St) (l':List Tk),bH vl e f l=.ok (x,l')→Sub l' l∧l'.length<l.length
 |0,l,x,l',h=>by cases h
 |f+1,l,x,l',h=>by
  rw[bH] at h;split at h
  ·rename_i hq;obtain⟨t,r,rfl⟩:=dv hq;rw[List.tail_cons] at h
   cases hk:iC eH 7 r with
   |none=>rw[hk] at h;cases h
   |some k=>
    rw[hk] at h;simp only at h;obtain⟨v,l3,h3,h⟩:=fc h;obtain⟨x1,l4,h4,h⟩:=fc h;obtain⟨x2,l5,h5,h⟩:=fc h;obtain⟨x3,l6,h6,h⟩:=fc h;obtain⟨x4,l7,h7,h⟩:=fc h;(have hS:∀l x l',bH vl e f l=.ok (x,l')→Sub l' l:=fun l x l' h=>(eI f l x l' h).1);have hr:Sub l' r:=(xH h).trans ((iG (fun _ _ _=>lI hS) h7).trans ((iG (fun _ _ _=>lI hS) h6).trans ((iG (fm f) h5).trans ((iG (fm f) h4).trans ((iG (fun _ _ _=>tj) h3).trans (Sub.tail _))))));exact⟨hr.trans (Sub.tail (t::r)),by have:=hr.2;simp only[bF];omega⟩
  ·cases h
theorem xI {S:List Tk→PR St} (hS:∀l x l',S l=.ok (x,l')→l'.length<l.length):∀(g g':Nat) (l:List Tk) (acc:List St),l.length<g→l.length<g'→iF S g l acc=iF S g' l acc
 |0,g',l,acc,h,h'=>by omega
 |g+1,0,l,acc,h,h'=>by omega
 |g+1,g'+1,l,acc,h,h'=>by
  rw[iF,iF];split
  ·rfl
  ·cases q:S l with
   |error x=>rfl
   |ok y=>
    obtain⟨x,l1⟩:=y;have:=hS l x l1 q;exact xI hS g g' l1 _ ad ad
theorem jl (σ:PH):dL σ [i64 0,i64 0,i64 0,.slice none 0 0] eU:=dL.of ⟨au,au⟩ ⟨au,au⟩ ⟨au,au⟩ (bV.nil _ _ _)
end Go.Proofs.YtgeoiflbjcehcaaGreatDoor
