import Derived.WalkKit
import Derived.Orders
import Derived.Laws.AppendOwn
set_option maxHeartbeats 4000000
set_option maxRecDepth 2000
set_option linter.unusedVariables false
set_option linter.unusedSimpArgs false
namespace Go.Proofs.YtgeoiflbjcehcaaGreatDoor
theorem ag {c:Prop} {i:Decidable c} (n:¬c) {α:Sort _} {t e:α}:ite c t e=e:=if_neg n
theorem aq {c:Prop} {i:Decidable c} (n:c) {α:Sort _} {t e:α}:ite c t e=t:=if_pos n
theorem aE {p:Prop} [i:Decidable p] (n:¬p):decide p=false:=decide_eq_false n
theorem aM {p:Prop} [i:Decidable p] (n:p):decide p=true:=decide_eq_true n
theorem bq {α:Type _} {s t:List α}:(s++t).length=s.length+t.length:=List.length_append
theorem bF {α:Type _} {a:α} {s:List α}:(a::s).length=s.length+1:=rfl
theorem b9 {α:Type _} {l:List α} {i:Nat} (h:i<l.length):l[i]? =some l[i]:=List.getElem?_eq_getElem h
theorem ey {α:Type _} {l:List α} {i:Nat} {a:α}:l.getD i a=l[i]?.getD a:=List.getD_eq_getElem?_getD
theorem dZ {α:Type _} {a:α}:[a].length=1:=rfl
theorem fg {α:Type _} {l:List α} {i:Nat} {a:α} (h:l[i]? =some a):a∈l:=List.mem_of_getElem? h
theorem bX (n:Nat):n≤n:=Nat.le_refl n
theorem cg (n:Nat):0≤n:=Nat.zero_le n
theorem jX {a b:ByteArray}:(a++b).size=a.size+b.size:=ByteArray.size_append
end Go.Proofs.YtgeoiflbjcehcaaGreatDoor
namespace Go.Proofs.YtgeoiflbjcehcaaGreatDoor
namespace X
open Go
abbrev Env:=Nat→Value
abbrev Heap:=Array Obj
@[reducible] def dO (ρ:Env) (d:Nat) (v:Value):Env:=fun s=>match Nat.beq s d with|true=>v|false=>ρ s
@[reducible] def ev (ρ:Env):Operand→Value
 |.tmp t=>ρ t
 |.const v=>v
 |.global g=>.pointer (some ⟨g,0,none⟩)
 |.func f=>.func (.func f) #[] #[]
structure e9 (N:Nat) (a:Act) (ρ:Env):Prop where
 size:a.tmps.size=N
 get:∀s,a.tmps.getD s undef=ρ s
theorem beq_false {s d:Nat} (h:s≠d):Nat.beq s d=false:=by
 cases e:Nat.beq s d with
 |false=>rfl
 |true=>exact absurd (Nat.eq_of_beq_eq_true e) h
theorem Fh {s d:Nat} (h:Nat.beq s d=false):s≠d:=fun e=>by subst e;rw[Nat.beq_refl] at h;cases h
theorem Si {d N:Nat} (h:Nat.blt d N=true):d<N:=Nat.le_of_ble_eq_true h
theorem sH (ρ:Env) (d:Nat) (v:Value):dO ρ d v d=v:=by simp[dO]
theorem fv (ρ:Env) (d:Nat) (v:Value) (s:Nat) (h:s≠d):dO ρ d v s=ρ s:=by
 have:Nat.beq s d=false:=beq_false h;simp[dO,this]
theorem e9.put {N:Nat} {a:Act} {ρ:Env} (h:e9 N a ρ) {d:Nat} (hd:Nat.blt d N=true) (v:Value):e9 N (a.put (some d) v) (dO ρ d v):=by
 have ZY:d<N:=Si hd;refine⟨by simp[Act.put,h.size],fun s=>?_⟩;by_cases e:s=d
 ·subst e;simp[Act.put,sH,Array.getD_eq_getD_getElem?,h.size,ZY]
 ·rw[fv _ _ _ _ e,←h.get s];simp[Act.put,Array.getD_eq_getD_getElem?,Ne.symm e]
theorem e9.eval {N:Nat} {a:Act} {ρ:Env} (h:e9 N a ρ):a.eval=ev ρ:=by
 (funext x;cases x<;>simp[Act.eval,ev]);rename_i t;have:=h.get t;simpa using this
structure gC (w w':World):Prop where
 os:w'.os=w.os
 tape:w'.tape=w.tape
 output:w'.output=w.output
theorem gC.refl (w:World):gC w w:=⟨rfl,rfl,rfl⟩
theorem gC.trans {a b c:World} (h:gC a b) (k:gC b c):gC a c:=⟨k.os.trans h.os,k.tape.trans h.tape,k.output.trans h.output⟩
abbrev lP:=Exit→Env→Heap→Prop
def Sj (N:Nat):Exit→Act→Env→Prop
 |.panic _,_,_=>True
 |_,a,ρ=>e9 N a ρ
theorem Sj.of {N:Nat} {e:Exit} {a:Act} {ρ:Env} (h:e9 N a ρ):Sj N e a ρ:=by cases e<;>first|exact h|trivial
def ph (w:World) (ds:List Deferred) (N:Nat) (K:lP):Exit→Act→World→Prop:=
 fun e a' w'=>a'.defers=ds∧gC w w'∧∃er,Sj N e a' er∧K e er w'.heap
structure _root_.Go.Proofs.YtgeoiflbjcehcaaGreatDoor.X (P:Program) (N:Nat) (c:Code) (ρ:Env) (h:Heap) (K:lP):Prop where
 out:∀(w0:World) (a:Act) (w:World),gC w0 w→w.heap=h→e9 N a ρ→c.wp P (ph w0 a.defers N K) a w
structure XO (P:Program) (N:Nat) (all:Array Oper) (l:List Oper) (ρ:Env) (h:Heap) (K:lP):Prop where
 out:∀(w0:World) (a:Act) (w:World),gC w0 w→w.heap=h→e9 N a ρ→wpList P all (ph w0 a.defers N K) l a w
def G0 (next:Env→Heap→Prop) (K:lP):lP
 |.normal,ρ,h=>next ρ h
 |e,ρ,h=>K e ρ h
def Oi (id:Nat) (K:lP):lP
 |.exit Kr,ρ,h=>if Kr=id then K .normal ρ h else K (.exit Kr) ρ h
 |e,ρ,h=>K e ρ h
section
variable {P:Program} {N:Nat} {ρ:Env} {h:Heap} {K:lP}
theorem mono {c:Code} {K':lP} (hx:X P N c ρ h K) (hk:∀e ρ h,K e ρ h→K' e ρ h):X P N c ρ h K':=by
 refine⟨fun w0 a w hs hh he=>?_⟩;refine wp_mono (hx.out w0 a w hs hh he) ?_;rintro e a' w' ⟨h1,h2,er,h3,h4⟩;exact⟨h1,h2,er,h3,hk _ _ _ h4⟩
theorem seq {x y:Code} (hx:X P N x ρ h (G0 (fun ρ h=>X P N y ρ h K) K)):X P N (.seq x y) ρ h K:=by
 refine⟨fun w0 a w hs hh he=>?_⟩;refine wp_seq (wp_mono (hx.out w0 a w hs hh he) ?_);rintro e a' w' ⟨h1,h2,er,h3,h4⟩
 cases e with
 |normal=>rw[←h1];exact h4.out w0 a' w' h2 rfl h3
 |_=>exact⟨h1,h2,er,h3,h4⟩
theorem block {id:Nat} {c:Code} (hx:X P N c ρ h (Oi id K)):X P N (.block id c) ρ h K:=by
 refine⟨fun w0 a w hs hh he=>?_⟩;refine wp_block (wp_mono (hx.out w0 a w hs hh he) ?_);rintro e a' w' ⟨h1,h2,er,h3,h4⟩
 cases e with
 |exit Kr=>
  simp only[Oi] at h4;simp only[Exit.inBlock];split<;>rename_i hid
  ·rw[aq hid] at h4;exact⟨h1,h2,er,h3,h4⟩
  ·rw[ag hid] at h4;exact⟨h1,h2,er,h3,h4⟩
 |_=>exact⟨h1,h2,er,h3,h4⟩
theorem skip (hk:K .normal ρ h):X P N .skip ρ h K:=⟨fun _ _ _ hs hh he=>wp_skip ⟨rfl,hs,ρ,.of he,hh▸hk⟩⟩
theorem ret (hk:K .ret ρ h):X P N .ret ρ h K:=⟨fun _ _ _ hs hh he=>wp_ret ⟨rfl,hs,ρ,.of he,hh▸hk⟩⟩
theorem exit {id:Nat} (hk:K (.exit id) ρ h):X P N (.exit id) ρ h K:=⟨fun _ _ _ hs hh he=>wp_exit ⟨rfl,hs,ρ,.of he,hh▸hk⟩⟩
theorem cond {c:Operand} {x y:Code} {b:Bool} (hc:ev ρ c=.bool b) (ht:b=true→X P N x ρ h K) (hf:b=false→X P N y ρ h K):X P N (.cond c x y) ρ h K:=by
 refine⟨fun w0 a w hs hh he=>?_⟩;refine wp_cond_split (t:=b) (by rw[he.eval];exact hc) (fun e=>(ht e).out w0 a w hs hh he) (fun e=>(hf e).out w0 a w hs hh he)
theorem region {id:Nat} {l:List Oper} (hx:XO P N l.toArray l ρ h K):X P N (.region id l.toArray false) ρ h K:=
 ⟨fun w0 a w hs hh he=>wp_region_lit (hx.out w0 a w hs hh he)⟩
theorem bI {next:Env→Heap→Prop} (hk:next ρ h):G0 next K .normal ρ h:=hk
theorem CM {next:Env→Heap→Prop} {id:Nat} (hk:K (.exit id) ρ h):G0 next K (.exit id) ρ h:=hk
theorem Bf {next:Env→Heap→Prop} (hk:K .ret ρ h):G0 next K .ret ρ h:=hk
theorem zZ {next:Env→Heap→Prop} {c:List PanicEntry} (hk:K (.panic c) ρ h):G0 next K (.panic c) ρ h:=hk
theorem wU {id:Nat} (hk:K .normal ρ h):Oi id K .normal ρ h:=hk
theorem G1 {id:Nat} (hk:K .ret ρ h):Oi id K .ret ρ h:=hk
theorem z6 {id:Nat} {c:List PanicEntry} (hk:K (.panic c) ρ h):Oi id K (.panic c) ρ h:=hk
theorem CN {id:Nat} (hk:K .normal ρ h):Oi id K (.exit id) ρ h:=by simp only[Oi,if_true];exact hk
theorem IZ {id Kr:Nat} (ix:Nat.beq Kr id=false) (hk:K (.exit Kr) ρ h):Oi id K (.exit Kr) ρ h:=by
 have:Kr≠id:=Fh ix;simp only[Oi,ag this];exact hk
end
inductive TK where
 |int (k:IntKind)|bool|string|slice (e:TypeId)|array (n:Nat) (e:TypeId)|struct (fs:List (TypeId×Nat))|pointer (e:TypeId)|iface|func|other
structure Ty where
 k:TK
 size:Nat
 bytes:Nat
 zero:List Value
def kindOf:TypeDesc→TK
 |.int k=>.int k
 |.bool=>.bool
 |.string=>.string
 |.slice e=>.slice e
 |.array n e=>.array n e
 |.struct fs=>.struct (fs.toList.map fun f=>(f.type,f.offset))
 |.pointer e=>.pointer e
 |.interface _=>.iface
 |.func ..=>.func
 |_=>.other
def aX (P:Program) (T:TypeId):Option Ty:=
 match P.underlying T,P.info? T with
 |some d,some i=>match i.zero with
  |some z=>some ⟨kindOf d,i.size,i.bytes,z.cells.toList⟩
  |none=>none
 |_,_=>none
theorem aF {P:Program} {T:TypeId} {r:Ty} (h:aX P T=some r):∃d i z,P.underlying T=some d∧kindOf d=r.k∧P.info? T=some i∧i.size=r.size∧i.bytes=r.bytes∧i.zero=some z∧z.cells.toList=r.zero:=by
 unfold aX at h;split at h
 ·rename_i d i hd hi;split at h
  ·rename_i z hz;simp only[Option.some.injEq] at h;subst h;exact⟨d,i,z,hd,rfl,hi,rfl,rfl,hz,rfl⟩
  ·cases h
 ·cases h
def TK.agg:TK→Bool
 |.array ..|.struct _=>true
 |_=>false
theorem Fi {d:TypeDesc} {k:TK} (h:kindOf d=k):(match d with|.struct _|.array _ _=>true|_=>false)=k.agg:=by
 subst h;cases d<;>rfl
structure Row (h:Heap) (g o:Nat) (vs:List Value):Prop where
 ex:∃l T fr,h[g]? =some (.cells l T fr)∧(l.toList.drop o).take vs.length=vs
structure Ks (h:Heap) (g o:Nat) (v:Value):Prop where
 ex:∃l T fr,h[g]? =some (.cells l T fr)∧l[o]? =some v
structure CO (h:Heap) (g:Nat) (l:List Value) (T:TypeId):Prop where
 get:h[g]? =some (.cells l.toArray T (0,0))
def mW (h:Heap) (g:Nat) (l:List Value) (T:TypeId):Heap:=h.setIfInBounds g (.cells l.toArray T (0,0))
def aQ (l:List Value) (o:Nat) (vs:List Value):List Value:=l.take o++vs++l.drop (o+vs.length)
theorem Ks.cell {w:World} {h:Heap} (hw:w.heap=h) {g o:Nat} {v:Value} (hc:Ks h g o v):w.cell? ⟨g,o,none⟩=some v:=by
 obtain⟨l,T,fr,h1,h2⟩:=hc;subst hw;simp[World.cell?,h1,h2]
theorem Row.Sk {h:Heap} {g o:Nat} {vs:List Value} (hr:Row h g o vs) {j:Nat} {v:Value} (hv:vs[j]? =some v):Ks h g (o+j) v:=by
 obtain⟨l,T,fr,h1,h2⟩:=hr;refine⟨l,T,fr,h1,?_⟩;rw[←h2] at hv
 have hj:j<vs.length:=by
  rcases Nat.lt_or_ge j vs.length with aV|Fj
  ·exact aV
  ·simp[List.getElem?_take,Nat.not_lt.2 Fj] at hv
 simp only[List.getElem?_take,hj,if_true,List.getElem?_drop] at hv;simpa using hv
theorem nu {h:Heap} {g:Nat} {o:Obj} (hg:h[g]? =some o):g<h.size:=by
 rcases Nat.lt_or_ge g h.size with hl|hl
 ·exact hl
 ·rw[Array.getElem?_eq_none hl] at hg;cases hg
theorem Ks.lt {h:Heap} {g o:Nat} {v:Value} (hc:Ks h g o v):g<h.size:=by obtain⟨l,T,fr,h1,_⟩:=hc;exact nu h1
theorem Row.lt {h:Heap} {g o:Nat} {vs:List Value} (hc:Row h g o vs):g<h.size:=by obtain⟨l,T,fr,h1,_⟩:=hc;exact nu h1
theorem CO.lt {h:Heap} {g:Nat} {l:List Value} {T:TypeId} (hc:CO h g l T):g<h.size:=nu hc.get
theorem I0 (h:Heap) (g:Nat) (l:List Value) (T:TypeId):(mW h g l T).size=h.size:=by simp[mW]
theorem vu {h:Heap} {g k:Nat} {l:List Value} {T:TypeId} (ix:k≠g):(mW h g l T)[k]? =h[k]? :=by
 simp[mW,Array.getElem?_setIfInBounds,Ne.symm ix]
theorem y9 {h:Heap} {g:Nat} {l:List Value} {T:TypeId} (hl:g<h.size):(mW h g l T)[g]? =some (.cells l.toArray T (0,0)):=by
 simp[mW,Array.getElem?_setIfInBounds,hl]
theorem lg {h:Heap} {o:Obj} {k:Nat} (hk:k<h.size):(h.push o)[k]? =h[k]? :=by
 rw[Array.getElem?_push,ag (by omega)]
theorem lh {h:Heap} {o:Obj} {k:Nat} (hk:k=h.size):(h.push o)[k]? =some o:=by
 subst hk;simp
structure Ext (h h':Heap):Prop where
 size:h.size≤h'.size
 get:∀k,k<h.size→h'[k]? =h[k]?
theorem Ext.trans {a b c:Heap} (h:Ext a b) (k:Ext b c):Ext a c:=⟨Nat.le_trans h.size k.size,fun i hi=>(k.get i (Nat.lt_of_lt_of_le hi h.size)).trans (h.get i hi)⟩
theorem CO.Sk {h:Heap} {g o:Nat} {l:List Value} {T:TypeId} {v:Value} (hb:CO h g l T) (hv:l[o]? =some v):Ks h g o v:=⟨l.toArray,T,(0,0),hb.get,by simpa using hv⟩
theorem CO.row {h:Heap} {g o:Nat} {l vs:List Value} {T:TypeId} (hb:CO h g l T) (hv:(l.drop o).take vs.length=vs):Row h g o vs:=⟨l.toArray,T,(0,0),hb.get,by simpa using hv⟩
theorem CO.Sl {h:Heap} {g:Nat} {l:List Value} {T:TypeId} (hb:CO h g l T):Row h g 0 l:=hb.row (by simp)
theorem iB {l vs:List Value} (hn:l.length=vs.length):aQ l 0 vs=vs:=by simp[aQ,←hn]
theorem addr_add (g o j:Nat):(⟨g,o,none⟩:Addr).add j=⟨g,o+j,none⟩:=by unfold Addr.add;split<;>simp_all
end X
namespace X
open Go
section
variable {P:Program} {N:Nat} {all:Array Oper} {rest:List Oper} {ρ:Env} {h:Heap} {K:lP}
structure Rd (P:Program) (ρ:Env) (S:Heap→Prop) (op:Op) (ty:TypeId) (v:Value):Prop where
 out:∀(d:Option Tmp) (pos:String) (af:Array Edge) (g:Option (Nat×Bool)) (w:World),S w.heap→(execOp (ev ρ) ⟨d,op,ty,pos,af,g⟩).run P w=.ok (.value v) w
structure Wr (P:Program) (ρ:Env) (h:Heap) (op:Op) (ty:TypeId) (R:Value→Heap→Prop) (pk:List PanicEntry→Heap→Prop):Prop where
 out:∀(d:Option Tmp) (pos:String) (af:Array Edge) (g:Option (Nat×Bool)) (a:Act) (w:World) (next:Act→World→Prop) (Q:Exit→Act→World→Prop),a.eval=ev ρ→w.heap=h→
  (∀v w',gC w w'→R v w'.heap→next (a.put d v) w')→(∀c w',gC w w'→pk c w'.heap→Q (.panic c) a w')→(⟨d,op,ty,pos,af,g⟩:Oper).wp P a w next Q
abbrev qY:List PanicEntry→Heap→Prop:=fun _ _=>False
theorem Wr.run {op:Op} {ty:TypeId} {R:Value→Heap→Prop} (hr:∀d pos af g w,w.heap=h→∃v w',(execOp (ev ρ) ⟨d,op,ty,pos,af,g⟩).run P w=.ok (.value v) w'∧gC w w'∧R v w'.heap):Wr P ρ h op ty R qY:=
 ⟨fun d pos af g a w next Q he hh hn _=>by
  obtain⟨v,w',h1,h2,h3⟩:=hr d pos af g w hh;unfold Oper.wp;rw[he,h1]
  exact hn v w' h2 h3⟩
theorem Wr.ZZ {op:Op} {ty:TypeId} {R:Value→Heap→Prop} (hr:∀d pos af g w,w.heap=h→∃w',(execOp (ev ρ) ⟨d,op,ty,pos,af,g⟩).run P w=.ok .skip w'∧gC w w'∧R undef w'.heap):Wr P ρ h op ty R qY:=
 ⟨fun d pos af g a w next Q he hh hn _=>by
  obtain⟨w',h1,h2,h3⟩:=hr d pos af g w hh;unfold Oper.wp;rw[he,h1]
  exact hn undef w' h2 h3⟩
theorem Rd.wr {op:Op} {ty:TypeId} {v:Value} (hr:Rd P ρ (· =h) op ty v):Wr P ρ h op ty (fun v' h'=>v'=v∧h'=h) qY:=
 Wr.run fun d pos af g w hw=>⟨v,w,hr.out d pos af g w hw,gC.refl w,rfl,hw⟩
@[reducible] def jz (ρ:Env):Option Nat→Value→Env
 |some d,v=>dO ρ d v
 |none,_=>ρ
def gu (N:Nat):Option Nat→Bool
 |some d=>Nat.blt d N
 |none=>true
theorem e9.KL {a:Act} (he:e9 N a ρ) {d:Option Nat} (hd:gu N d=true) (v:Value):e9 N (a.put d v) (jz ρ d v):=by
 cases d with
 |none=>exact he
 |some d=>exact he.put hd v
theorem put_defers (a:Act) (d:Option Tmp) (v:Value):(a.put d v).defers=a.defers:=by cases d<;>rfl
theorem XO.nil (hk:K .normal ρ h):XO P N all [] ρ h K:=⟨fun _ _ _ hs hh he=>wpList_nil ⟨rfl,hs,ρ,.of he,hh▸hk⟩⟩
theorem XO.wr {op:Op} {d:Option Nat} {ty:TypeId} {pos:String} {af:Array Edge} {R:Value→Heap→Prop} {pk:List PanicEntry→Heap→Prop} (hd:gu N d=true)
 (hr:Wr P ρ h op ty R pk) (k:∀v h',R v h'→XO P N all rest (jz ρ d v) h' K) (kp:∀c h',pk c h'→K (.panic c) ρ h'):
 XO P N all (⟨d,op,ty,pos,af,none⟩::rest) ρ h K:=by
 refine⟨fun w0 a w hs hh he=>?_⟩;(refine wpList_plain rfl fun K' Z0=>?_);refine hr.out d pos af none a w _ _ he.eval hh (fun v w' h2 h3=>Z0 _ _ ?_) (fun c w' h2 h3=>⟨rfl,hs.trans h2,ρ,trivial,kp c _ h3⟩);have:=(k v _ h3).out w0 (a.put d v) w' (hs.trans h2) rfl (he.KL hd v)
 rwa [put_defers] at this
theorem XO.fw {op:Op} {d:Option Nat} {ty:TypeId} {pos:String} {af:Array Edge} {R:Value→Heap→Prop} (hd:gu N d=true)
 (hr:Wr P ρ h op ty R qY) (k:∀v h',R v h'→XO P N all rest (jz ρ d v) h' K):XO P N all (⟨d,op,ty,pos,af,none⟩::rest) ρ h K:=XO.wr hd hr k (fun _ _ hp=>hp.elim)
theorem XO.one {op:Op} {d:Option Nat} {ty:TypeId} {pos:String} {af:Array Edge} {v:Value} {h':Heap} (hd:gu N d=true)
 (hr:Wr P ρ h op ty (fun v' VO=>v'=v∧VO=h') qY) (k:XO P N all rest (jz ρ d v) h' K):XO P N all (⟨d,op,ty,pos,af,none⟩::rest) ρ h K:=XO.fw hd hr (by rintro _ _ ⟨rfl,rfl⟩;exact k)
theorem XO.rd {op:Op} {d:Nat} {ty:TypeId} {pos:String} {af:Array Edge} {v:Value} (hd:Nat.blt d N=true)
 (hr:Rd P ρ (· =h) op ty v) (k:XO P N all rest (dO ρ d v) h K):XO P N all (⟨some d,op,ty,pos,af,none⟩::rest) ρ h K:=XO.one (d:=some d) hd hr.wr k
theorem XO.wanted {d:Option Nat} {op:Op} {ty:TypeId} {pos:String} {af:Array Edge} {j:Nat} {b:Bool} {t:Nat} (hj:(all[j]?).bind (·.dst)=some t) (hb:ρ t=.bool b)
 (k:XO P N all (⟨d,op,ty,pos,af,none⟩::rest) ρ h K):XO P N all (⟨d,op,ty,pos,af,some (j,b)⟩::rest) ρ h K:=by
 refine⟨fun w0 a w hs hh he=>?_⟩;have hk:=k.out w0 a w hs hh he
 have hy:yielded all a.tmps j=some b:=by
  have:=he.get t;rw[hb] at this;unfold yielded;rw[hj]
  cases hq:a.tmps[t]? with
  |none=>simp[hq,undef] at this
  |some u=>simp[hq] at this;subst this;simp[hq]
 unfold wpList at hk⊢;rw[aq (by simp[Region.wanted])] at hk;rw[aq (by simp[Region.wanted,hy])];exact hk
theorem XO.wV {d:Nat} {op:Op} {ty:TypeId} {pos:String} {af:Array Edge} {j:Nat} {b c:Bool} {t:Nat} (hd:Nat.blt d N=true) (hj:(all[j]?).bind (·.dst)=some t) (hb:ρ t=.bool c) (ix:(c==b)=false)
 (k:XO P N all rest (dO ρ d undef) h K):XO P N all (⟨some d,op,ty,pos,af,some (j,b)⟩::rest) ρ h K:=by
 refine⟨fun w0 a w hs hh he=>?_⟩;have hk:=k.out w0 (a.put (some d) undef) w hs hh (he.put hd _)
 have hy:yielded all a.tmps j=some c:=by
  have:=he.get t;rw[hb] at this;unfold yielded;rw[hj]
  cases hq:a.tmps[t]? with
  |none=>simp[hq,undef] at this
  |some u=>simp[hq] at this;subst this;simp[hq]
 unfold wpList;rw[ag (by simp[Region.wanted,hy];intro e;subst e;simp at ix)];exact hk
theorem XO.uu {d:Nat} {op:Op} {ty:TypeId} {pos:String} {af:Array Edge} {j:Nat} {b:Bool} {t:Nat} (hd:Nat.blt d N=true) (hj:(all[j]?).bind (·.dst)=some t) (hb:ρ t=undef)
 (k:XO P N all rest (dO ρ d undef) h K):XO P N all (⟨some d,op,ty,pos,af,some (j,b)⟩::rest) ρ h K:=by
 refine⟨fun w0 a w hs hh he=>?_⟩;have hk:=k.out w0 (a.put (some d) undef) w hs hh (he.put hd _)
 have hy:yielded all a.tmps j=none:=by
  have:=he.get t;rw[hb] at this;unfold yielded;rw[hj]
  cases hq:a.tmps[t]? with
  |none=>simp[hq]
  |some u=>simp[hq] at this;subst this;simp[hq,undef]
 unfold wpList;rw[ag (by simp[Region.wanted,hy])];exact hk
section ops
variable {d:Nat} {ty:TypeId} {pos:String} {af:Array Edge}
theorem Rd.pure {S:Heap→Prop} {op:Op} {v:Value} (hr:∀d pos af g w,(execOp (ev ρ) ⟨d,op,ty,pos,af,g⟩).run P w=.ok (.value v) w):Rd P ρ S op ty v:=⟨fun d pos af g w _=>hr d pos af g w⟩
section
variable {S:Heap→Prop}
theorem Rd.move {x:Operand} {v:Value} (hv:ev ρ x=v):Rd P ρ S (.move x) ty v:=.pure fun _ _ _ _ _=>by simp[execOp,hv]
theorem Rd.assign {x:Operand} {v:Value} (hv:ev ρ x=v):Rd P ρ S (.assign x) ty v:=.pure fun _ _ _ _ _=>by simp[execOp,hv]
theorem Rd.iC {c x y:Operand} {v:Value} (hc:ev ρ c=.bool true) (hv:ev ρ x=v):Rd P ρ S (.pick c x y) ty v:=.pure fun _ _ _ _ _=>by simp[execOp,hc,hv,asBool]
theorem Rd.QR {c x y:Operand} {v:Value} (hc:ev ρ c=.bool false) (hv:ev ρ y=v):Rd P ρ S (.pick c x y) ty v:=.pure fun _ _ _ _ _=>by simp[execOp,hc,hv,asBool]
theorem Rd.VP {p:Prop} [Decidable p] {b:Bool} {c x y:Operand} {v:Value} (hc:ev ρ c=.bool (decide p)) (hp:decide p=b) (hv:ev ρ (match b with|true=>x|false=>y)=v):Rd P ρ S (.pick c x y) ty v:=by
 cases b
 ·exact Rd.QR (hp▸hc) hv
 ·exact Rd.iC (hp▸hc) hv
def Ld (P:Program) (h:Heap) (T:TypeId) (g o:Nat) (v:Value):Prop:=∀w,w.heap=h→(loadVar T ⟨g,o,none⟩).run P w=.ok v w
theorem Ld.one {T:TypeId} {r:Ty} (hT:aX P T=some r) (hk:r.k.agg=false) {g o:Nat} {v:Value} (hc:Ks h g o v):Ld P h T g o v:=by
 intro w hw;obtain⟨dd,i,z,h1,h2,-⟩:=aF hT;have ha:=(Fi h2).trans hk;have hl:=hc.cell hw;unfold loadVar isAgg;rw[Sem.run_bind,Sem.run_bind,run_underlying h1 w];cases dd<;>simp_all
theorem Ld.row {T:TypeId} {r:Ty} (hT:aX P T=some r) (hk:r.k.agg=true) {g o:Nat} {vs:List Value} (hc:Row h g o vs) (hn:vs.length=r.size):Ld P h T g o (.agg vs.toArray):=by
 intro w hw;obtain⟨dd,i,z,h1,h2,h3,h4,-⟩:=aF hT;have ha:=(Fi h2).trans hk
 have hl:(loadCells ⟨g,o,none⟩ vs.length).run P w=.ok vs.toArray w:=
  run_loadCells_list (P:=P) w ⟨g,o,none⟩ vs (fun j v hv=>by rw[addr_add];exact(hc.Sk hv).cell hw)
 unfold loadVar isAgg;rw[Sem.run_bind,Sem.run_bind,run_underlying h1 w];cases dd<;>simp_all [sizeOf,typeInfo]
theorem sI {us r:List Value} {n:Nat} (h:us.length=n):(us++r).take n=us:=by rw[←h];simp
theorem Bg {us:List Value} {n:Nat} (h:us.length=n):us.take n=us:=by rw[←h];simp
theorem Rd.load {T:TypeId} {x:Operand} {g o:Nat} {v:Value} (hx:ev ρ x=.pointer (some ⟨g,o,none⟩)) (hl:∀h,S h→Ld P h T g o v):Rd P ρ S (.load T x) ty v:=
 ⟨fun d pos af gd w hw=>by simp[execOp,hx,Instr.loadAt,Instr.sureAddr,hl _ hw w rfl]⟩
theorem Rd.fieldAddr {T:TypeId} {x:Operand} {f g o n m:Nat} {r:Ty} {fs:List (TypeId×Nat)} {ft:TypeId} {r':Ty} (hT:aX P T=some r) (hk:r.k=.struct fs) (hf:fs[f]? =some (ft,n)) (ON:aX P ft=some r') (hz:Nat.beq r'.size 0=false)
 (hx:ev ρ x=.pointer (some ⟨g,o,none⟩)) (ho:o+n=m):Rd P ρ S (.fieldAddr T x f) ty (.pointer (some ⟨g,m,none⟩)):=by
 subst ho;(refine .pure fun d pos af gd w=>?_);obtain⟨dd,i,z,e1,e2,-⟩:=aF hT;obtain⟨wW,i',z',sA,rI,mH,oa,-⟩:=aF ON;(have VQ:i'.size≠0:=by rw[oa];exact Fh hz);rw[hk] at e2;(cases dd<;>simp[kindOf] at e2);rename_i fields;subst e2
 have QS:∃fd,fields[f]? =some fd∧fd.type=ft∧fd.offset=n:=by
  simp only[List.getElem?_map,Option.map_eq_some_iff] at hf;obtain⟨fd,h1,h2⟩:=hf;simp only[Prod.mk.injEq] at h2;exact⟨fd,by simpa using h1,h2.1,h2.2⟩
 obtain⟨fd,h1,rfl,rfl⟩:=QS;simp[execOp,Instr.fieldAt,run_underlying e1,hx,h1,Instr.sureAddr,fieldPlace,sizeOf,typeInfo,mH,VQ,addr_add]
theorem Rd.Fk {T:TypeId} {x y:Operand} {g o len cap e sz m:Nat} {i:Int} {kk:IntKind} {r re:Ty} (hT:aX P T=some r) (hk:r.k=.slice e) (hE:aX P e=some re)
 (hx:ev ρ x=.slice (some ⟨g,o,none⟩) len cap) (hy:ev ρ y=.int kk i) (aV:0≤i∧i<len) (gO:re.size=sz) (ho:o+i.toNat*sz=m):Rd P ρ S (.indexAddr T x y) ty (.pointer (some ⟨g,m,none⟩)):=by
 subst gO;subst ho;(refine .pure fun d pos af gd w=>?_);obtain⟨dd,i',z,e1,e2,-⟩:=aF hT;obtain⟨wW,i'',z',sA,rI,mH,oa,-⟩:=aF hE;rw[hk] at e2;(cases dd<;>simp[kindOf] at e2);subst e2;simp[execOp,Instr.indexAt,run_underlying e1,hx,hy,asIntOf,sizeOf,typeInfo,mH,oa,addr_add,aV]
theorem Rd.Fl {T:TypeId} {x y:Operand} {g o n e sz m:Nat} {i:Int} {kk:IntKind} {r re:Ty} (hT:aX P T=some r) (hk:r.k=.array n e) (hE:aX P e=some re)
 (hx:ev ρ x=.pointer (some ⟨g,o,none⟩)) (hy:ev ρ y=.int kk i) (aV:0≤i∧i<n) (gO:re.size=sz) (ho:o+i.toNat*sz=m):Rd P ρ S (.indexAddr T x y) ty (.pointer (some ⟨g,m,none⟩)):=by
 subst gO;subst ho;(refine .pure fun d pos af gd w=>?_);obtain⟨dd,i',z,e1,e2,-⟩:=aF hT;obtain⟨wW,i'',z',sA,rI,mH,oa,-⟩:=aF hE;rw[hk] at e2;(cases dd<;>simp[kindOf] at e2);obtain⟨rfl,rfl⟩:=e2;simp[execOp,Instr.indexAt,run_underlying e1,hx,hy,asIntOf,sizeOf,typeInfo,mH,oa,addr_add,aV,Instr.sureAddr]
theorem Rd.nilCheck {x:Operand} {a:Addr} (hx:ev ρ x=.pointer (some a)):Rd P ρ S (.nilCheck x) ty (.pointer (some a)):=.pure fun _ _ _ _ _=>by simp[execOp,hx]
theorem Rd.sJ {T:TypeId} {x y:Operand} {n e:Nat} {i:Int} {kk:IntKind} {r re:Ty} {cs:Array Value} {v:Value} (hT:aX P T=some r) (hk:r.k=.array n e) (hE:aX P e=some re) (KM:re.k.agg=false) (gO:re.size=1)
 (hx:ev ρ x=.agg cs) (hy:ev ρ y=.int kk i) (aV:0≤i∧i<n) (hv:cs[i.toNat]? =some v):Rd P ρ S (.index T x y) ty v:=by
 (refine .pure fun d pos af gd w=>?_);obtain⟨dd,i',z,e1,e2,-⟩:=aF hT;obtain⟨wW,i'',z',sA,rI,mH,oa,-⟩:=aF hE;have ha:=(Fi rI).trans KM
 have hag:(isAgg e).run P w=.ok false w:=by
  unfold isAgg;rw[Sem.run_bind,run_underlying sA w];cases wW<;>simp_all
 rw[hk] at e2;(cases dd<;>simp[kindOf] at e2);obtain⟨rfl,rfl⟩:=e2;simp[execOp,Instr.index,run_underlying e1,hx,hy,asIntOf,sizeOf,typeInfo,mH,oa,aV,part,hag,gO,hv]
theorem OO {o:BinOp} {T:TypeId} {x y:Operand} {kk:IntKind} {a b:Int} (hx:ev ρ x=.int kk a) (hy:ev ρ y=.int kk b) (w:World):
 (do eqGuard o T x y (ev ρ x) (ev ρ y);binOp o T (ev ρ x) (ev ρ y):Sem Value).run P w=(binOp o T (.int kk a) (.int kk b)).run P w:=by
 simp[eqGuard,hx,hy]
theorem Rd.bin {o:BinOp} {T T':TypeId} {x y:Operand} {kk:IntKind} {a b:Int} {v:Value} (hx:ev ρ x=.int kk a) (hy:ev ρ y=.int kk b) (hr:∀w,(binOp o T (.int kk a) (.int kk b)).run P w=.ok v w):Rd P ρ S (.binOp o T x y T') ty v:=
 .pure fun _ _ _ _ w=>by
  have:=OO (P:=P) (o:=o) (T:=T) hx hy w;simp only[execOp];rw[Sem.run_bind,this,hr w];rfl
section bin
variable {T T':TypeId} {x y:Operand} {kk:IntKind} {a b:Int}
theorem Rd.add (hx:ev ρ x=.int kk a) (hy:ev ρ y=.int kk b):Rd P ρ S (.binOp .add T x y T') ty (.int kk (kk.wrap (a+b))):=.bin hx hy fun w=>by simp[binOp,Op.intArith]
theorem Rd.sub (hx:ev ρ x=.int kk a) (hy:ev ρ y=.int kk b):Rd P ρ S (.binOp .sub T x y T') ty (.int kk (kk.wrap (a-b))):=.bin hx hy fun w=>by simp[binOp,Op.intArith]
theorem Rd.mul (hx:ev ρ x=.int kk a) (hy:ev ρ y=.int kk b):Rd P ρ S (.binOp .mul T x y T') ty (.int kk (kk.wrap (a*b))):=.bin hx hy fun w=>by simp[binOp,Op.intArith]
theorem wrap64_in {n:Int} (h1:-9223372036854775808≤n) (h2:n≤9223372036854775807):IntKind.i64.wrap n=n:=IntWalk.i64_in n ⟨h1,h2⟩
theorem Rd.Sm {c:Int} (hx:ev ρ x=.int .i64 a) (hy:ev ρ y=.int .i64 b) (hc:a+b=c) (hr:-9223372036854775808≤c∧c≤9223372036854775807):Rd P ρ S (.binOp .add T x y T') ty (.int .i64 c):=by
 have:=Rd.add (P:=P) (S:=S) (T:=T) (T':=T') (ty:=ty) hx hy;rwa [hc,wrap64_in hr.1 hr.2] at this
theorem Rd.Z1 {c:Int} (hx:ev ρ x=.int .i64 a) (hy:ev ρ y=.int .i64 b) (hc:a-b=c) (hr:-9223372036854775808≤c∧c≤9223372036854775807):Rd P ρ S (.binOp .sub T x y T') ty (.int .i64 c):=by
 have:=Rd.sub (P:=P) (S:=S) (T:=T) (T':=T') (ty:=ty) hx hy;rwa [hc,wrap64_in hr.1 hr.2] at this
theorem Rd.VR {c:Int} (hx:ev ρ x=.int .i64 a) (hy:ev ρ y=.int .i64 b) (hc:a*b=c) (hr:-9223372036854775808≤c∧c≤9223372036854775807):Rd P ρ S (.binOp .mul T x y T') ty (.int .i64 c):=by
 have:=Rd.mul (P:=P) (S:=S) (T:=T) (T':=T') (ty:=ty) hx hy;rwa [hc,wrap64_in hr.1 hr.2] at this
theorem Rd.lss (hx:ev ρ x=.int kk a) (hy:ev ρ y=.int kk b):Rd P ρ S (.binOp .lss T x y T') ty (.bool (decide (a<b))):=.bin hx hy fun w=>by simp[binOp,Op.intCmp]
theorem Rd.leq (hx:ev ρ x=.int kk a) (hy:ev ρ y=.int kk b):Rd P ρ S (.binOp .leq T x y T') ty (.bool (decide (a≤b))):=.bin hx hy fun w=>by simp[binOp,Op.intCmp]
theorem Rd.gtr (hx:ev ρ x=.int kk a) (hy:ev ρ y=.int kk b):Rd P ρ S (.binOp .gtr T x y T') ty (.bool (decide (b<a))):=.bin hx hy fun w=>by simp[binOp,Op.intCmp]
theorem Rd.geq (hx:ev ρ x=.int kk a) (hy:ev ρ y=.int kk b):Rd P ρ S (.binOp .geq T x y T') ty (.bool (decide (b≤a))):=.bin hx hy fun w=>by simp[binOp,Op.intCmp]
theorem Rd.eql (hx:ev ρ x=.int kk a) (hy:ev ρ y=.int kk b):Rd P ρ S (.binOp .eql T x y T') ty (.bool (decide (a=b))):=.bin hx hy fun w=>by simp[binOp,Op.intCmp];rfl
theorem Rd.neq (hx:ev ρ x=.int kk a) (hy:ev ρ y=.int kk b):Rd P ρ S (.binOp .neq T x y T') ty (.bool (decide (a≠b))):=.bin hx hy fun w=>by simp[binOp,Op.intCmp];by_cases e:a=b<;>simp[e]
theorem Rd.quo (hx:ev ρ x=.int kk a) (hy:ev ρ y=.int kk b) (hb:b≠0):Rd P ρ S (.binOp .quo T x y T') ty (.int kk (kk.wrap (a.tdiv b))):=.bin hx hy fun w=>by simp[binOp,Op.intDiv,hb]
theorem Rd.rem (hx:ev ρ x=.int kk a) (hy:ev ρ y=.int kk b) (hb:b≠0):Rd P ρ S (.binOp .rem T x y T') ty (.int kk (a.tmod b)):=.bin hx hy fun w=>by simp[binOp,Op.intDiv,hb]
theorem Rd.shr {yk:IntKind} (hx:ev ρ x=.int kk a) (hy:ev ρ y=.int yk b) (hb:0≤b):Rd P ρ S (.binOp .shr T x y T') ty (.int kk (a.fdiv (2^(min b.toNat kk.bits)))):=
 .pure fun _ _ _ _ w=>by simp[execOp,eqGuard,hx,hy,binOp,Op.shift,Int.not_lt.2 hb]
theorem Rd.and (hx:ev ρ x=.int kk a) (hy:ev ρ y=.int kk b):Rd P ρ S (.binOp .and T x y T') ty (.int kk (kk.wrap (BitVec.ofInt kk.bits a&&& BitVec.ofInt kk.bits b).toNat)):=.bin hx hy fun w=>by simp[binOp,Op.intBits]
theorem Rd.KN {c:Int} (hx:ev ρ x=.int kk a) (hy:ev ρ y=.int kk b) (hb:b≠0) (hc:a.tmod b=c):Rd P ρ S (.binOp .rem T x y T') ty (.int kk c):=hc▸Rd.rem hx hy hb
theorem Rd.Z2 {yk:IntKind} {c:Int} (hx:ev ρ x=.int kk a) (hy:ev ρ y=.int yk b) (hb:0≤b) (hc:a.fdiv (2^(min b.toNat kk.bits))=c):Rd P ρ S (.binOp .shr T x y T') ty (.int kk c):=hc▸Rd.shr hx hy hb
theorem Rd.VT {c:Int} (hx:ev ρ x=.int kk a) (hy:ev ρ y=.int kk b) (hc:kk.wrap (BitVec.ofInt kk.bits a&&& BitVec.ofInt kk.bits b).toNat=c):Rd P ρ S (.binOp .and T x y T') ty (.int kk c):=hc▸Rd.and hx hy
theorem Rd.not {c:Bool} (hx:ev ρ x=.bool c):Rd P ρ S (.unOp .not T x) ty (.bool (!c)):=.pure fun _ _ _ _ w=>by simp[execOp,hx,Op.unary]
theorem Rd.Z3 {p:Prop} [Decidable p] (hx:ev ρ x=.bool (decide p)):Rd P ρ S (.unOp .not T x) ty (.bool (decide (¬p))):=by rw[decide_not];exact Rd.not hx
theorem Rd.OP {T1 T2:TypeId} {r1 r2:Ty} {k2:IntKind} (oW:aX P T1=some r1) (n8:aX P T2=some r2) (kP:r2.k=.int k2) (hx:ev ρ x=.int kk a):Rd P ρ S (.convert T1 T2 x) ty (.int k2 (k2.wrap a)):=by
 (refine .pure fun d pos af gd w=>?_);obtain⟨dd,i,z,e1,e2,-⟩:=aF oW;obtain⟨wW,i',z',sA,rI,-⟩:=aF n8;rw[kP] at rI;(cases wW<;>simp[kindOf] at rI);subst rI;simp[execOp,convert,run_underlying e1,run_underlying sA,hx,Conv.intToInt]
end bin
theorem Rd.CP {x:Operand} {T:TypeId} {r:Ty} {e:TypeId} {a:Option Addr} {n c:Nat} (hT:aX P T=some r) (hk:r.k=.slice e) (hx:ev ρ x=.slice a n c):Rd P ρ S (.call {callee:=.builtin .len,args:=#[x],argTypes:=#[T]}) ty (.int .i64 n):=by
 (refine .pure fun d pos af gd w=>?_);obtain⟨dd,i,z,e1,e2,-⟩:=aF hT;rw[hk] at e2;(cases dd<;>simp[kindOf] at e2);simp[execOp,resolve,invoke,builtin,hx,Builtin.len_,run_underlying e1,goInt]
theorem Rd.uv {x:Operand} {T:TypeId} {r:Ty} {s:ByteArray} (hT:aX P T=some r) (hk:r.k=.string) (hx:ev ρ x=.string s):Rd P ρ S (.call {callee:=.builtin .len,args:=#[x],argTypes:=#[T]}) ty (.int .i64 s.size):=by
 (refine .pure fun d pos af gd w=>?_);obtain⟨dd,i,z,e1,e2,-⟩:=aF hT;rw[hk] at e2;(cases dd<;>simp[kindOf] at e2);simp[execOp,resolve,invoke,builtin,hx,Builtin.len_,run_underlying e1,goInt]
theorem Rd.extract {x:Operand} {i:Nat} {vs:Array Value} {v:Value} (hx:ev ρ x=.tuple vs) (hv:vs[i]? =some v):Rd P ρ S (.extract x i) ty v:=.pure fun _ _ _ _ w=>by simp[execOp,hx,Instr.extract,hv]
theorem Rd.nw {fn:Fn} {x:Operand} {v:Value} (h1:ev ρ x=v):Rd P ρ S (.makeFunc fn #[] #[x]) ty (.func fn (List.toArray []) (List.toArray [v])):=.pure fun _ _ _ _ w=>by simp[execOp,Instr.makeFunc,h1]
theorem Rd.I1 {fn:Fn} {x y:Operand} {v u:Value} (h1:ev ρ x=v) (h2:ev ρ y=u):Rd P ρ S (.makeFunc fn #[] #[x,y]) ty (.func fn (List.toArray []) (List.toArray [v,u])):=.pure fun _ _ _ _ w=>by simp[execOp,Instr.makeFunc,h1,h2]
end
theorem vv (w:World) (g:Nat) (cur cs:Array Value) (T:TypeId) (hg:w.heap[g]? =some (.cells cur T (0,0))):(w.setRow g cs).heap=w.heap.setIfInBounds g (.cells cs T (0,0)):=by
 apply Array.ext_getElem?;intro i;simp only[World.setRow,Array.getElem?_modify,Array.getElem?_setIfInBounds];by_cases e:g=i
 ·subst e;have hl:=nu hg;(have VU:w.heap[g]=.cells cur T (0,0):=by rw[Array.getElem?_eq_getElem hl] at hg;simpa using hg);simp[hl,VU]
 ·simp[e]
def dT (vs:List Value):Prop:=∀v∈vs,v.oneCell'=true
theorem kz {vs:List Value} (h:vs.all (·.oneCell')=true):dT vs:=by simpa[dT] using h
theorem fO {v:Value} {vs:List Value} (h1:v.oneCell'=true) (h2:dT vs):dT (v::vs):=by intro u hu;simp at hu;rcases hu with rfl|hu;exact h1;exact h2 u hu
theorem Wr.store {T:TypeId} {x y:Operand} {g o:Nat} {v:Value} {vs:List Value} {r:Ty} {l l':List Value} {T':TypeId} (hT:aX P T=some r) (hx:ev ρ x=.pointer (some ⟨g,o,none⟩)) (hy:ev ρ y=v) (hv:v.cells=vs.toArray)
 (hb:CO h g l T') (hn:vs.length=r.size) (gf:o+r.size≤l.length) (h1:dT vs) (hh:aQ l o vs=l'):Wr P ρ h (.store T x y) ty (fun v' h'=>v'=undef∧h'=mW h g l' T') qY:=by
 (refine Wr.ZZ fun d pos af gd w hw=>?_);obtain⟨dd,i,z,e1,e2,e3,e4,-⟩:=aF hT;(have hg:w.heap[g]? =some (.cells l.toArray T' (0,0)):=by rw[hw];exact hb.get);have gP:=run_storeCells_at P g o T' vs 0 l.toArray w hg (by simp;omega) h1;have KO:=vv w g l.toArray (l.take o++vs++l.drop (o+vs.length)).toArray T' hg;refine⟨w.setRow g (l.take o++vs++l.drop (o+vs.length)).toArray,?_,⟨rfl,rfl,rfl⟩,rfl,?_⟩
 ·simp only[Nat.add_zero] at gP;(have e5:v.cells.size=i.size:=by rw[hv];simp;omega);simp[execOp,Instr.storeAt,Instr.sureAddr,hx,hy,storeVar,sizeOf,typeInfo,e3,e5];simp[hv];simp at gP;simp[gP]
 ·rw[KO,←hh,hw];rfl
theorem Wr.alloc {T:TypeId} {r:Ty} {n:Nat} (hT:aX P T=some r) (hn:h.size=n):Wr P ρ h (.alloc T) ty (fun v h'=>v=.pointer (some ⟨n,0,none⟩)∧h'=h.push (.cells r.zero.toArray T (0,0))) qY:=by
 subst hn;(refine Wr.run fun d pos af gd w hw=>?_);obtain⟨dd,i,z,e1,e2,e3,e4,e5,e6,e7⟩:=aF hT;refine⟨_,w.alloc (.cells z.cells T (0,0)),?_,⟨rfl,rfl,rfl⟩,rfl,?_⟩
 ·simp[execOp,Instr.alloc,zeroValue,typeInfo,e3,e6,newVar,newRow,hw]
 ·rw[←e7,←hw,Array.toArray_toList];rfl
theorem Wr.box {T:TypeId} {x:Operand} {v:Value} {n:Nat} {l:List Value} (hx:ev ρ x=v) (hn:h.size=n) (hl:v.cells=l.toArray):Wr P ρ h (.box T x) ty (fun v' h'=>v'=.pointer (some ⟨n,0,none⟩)∧h'=h.push (.cells l.toArray T (0,0))) qY:=by
 subst hn;rw[←hl];(refine Wr.run fun d pos af gd w hw=>?_);refine⟨_,w.alloc (.cells v.cells T (0,0)),?_,⟨rfl,rfl,rfl⟩,rfl,?_⟩
 ·simp[execOp,Instr.box,newVar,newRow,hw,hx]
 ·rw[←hw];rfl
theorem Wr.Fm {T e:TypeId} {x:Operand} {v:Value} {n:Nat} {r re:Ty} {l:List Value} (hT:aX P T=some r) (hk:r.k=.slice e) (hE:aX P e=some re) (hx:ev ρ x=v) (hn:h.size=n) (hl:v.cells=l.toArray) (Kt:l.length=re.size) (hz:re.zero.length=re.size) (hs:re.size≤1000) (I3:Nat.beq re.size 0=false):
 Wr P ρ h (.buildSlice T 1 #[(0,x)]) ty (fun v' h'=>v'=.slice (some ⟨n,0,none⟩) 1 1∧h'=h.push (.cells l.toArray e (0,0))) qY:=by
 subst hn;(refine Wr.run fun d pos af gd w hw=>?_);obtain⟨dd,i,z,e1,e2,-⟩:=aF hT;obtain⟨wW,i',z',sA,rI,mH,oa,Fo,Bh,E4⟩:=aF hE;have Z4:re.size≠0:=Fh I3;rw[hk] at e2;(cases dd<;>simp[kindOf] at e2);rw[e2] at e1;clear e2;have za:z'.cells.size=re.size:=by rw[←Array.length_toList,E4,hz]
 have VW:∀(cs:List Value) (k:Nat) (acc:Array Value),k+cs.length≤acc.size→((cs.zipIdx k).foldl (fun(a:Array Value) (p:Value×Nat)=>a.setIfInBounds p.2 p.1) acc).toList=acc.toList.take k++cs++acc.toList.drop (k+cs.length):=by
  intro cs
  induction cs with
  |nil=>intro k acc hk;simp
  |cons c cs ih=>
   intro k acc hk;simp only[bF] at hk;simp only[List.zipIdx_cons,List.foldl_cons];rw[ih (k+1) _ (by simp;omega)];simp only[Array.toList_setIfInBounds,bF];have:=list_seg_step acc.toList k c cs (by simp;omega);simpa[Nat.add_assoc,Nat.add_comm 1] using this
 have gO:((Array.range re.size).map (z'.cells[· %z'.cells.size]!)).size=re.size:=by simp
 have cB:Array.foldl (fun(cs:Array Value) (p:Value×Nat)=>cs.setIfInBounds (0+p.2) p.1) ((Array.range re.size).map (z'.cells[· %z'.cells.size]!)) l.toArray.zipIdx=l.toArray:=by
  apply Array.ext';rw[←Array.foldl_toList];have:=VW l 0 ((Array.range re.size).map (z'.cells[· %z'.cells.size]!)) (by rw[gO];omega);simp only[Nat.zero_add,List.take_zero,List.nil_append] at this⊢;simp only[Array.toList_zipIdx];rw[this,List.drop_eq_nil_of_le (by simp;omega),List.append_nil]
 refine⟨_,w.alloc (.cells l.toArray e (0,0)),?_,⟨rfl,rfl,rfl⟩,rfl,by rw[←hw];rfl⟩
 have QU:Instr.fill (fun i=>some (i*re.size,re.size)) ((Array.range re.size).map (z'.cells[· %z'.cells.size]!)) [(0,v)]=some l.toArray:=by
  (have hc:v.cells.size=re.size:=by rw[hl];simpa using Kt);simp only[Instr.fill,Nat.zero_mul,hc,hl];rw[ag (by simp;omega),cB]
 simp[execOp,Instr.buildSlice,run_underlying e1,hx,sizeOf,typeInfo,mH,oa,zeroValue,Bh,Nat.not_lt.2 (show re.size≤16777216 by omega),Z4,hw,newRow];simp[za] at QU;rw[za,QU];simp[hw,newRow]
end ops
def Enters (P:Program) (f:FuncId):Prop:=∀args w,(callFunc f args).run P w=.ok (.enter f args) w
def js (P:Program) (f:FuncId) (vs:Array Value) (h:Heap) (R:Ending→Heap→Prop):Prop:=
 Enters P f∧∀w,w.heap=h→Calls P f vs w (fun e w'=>gC w w'∧R e w'.heap)
def Ret (R:Value→Heap→Prop):Ending→Heap→Prop
 |.returned v,h=>R v h
 |_,_=>False
theorem js.mono {f:FuncId} {vs:Array Value} {R R':Ending→Heap→Prop} (hc:js P f vs h R) (hr:∀e h',R e h'→R' e h'):js P f vs h R':=
 ⟨hc.1,fun w hw=>(hc.2 w hw).mono fun e w' ⟨s,r⟩=>⟨s,hr _ _ r⟩⟩
theorem Wr.z7 {f:FuncId} {fo:Operand} {first cap:List Value} {args:List Operand} {mE:Array TypeId} {vs:List Value} {ty:TypeId} {R:Ending→Heap→Prop} (hf:ev ρ fo=.func (.func f) first.toArray cap.toArray)
 (hc:js P f vs.toArray h R) (hv:first++args.map (ev ρ)++cap=vs) (ko:∀h',¬R .outgrown h'):
 Wr P ρ h (.call {callee:=.value fo,args:=args.toArray,argTypes:=mE}) ty (fun v h'=>R (.returned v) h') (fun c h'=>R (.panicked c) h'):=by
 refine⟨fun d pos af g a w next Q he hh hn hp=>?_⟩;unfold Oper.wp
 have cZ:(execOp (ev ρ) ⟨d,.call {callee:=.value fo,args:=args.toArray,argTypes:=mE},ty,pos,af,g⟩).run P w=.ok (.enter f vs.toArray) w:=by
  simp only[execOp,resolve,Sem.run_bind,hf,Deferred.ofValue,Sem.run_pure,Result.andThen_ok,invoke];(have e:first.toArray++Array.map (ev ρ) args.toArray++cap.toArray=vs.toArray:=by rw[←hv];simp);rw[e];exact hc.1 _ _
 rw[he,cZ,Oper.upon_enter];refine(hc.2 w hh).mono ?_;rintro e w' ⟨s,r⟩
 cases e with
 |returned v=>exact hn v w' s r
 |panicked c=>exact hp c w' s r
 |outgrown=>exact absurd r (ko _)
def CQ (P:Program) (fn:Func) (ρ:Env) (h:Heap) (v:Value):Prop:=∀(w:World) (a:Act),w.heap=h→e9 fn.ntmps a ρ→(results fn a.tmps).run P w=.ok v w
def sK (P:Program) (fn:Func) (R:Ending→Heap→Prop):lP
 |.normal,ρ,h|.ret,ρ,h=>∃v,CQ P fn ρ h v∧R (.returned v) h
 |.panic c,_,h=>R (.panicked c) h
 |_,_,_=>False
def eN (fn:Func):Bool:=fn.name != "runtime.NumGoroutine"
theorem enters {f:FuncId} {fn:Func} {c:Code} (hf:P.funcs[f]? =some fn) (hb:fn.body=some c) (hn:eN fn=true):Enters P f:=by
 intro args w;(have OQ:¬fn.name= "runtime.NumGoroutine" :=by simpa[eN] using hn);simp[callFunc,hf,OQ,hb]
theorem enter {f:FuncId} {fn:Func} {c:Code} {vs:Array Value} {ρ0:Env} {R:Ending→Heap→Prop} (hf:P.funcs[f]? =some fn) (hb:fn.body=some c) (hn:eN fn=true) (hN:Nat.ble vs.size fn.ntmps=true)
 (h0:∀s,vs.getD s undef=ρ0 s) (hx:X P fn.ntmps c ρ0 h (sK P fn R)):js P f vs h R:=by
 refine⟨enters hf hb hn,fun w hw=>calls_of_wp hf hb ?_⟩;have hN':vs.size≤fn.ntmps:=Nat.le_of_ble_eq_true hN
 have he:e9 fn.ntmps {tmps:=vs++Array.replicate (fn.ntmps-vs.size) undef,defers:=[]} ρ0:=by
  refine⟨by simp;omega,fun s=>?_⟩;rw[←h0 s];simp only[Array.getD_eq_getD_getElem?,Array.getElem?_append,Array.getElem?_replicate];by_cases e:s<vs.size
  ·simp[e]
  ·simp[e];split<;>simp
 refine wp_mono (hx.out w _ w (gC.refl w) hw he) ?_;rintro e a' w' ⟨h1,h2,er,h3,h4⟩
 cases e with
 |normal=>obtain⟨v,hr,hR⟩:=h4;exact⟨h1,v,hr w' a' rfl h3,h2,hR⟩
 |ret=>obtain⟨v,hr,hR⟩:=h4;exact⟨h1,v,hr w' a' rfl h3,h2,hR⟩
 |panic c=>exact⟨h1,h2,h4⟩
 |_=>exact h4.elim
@[reducible] def U:Env:=fun _=>undef
theorem Sn {f:FuncId} {fn:Func} {co:Code} {R:Ending→Heap→Prop} (hf:P.funcs[f]? =some fn) (hb:fn.body=some co) (hn:eN fn=true) (hN:Nat.ble 0 fn.ntmps=true)
 (hx:X P fn.ntmps co U h (sK P fn R)):js P f #[] h R:=
 enter hf hb hn hN (fun s=>match s with
  |s=>by simp) hx
theorem So {f:FuncId} {fn:Func} {co:Code} {a:Value} {R:Ending→Heap→Prop} (hf:P.funcs[f]? =some fn) (hb:fn.body=some co) (hn:eN fn=true) (hN:Nat.ble 1 fn.ntmps=true)
 (hx:X P fn.ntmps co (dO U 0 a) h (sK P fn R)):js P f #[a] h R:=
 enter hf hb hn hN (fun s=>match s with
  |0=>rfl
  |s+1=>by rw[show (#[a]:Array Value).getD (s+1) undef=undef from by simp,fv _ _ _ _ (by omega)]) hx
theorem Sp {f:FuncId} {fn:Func} {co:Code} {a b:Value} {R:Ending→Heap→Prop} (hf:P.funcs[f]? =some fn) (hb:fn.body=some co) (hn:eN fn=true) (hN:Nat.ble 2 fn.ntmps=true)
 (hx:X P fn.ntmps co (dO (dO U 0 a) 1 b) h (sK P fn R)):js P f #[a,b] h R:=
 enter hf hb hn hN (fun s=>match s with
  |0=>rfl
  |1=>rfl
  |s+2=>by rw[show (#[a,b]:Array Value).getD (s+2) undef=undef from by simp,fv _ _ _ _ (by omega),fv _ _ _ _ (by omega)]) hx
theorem Sq {f:FuncId} {fn:Func} {co:Code} {a b c:Value} {R:Ending→Heap→Prop} (hf:P.funcs[f]? =some fn) (hb:fn.body=some co) (hn:eN fn=true) (hN:Nat.ble 3 fn.ntmps=true)
 (hx:X P fn.ntmps co (dO (dO (dO U 0 a) 1 b) 2 c) h (sK P fn R)):js P f #[a,b,c] h R:=
 enter hf hb hn hN (fun s=>match s with
  |0=>rfl
  |1=>rfl
  |2=>rfl
  |s+3=>by rw[show (#[a,b,c]:Array Value).getD (s+3) undef=undef from by simp,fv _ _ _ _ (by omega),fv _ _ _ _ (by omega),fv _ _ _ _ (by omega)]) hx
theorem Sr {f:FuncId} {fn:Func} {co:Code} {a b c d:Value} {R:Ending→Heap→Prop} (hf:P.funcs[f]? =some fn) (hb:fn.body=some co) (hn:eN fn=true) (hN:Nat.ble 4 fn.ntmps=true)
 (hx:X P fn.ntmps co (dO (dO (dO (dO U 0 a) 1 b) 2 c) 3 d) h (sK P fn R)):js P f #[a,b,c,d] h R:=
 enter hf hb hn hN (fun s=>match s with
  |0=>rfl
  |1=>rfl
  |2=>rfl
  |3=>rfl
  |s+4=>by rw[show (#[a,b,c,d]:Array Value).getD (s+4) undef=undef from by simp,fv _ _ _ _ (by omega),fv _ _ _ _ (by omega),fv _ _ _ _ (by omega),fv _ _ _ _ (by omega)]) hx
theorem CQ.none {fn:Func} (hf:fn.results=#[]):CQ P fn ρ h (.tuple #[]):=fun w a _ _=>by simp[results,hf]
theorem CQ.one {fn:Func} {t:Tmp} {v:Value} (hf:fn.results=#[.tmp t]) (hv:ρ t=v):CQ P fn ρ h v:=fun w a _ he=>by
 have:=he.get t;simp[results,hf];rw[←hv];simpa using this
theorem CQ.two {fn:Func} {t u:Tmp} {v v':Value} (hf:fn.results=#[.tmp t,.tmp u]) (hv:ρ t=v) (Z5:ρ u=v'):CQ P fn ρ h (.tuple #[v,v']):=fun w a _ he=>by
 have h1:=he.get t;have h2:=he.get u;simp[results,hf];rw[←hv,←Z5];simp at h1 h2;simp[h1,h2]
theorem CQ.cell {fn:Func} {t:Tmp} {T:TypeId} {g o:Nat} {v:Value} (hf:fn.results=#[.cell t T]) (hv:ρ t=.pointer (some ⟨g,o,Option.none⟩)) (hl:Ld P h T g o v):CQ P fn ρ h v:=fun w a hw he=>by
 have h1:=he.get t;rw[hv] at h1;simp at h1;simp[results,hf,h1,asAddr,hl w hw]
end
end X
end Go.Proofs.YtgeoiflbjcehcaaGreatDoor
