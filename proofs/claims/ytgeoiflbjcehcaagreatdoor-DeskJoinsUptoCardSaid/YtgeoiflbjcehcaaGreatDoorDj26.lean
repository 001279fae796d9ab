import Derived.Test.YtgeoiflbjcehcaaGreatDoorDj25
import Derived.Lib.SplitLaws
import Derived.Lib.Join
import Derived.Shelf.Strings.OnBuilder
import Derived.Shelf.Strings.Search3
import Derived.Shelf.Strings.Count
import Derived.Shelf.Strings.Split
import Derived.Lib.Builder
import Derived.Lib.UnsafeStr
import Derived.Lib.AppendStr
import Derived.Laws.Externs
import Derived.Lib.ItoaLen
set_option maxHeartbeats 4000000
set_option maxRecDepth 2000
set_option linter.unusedVariables false
set_option linter.unusedSimpArgs false
namespace Go.Proofs.YtgeoiflbjcehcaaGreatDoor
open Go X
def dN:List UInt8→List UInt8→List ByteArray
 |[],w=>if w=[] then [] else [⟨w.toArray⟩]
 |c::r,w=>if c=32 then (if w=[] then dN r [] else ⟨w.toArray⟩::dN r []) else dN r (w++[c])
def eu (s:ByteArray):List ByteArray:=dN s.data.toList []
def fq:List UInt8→List UInt8→List (List UInt8)
 |[],w=>[w]
 |c::r,w=>if c=32 then w::fq r [] else fq r (w++[c])
theorem rl (c:UInt8):∀(l w:List UInt8),∃x xs,fq l w=x::xs∧fq l (c::w)=(c::x)::xs
 |[],w=>⟨w,[],rfl,rfl⟩
 |d::r,w=>by
  rw[fq,fq];split
  ·exact⟨_,_,rfl,rfl⟩
  ·exact rl c r (w++[d])
theorem Hg {b c:UInt8} {l:List UInt8} (h:b≠c):Lib.index (b::l) [c]=if Lib.index l [c]==-1 then-1 else Lib.index l [c]+1:=by
 (have hp:([c]:List UInt8).isPrefixOf (b::l)=false:=by simp[List.isPrefixOf,Ne.symm h]);rw[Lib.index,hp];simp
theorem Hh (c:UInt8) (l:List UInt8):Lib.index (c::l) [c]=((0:Nat):Int):=by rw[Lib.index];simp[List.isPrefixOf]
theorem mX:∀(l:List UInt8),Lib.splitK [32] 0 (l.count 32) l=fq l []
 |[]=>rfl
 |c::r=>by
  have ih:=mX r;by_cases hc:c=32
  ·subst hc;rw[List.count_cons_self,fq,if_pos rfl,Lib.splitK,Hh,if_neg (by decide),←ih];simp
  ·rw[List.count_cons_of_ne (fun h=>hc (by first|exact h|exact h.symm)),fq,if_neg hc];obtain⟨x,xs,h1,h2⟩:=rl c r [];show _=fq r ([]++[c]);rw[List.nil_append,h2];rw[h1] at ih
   cases hk:r.count 32 with
   |zero=>
    rw[hk,Lib.splitK] at ih;cases ih;rw[Lib.splitK]
   |succ k=>
    rw[hk,Lib.splitK] at ih;rw[Lib.splitK,Hg hc];by_cases hi:(Lib.index r [32]==-1)=true
    ·rw[if_pos hi] at ih;cases ih;rw[if_pos hi,if_pos (by decide)]
    ·rw[if_neg hi] at ih;have fW:Lib.index r [32]≠-1:=fun e=>hi (beq_iff_eq.2 e)
     have Io:0≤Lib.index r [32]:=by
      rcases Lib.index_spec r [32] with ⟨a,-⟩|⟨i,a,-⟩
      ·exact absurd a fW
      ·rw[a];omega
     obtain⟨i,WX⟩:∃i:Nat,Lib.index r [32]=i:=⟨(Lib.index r [32]).toNat,by omega⟩;rw[if_neg hi,if_neg (by rw[WX];exact fun e=>by have:=beq_iff_eq.1 e;omega)];rw[WX] at ih⊢;(have e1:((i:Int)+1).toNat=i+1:=by omega);(have e2:((i:Int)).toNat=i:=by omega);rw[e2] at ih;rw[e1];simp only[List.length_cons,List.length_nil,Nat.add_zero,Nat.zero_add,List.take_succ_cons,List.drop_succ_cons] at ih⊢;cases ih;rfl
theorem iV:∀(l w:List UInt8),((fq l w).filter (fun x=>decide (x≠[]))).map (fun x=>(⟨x.toArray⟩:ByteArray))=dN l w
 |[],w=>by
  rw[fq,dN];by_cases h:w=[]
  ·subst h;rfl
  ·rw[if_neg h,List.filter_cons_of_pos (by simpa using h)];rfl
 |c::r,w=>by
  rw[fq,dN];split
  ·by_cases h:w=[]
   ·subst h;rw[if_pos rfl,List.filter_cons_of_neg (by simp)];exact iV r []
   ·rw[if_neg h,List.filter_cons_of_pos (by simpa using h),List.map_cons,iV r []]
  ·exact iV r _
theorem yJ (s:ByteArray):(Lib.splitB ⟨#[32]⟩ 0 (Lib.countB s ⟨#[32]⟩) s).filter (fun x=>decide (x≠ByteArray.empty))=eu s:=by
 have h:=Lib.splitB_data ⟨#[32]⟩ 0 (Lib.countB s ⟨#[32]⟩) s;rw[show Lib.countB s ⟨#[32]⟩=s.data.toList.count 32 from Lib.count_one 32 s.data.toList] at h⊢;rw[show (ByteArray.mk #[32]).data.toList=[32] from rfl,mX] at h;rw[eu,←iV,←h];generalize Lib.splitB ⟨#[32]⟩ 0 (s.data.toList.count 32) s=L;clear h
 induction L with
 |nil=>rfl
 |cons x L ih=>
  (have e:(⟨x.data.toList.toArray⟩:ByteArray)=x:=by simp);by_cases hx:x=ByteArray.empty
  ·subst hx;rw[List.map_cons,List.filter_cons_of_neg (by simp),List.filter_cons_of_neg (by simp),ih]
  ·(have mh:x.data.toList≠[]:=fun q=>hx (by rw[←e,q];rfl));rw[List.map_cons,List.filter_cons_of_pos (by simpa using hx),List.filter_cons_of_pos (by simpa using mh),List.map_cons,←ih,e]
def gL:List ByteArray→Option (List Int)
 |[]=>some []
 |w::l=>match gP w with
  |none=>none
  |some n=>(gL l).map (n:: ·)
def zF:ByteArray:=⟨#[10]⟩
def wT:ByteArray:=⟨#[32]⟩
def gH (t s:ByteArray):ByteArray:=t++(s++zF)
def cZ (t:ByteArray) (l:List ByteArray):ByteArray:=l.foldl gH t
def eG (l:List Int):ByteArray:=l.foldl (fun s n=>s++(wT++eI n)) ByteArray.empty
def oX:ByteArray:=⟨#[99,111,100,101]⟩
def Er:ByteArray:=⟨#[111,117,116]⟩
def wo:ByteArray:=⟨#[99,101,108,108,115]⟩
def fE:ByteArray:=⟨#[110,111]⟩
def WY:ByteArray:=⟨#[111,107]⟩
def Es:ByteArray:=⟨#[100,105,100]⟩
def rm:ByteArray:=⟨#[116,111,111,107]⟩
def lZ:ByteArray:=⟨#[119,104,97,116]⟩
def dG (a:ByteArray) (n:Int):ByteArray:=a++(wT++eI n)
def jI (c:Int) (out cells:List Int):List ByteArray:=[dG oX c,Er++eG out,wo++eG cells]
def rn:List ByteArray→ByteArray
 |[]=>ByteArray.empty
 |x::r=>r.foldl (fun t y=>t++zF++y) x
structure jT where
 text:List ByteArray
 input:List Int
 tp:Option (Pr×List Int×Li)
def lj (n:Int):Int:=IntKind.wrap .u64 n
def iz (d:jT) (p:Pr) (inp:List Int) (L:Li) (s:oV):jT×List ByteArray:=
 if bh s≠0 then (d,[dG fE (bh s)]) else ({d with tp:=some (p,inp,(jB (ak p) inp s L).1)},[dG Es ((jB (ak p) inp s L).2:Nat)])
def tq (x:Int×Int):ByteArray:=dG (dG fE x.1) x.2
def Et:ByteArray:=⟨#[110,101,119]⟩
def Hi:ByteArray:=⟨#[105,110,112,117,116]⟩
def uX:ByteArray:=⟨#[98,111,111,116]⟩
def iE:ByteArray:=⟨#[105,100,101,97,108]⟩
def oY:ByteArray:=⟨#[114,117,110]⟩
def qv:ByteArray:=⟨#[99,114,97,115,104]⟩
def jJ:ByteArray:=⟨#[116,101,97,114]⟩
def Eu:ByteArray:=⟨#[110,111,119]⟩
def iJ (d:jT):jT×List ByteArray:=match bZ (rn d.text) with
 |.error x=>(d,[tq x])
 |.ok p=>if 40<d.input.length then (d,[dG fE 1]) else ({d with tp:=some (p,d.input,L0 (sizes p.vars).toNat)},[WY])
def wu (p:Pr) (inp:List Int) (fuel:Nat):List ByteArray:=
 dG rm ((runM (ak p) inp fuel (tl (sizes p.vars).toNat)).2:Nat)::jI (uh (runM (ak p) inp fuel (tl (sizes p.vars).toNat)).1) (runM (ak p) inp fuel (tl (sizes p.vars).toNat)).1.out (runM (ak p) inp fuel (tl (sizes p.vars).toNat)).1.m.cells
def jU (d:jT) (fuel:Int):List ByteArray:=match bZ (rn d.text) with
 |.error x=>[tq x]
 |.ok p=>if 40<d.input.length∨fuel<0∨3000<fuel then [dG fE 1] else wu p d.input fuel.toNat
def jK (d:jT) (p:Pr) (inp:List Int) (L:Li) (w:ByteArray) (n:List Int):jT×List ByteArray:=
 if w=oY∧n.length=1 then iz d p inp L ⟨1,n.getD 0 0,0,0⟩
 else if w=qv∧n.length=1 then iz d p inp L ⟨2,0,0,lj (n.getD 0 0)⟩
 else if w=jJ∧n.length=3 then iz d p inp L ⟨3,n.getD 0 0,n.getD 1 0,lj (n.getD 2 0)⟩
 else if w=Eu∧n.length=0 then (d,jI (uh L.b) L.b.out L.b.m.cells)
 else (d,[lZ])
def jV (d:jT) (w:ByteArray) (n:List Int):jT×List ByteArray:=
 if w=Et∧n.length=0 then ({d with text:=[]},[])
 else if w=Hi then ({d with input:=n},[])
 else if w=uX∧n.length=0 then iJ d
 else if w=iE∧n.length=1 then (d,jU d (n.getD 0 0))
 else match d.tp with
  |none=>(d,[lZ])
  |some (p,inp,L)=>jK d p inp L w n
def fQ (d:jT) (s:ByteArray):jT×List ByteArray:=
 if 0<s.size∧bc s 0=124 then ({d with text:=d.text++[s.extract 1 s.size]},[])
 else match eu s with
  |[]=>(d,[])
  |w::r=>match gL r with
   |none=>(d,[lZ])
   |some n=>jV d w n
def cy:jT→List ByteArray→jT×List ByteArray
 |d,[]=>(d,[])
 |d,s::l=>((cy (fQ d s).1 l).1,(fQ d s).2++(cy (fQ d s).1 l).2)
def qx:jT:=⟨[],[],none⟩
theorem nF:∀(a b:List ByteArray) (d:jT),cy d (a++b)=((cy (cy d a).1 b).1,(cy d a).2++(cy (cy d a).1 b).2)
 |[],b,d=>rfl
 |s::a,b,d=>by
  rw[List.cons_append,cy,nF a b,cy];simp only[List.append_assoc]
theorem nG (t:ByteArray) (a b:List ByteArray):cZ t (a++b)=cZ (cZ t a) b:=List.foldl_append
theorem l9:∀(l:List ByteArray) (t:ByteArray),cZ t l=t++cZ ByteArray.empty l
 |[],t=>by simp[cZ]
 |s::l,t=>by
  show cZ (gH t s) l=t++cZ (gH ByteArray.empty s) l;rw[l9 l (gH t s),l9 l (gH ByteArray.empty s),gH,gH,ByteArray.append_assoc,ByteArray.empty_append]
theorem Ev (d:jT) (a b:List ByteArray):cZ ByteArray.empty (cy d (a++b)).2=cZ ByteArray.empty (cy d a).2++cZ ByteArray.empty (cy (cy d a).1 b).2:=by
 rw[nF,nG,l9]
def told:List ByteArray→Nat
 |[]=>0
 |s::l=>s.size+1+told l
theorem rq:∀(l:List ByteArray) (t:ByteArray),(cZ t l).size=t.size+told l
 |[],t=>rfl
 |s::l,t=>by
  show (cZ (gH t s) l).size=_;rw[rq l,gH,told];simp only[ByteArray.size_append];have e:zF.size=1:=rfl;omega
def oZ (s:ByteArray):Bool:=s.data.toList.any (· ==10)
def zQ:Int→List ByteArray→Int×Int
 |_,[]=>(0,0)
 |i,s::l=>if oZ s=true then (14,i) else zQ (i+1) l
def aM (l:List ByteArray):Int×Int:=if 150<l.length then (3,-1) else zQ 0 l
end Go.Proofs.YtgeoiflbjcehcaaGreatDoor
namespace Go.Proofs
open Go.Shelf
def Tryz.lays156_ren:Go.Shelf.Ren:=⟨fun|156=>46|165=>74|166=>45|169=>15|240=>73|241=>119|276=>118|277=>162|n=>n,fun|31=>22|9=>9|3=>3|4=>4|0=>0|20=>20|72=>46|76=>92|70=>43|37=>44|75=>87|127=>62|164=>182|5=>5|80=>52|n=>n,fun|n=>n⟩
theorem Tryz.lays156:Go.Proofs.Lays.n156 Tryz.prog Tryz.lays156_ren:={
 mixed:=by kernel_rfl
 f156:=Tryz.func46.trans (congrArg some (by kernel_rfl))
 f165:=Tryz.func74.trans (congrArg some (by kernel_rfl))
 f166:=Tryz.func45.trans (congrArg some (by kernel_rfl))
 f169:=Tryz.func15.trans (congrArg some (by kernel_rfl))
 f240:=Tryz.func73.trans (congrArg some (by kernel_rfl))
 f241:=Tryz.func119.trans (congrArg some (by kernel_rfl))
 f276:=Tryz.func118.trans (congrArg some (by kernel_rfl))
 f277:=Tryz.func162.trans (congrArg some (by kernel_rfl))
 t0:=Tryz.underlying0
 a0:=Tryz.isAgg0
 z0:=Tryz.sizeOf0
 v0:=Tryz.zeroValue0
 t3:=Tryz.underlying3
 a3:=Tryz.isAgg3
 z3:=Tryz.sizeOf3
 v3:=Tryz.zeroValue3
 t4:=Tryz.underlying4
 a4:=Tryz.isAgg4
 z4:=Tryz.sizeOf4
 v4:=Tryz.zeroValue4
 t9:=Tryz.underlying9
 a9:=Tryz.isAgg9
 z9:=Tryz.sizeOf9
 v9:=Tryz.zeroValue9
 t20:=Tryz.underlying20
 a20:=Tryz.isAgg20
 z20:=Tryz.sizeOf20
 v20:=Tryz.zeroValue20
 t31:=Tryz.underlying22
 a31:=Tryz.isAgg22
 z31:=Tryz.sizeOf22
 v31:=Tryz.zeroValue22
 t37:=Tryz.underlying44
 a37:=Tryz.isAgg44
 z37:=Tryz.sizeOf44
 v37:=Tryz.zeroValue44
 t70:=Tryz.underlying43
 a70:=Tryz.isAgg43
 z70:=Tryz.sizeOf43
 v70:=Tryz.zeroValue43
 t72:=Tryz.underlying46
 a72:=Tryz.isAgg46
 z72:=Tryz.sizeOf46
 v72:=Tryz.zeroValue46
 t75:=Tryz.underlying87
 a75:=Tryz.isAgg87
 z75:=Tryz.sizeOf87
 v75:=Tryz.zeroValue87
 t76:=Tryz.underlying92
 a76:=Tryz.isAgg92
 z76:=Tryz.sizeOf92
 v76:=Tryz.zeroValue92
 t127:=Tryz.underlying62
 a127:=Tryz.isAgg62
 z127:=Tryz.sizeOf62
 v127:=Tryz.zeroValue62
 t164:=Tryz.underlying182
 a164:=Tryz.isAgg182
 z164:=Tryz.sizeOf182
 v164:=Tryz.zeroValue182}
theorem Tryz.Builder_Extra_156:Builder.Extra Tryz.prog Tryz.lays156_ren:={
 sizeBuilder:=by kernel_rfl
 liesBuilder:=by kernel_rfl
 t5:=Tryz.underlying5
 a5:=Tryz.isAgg5
 z5:=Tryz.sizeOf5
 v5:=Tryz.zeroValue5
 infoByte:=by kernel_rfl
 cellsByte:=by kernel_rfl
 sizeByte:=by kernel_rfl
 neB5:=by decide}
open Go.RowKit in
theorem Tryz.strings_Join_none (a:Option Addr) (c:Nat) (sep:ByteArray) (w:World):
 Calls Tryz.prog 46 #[.slice a 0 c,.string sep] w fun e w'=>e=.returned (.string ⟨#[]⟩)∧w'=w:=Any.strings_Join_none Tryz.lays156 Tryz.Builder_Extra_156 a c sep w
open Go.RowKit in
theorem Tryz.strings_Join (bk o c:Nat) (xs:List ByteArray) (sep:ByteArray) (w:World) (dy:∀(j:Nat) x,xs[j]? =some x→w.cell? ⟨bk,o+j,none⟩=some (.string x)) (WL:bk<w.heap.size) (hN:xs.length≤140737488355328) (vv:xs.length≤c) (hlen:(Lib.join (xs.map (·.data.toList)) sep.data.toList).length≤140737488355328):
 Calls Tryz.prog 46 #[.slice (some ⟨bk,o,none⟩) xs.length c,.string sep] w fun e w'=>e=.returned (.string ⟨(Lib.join (xs.map (·.data.toList)) sep.data.toList).toArray⟩)∧Below w.heap.size w w':=Any.strings_Join Tryz.lays156 Tryz.Builder_Extra_156 bk o c xs sep w dy WL hN vv hlen
def Tryz.lays143_ren:Go.Shelf.Ren:=⟨fun|143=>18|219=>35|217=>56|225=>57|224=>58|267=>59|266=>89|314=>90|n=>n,fun|9=>9|3=>3|4=>4|5=>5|46=>40|146=>148|51=>147|n=>n,fun|1=>0|n=>n⟩
theorem Tryz.lays143:Go.Proofs.Lays.n143 Tryz.prog Tryz.lays143_ren:={
 mixed:=by kernel_rfl
 f143:=Tryz.func18.trans (congrArg some (by kernel_rfl))
 f217:=Tryz.func56.trans (congrArg some (by kernel_rfl))
 f219:=Tryz.func35.trans (congrArg some (by kernel_rfl))
 f224:=Tryz.func58.trans (congrArg some (by kernel_rfl))
 f225:=Tryz.func57.trans (congrArg some (by kernel_rfl))
 f266:=Tryz.func89.trans (congrArg some (by kernel_rfl))
 f267:=Tryz.func59.trans (congrArg some (by kernel_rfl))
 f314:=Tryz.func90.trans (congrArg some (by kernel_rfl))
 t3:=Tryz.underlying3
 a3:=Tryz.isAgg3
 z3:=Tryz.sizeOf3
 v3:=Tryz.zeroValue3
 t4:=Tryz.underlying4
 a4:=Tryz.isAgg4
 z4:=Tryz.sizeOf4
 v4:=Tryz.zeroValue4
 t5:=Tryz.underlying5
 a5:=Tryz.isAgg5
 z5:=Tryz.sizeOf5
 v5:=Tryz.zeroValue5
 t9:=Tryz.underlying9
 a9:=Tryz.isAgg9
 z9:=Tryz.sizeOf9
 v9:=Tryz.zeroValue9
 t46:=Tryz.underlying40
 a46:=Tryz.isAgg40
 z46:=Tryz.sizeOf40
 v46:=Tryz.zeroValue40
 t51:=Tryz.underlying147
 a51:=Tryz.isAgg147
 z51:=Tryz.sizeOf147
 v51:=Tryz.zeroValue147
 t146:=Tryz.underlying148
 a146:=Tryz.isAgg148
 z146:=Tryz.sizeOf148
 v146:=Tryz.zeroValue148
 g1:=by kernel_rfl}
open Go.RowKit Go.Lib in
theorem Tryz.strings_Index_one (s:ByteArray) (c:UInt8) (w:World):
 Calls Tryz.prog 18 #[.string s,.string ⟨#[c]⟩] w fun e w'=>e=.returned (.int .i64 (Lib.indexByte s.data.toList c))∧w'=w:=Any.strings_Index_one Tryz.lays143 s c w
def Tryz.lays144_ren:Go.Shelf.Ren:=⟨fun|144=>12|143=>18|219=>35|217=>56|225=>57|224=>58|267=>59|266=>89|314=>90|n=>n,fun|9=>9|4=>4|3=>3|5=>5|46=>40|146=>148|51=>147|n=>n,fun|1=>0|n=>n⟩
theorem Tryz.lays144:Go.Proofs.Lays.n144 Tryz.prog Tryz.lays144_ren:={
 mixed:=by kernel_rfl
 f143:=Tryz.func18.trans (congrArg some (by kernel_rfl))
 f144:=Tryz.func12.trans (congrArg some (by kernel_rfl))
 f217:=Tryz.func56.trans (congrArg some (by kernel_rfl))
 f219:=Tryz.func35.trans (congrArg some (by kernel_rfl))
 f224:=Tryz.func58.trans (congrArg some (by kernel_rfl))
 f225:=Tryz.func57.trans (congrArg some (by kernel_rfl))
 f266:=Tryz.func89.trans (congrArg some (by kernel_rfl))
 f267:=Tryz.func59.trans (congrArg some (by kernel_rfl))
 f314:=Tryz.func90.trans (congrArg some (by kernel_rfl))
 t3:=Tryz.underlying3
 a3:=Tryz.isAgg3
 z3:=Tryz.sizeOf3
 v3:=Tryz.zeroValue3
 t4:=Tryz.underlying4
 a4:=Tryz.isAgg4
 z4:=Tryz.sizeOf4
 v4:=Tryz.zeroValue4
 t5:=Tryz.underlying5
 a5:=Tryz.isAgg5
 z5:=Tryz.sizeOf5
 v5:=Tryz.zeroValue5
 t9:=Tryz.underlying9
 a9:=Tryz.isAgg9
 z9:=Tryz.sizeOf9
 v9:=Tryz.zeroValue9
 t46:=Tryz.underlying40
 a46:=Tryz.isAgg40
 z46:=Tryz.sizeOf40
 v46:=Tryz.zeroValue40
 t51:=Tryz.underlying147
 a51:=Tryz.isAgg147
 z51:=Tryz.sizeOf147
 v51:=Tryz.zeroValue147
 t146:=Tryz.underlying148
 a146:=Tryz.isAgg148
 z146:=Tryz.sizeOf148
 v146:=Tryz.zeroValue148
 g1:=by kernel_rfl}
open Go.RowKit Go.Lib in
theorem Tryz.strings_Contains_one (s:ByteArray) (c:UInt8) (w:World):
 Calls Tryz.prog 12 #[.string s,.string ⟨#[c]⟩] w fun e w'=>e=.returned (.bool (decide (0≤Lib.indexByte s.data.toList c)))∧w'=w:=Any.strings_Contains_one Tryz.lays144 s c w
def Tryz.lays138_ren:Go.Shelf.Ren:=⟨fun|138=>61|195=>91|218=>93|143=>18|219=>35|217=>56|225=>57|224=>58|267=>59|266=>89|314=>90|n=>n,fun|9=>9|3=>3|4=>4|5=>5|0=>0|46=>40|146=>148|51=>147|n=>n,fun|1=>0|n=>n⟩
theorem Tryz.lays138:Go.Proofs.Lays.n138 Tryz.prog Tryz.lays138_ren:={
 mixed:=by kernel_rfl
 f138:=Tryz.func61.trans (congrArg some (by kernel_rfl))
 f143:=Tryz.func18.trans (congrArg some (by kernel_rfl))
 f195:=Tryz.func91.trans (congrArg some (by kernel_rfl))
 f217:=Tryz.func56.trans (congrArg some (by kernel_rfl))
 f218:=Tryz.func93.trans (congrArg some (by kernel_rfl))
 f219:=Tryz.func35.trans (congrArg some (by kernel_rfl))
 f224:=Tryz.func58.trans (congrArg some (by kernel_rfl))
 f225:=Tryz.func57.trans (congrArg some (by kernel_rfl))
 f266:=Tryz.func89.trans (congrArg some (by kernel_rfl))
 f267:=Tryz.func59.trans (congrArg some (by kernel_rfl))
 f314:=Tryz.func90.trans (congrArg some (by kernel_rfl))
 t0:=Tryz.underlying0
 a0:=Tryz.isAgg0
 z0:=Tryz.sizeOf0
 v0:=Tryz.zeroValue0
 t3:=Tryz.underlying3
 a3:=Tryz.isAgg3
 z3:=Tryz.sizeOf3
 v3:=Tryz.zeroValue3
 t4:=Tryz.underlying4
 a4:=Tryz.isAgg4
 z4:=Tryz.sizeOf4
 v4:=Tryz.zeroValue4
 t5:=Tryz.underlying5
 a5:=Tryz.isAgg5
 z5:=Tryz.sizeOf5
 v5:=Tryz.zeroValue5
 t9:=Tryz.underlying9
 a9:=Tryz.isAgg9
 z9:=Tryz.sizeOf9
 v9:=Tryz.zeroValue9
 t46:=Tryz.underlying40
 a46:=Tryz.isAgg40
 z46:=Tryz.sizeOf40
 v46:=Tryz.zeroValue40
 t51:=Tryz.underlying147
 a51:=Tryz.isAgg147
 z51:=Tryz.sizeOf147
 v51:=Tryz.zeroValue147
 t146:=Tryz.underlying148
 a146:=Tryz.isAgg148
 z146:=Tryz.sizeOf148
 v146:=Tryz.zeroValue148
 g1:=by kernel_rfl}
open Go.RowKit Go.Lib in
theorem Tryz.strings_Count_one (s:ByteArray) (c:UInt8) (w:World):
 Calls Tryz.prog 61 #[.string s,.string ⟨#[c]⟩] w fun e w'=>e=.returned (.int .i64 (Lib.countByte s.data.toList c))∧w'=w:=Any.strings_Count_one Tryz.lays138 s c w
def Tryz.lays221_ren:Go.Shelf.Ren:=⟨fun|221=>37|268=>60|138=>61|143=>18|195=>91|197=>92|218=>93|219=>35|260=>133|217=>56|225=>57|224=>58|267=>59|266=>89|314=>90|n=>n,fun|9=>9|3=>3|31=>22|4=>4|0=>0|105=>151|21=>21|5=>5|46=>40|119=>248|139=>251|138=>250|146=>148|51=>147|n=>n,fun|1=>0|3=>4|4=>5|n=>n⟩
theorem Tryz.lays221:Go.Proofs.Lays.n221 Tryz.prog Tryz.lays221_ren:={
 mixed:=by kernel_rfl
 f138:=Tryz.func61.trans (congrArg some (by kernel_rfl))
 f143:=Tryz.func18.trans (congrArg some (by kernel_rfl))
 f195:=Tryz.func91.trans (congrArg some (by kernel_rfl))
 f197:=Tryz.func92.trans (congrArg some (by kernel_rfl))
 f217:=Tryz.func56.trans (congrArg some (by kernel_rfl))
 f218:=Tryz.func93.trans (congrArg some (by kernel_rfl))
 f219:=Tryz.func35.trans (congrArg some (by kernel_rfl))
 f221:=Tryz.func37.trans (congrArg some (by kernel_rfl))
 f224:=Tryz.func58.trans (congrArg some (by kernel_rfl))
 f225:=Tryz.func57.trans (congrArg some (by kernel_rfl))
 f260:=Tryz.func133.trans (congrArg some (by kernel_rfl))
 f266:=Tryz.func89.trans (congrArg some (by kernel_rfl))
 f267:=Tryz.func59.trans (congrArg some (by kernel_rfl))
 f268:=Tryz.func60.trans (congrArg some (by kernel_rfl))
 f314:=Tryz.func90.trans (congrArg some (by kernel_rfl))
 t0:=Tryz.underlying0
 a0:=Tryz.isAgg0
 z0:=Tryz.sizeOf0
 v0:=Tryz.zeroValue0
 t3:=Tryz.underlying3
 a3:=Tryz.isAgg3
 z3:=Tryz.sizeOf3
 v3:=Tryz.zeroValue3
 t4:=Tryz.underlying4
 a4:=Tryz.isAgg4
 z4:=Tryz.sizeOf4
 v4:=Tryz.zeroValue4
 t5:=Tryz.underlying5
 a5:=Tryz.isAgg5
 z5:=Tryz.sizeOf5
 v5:=Tryz.zeroValue5
 t9:=Tryz.underlying9
 a9:=Tryz.isAgg9
 z9:=Tryz.sizeOf9
 v9:=Tryz.zeroValue9
 t21:=Tryz.underlying21
 a21:=Tryz.isAgg21
 z21:=Tryz.sizeOf21
 v21:=Tryz.zeroValue21
 t31:=Tryz.underlying22
 a31:=Tryz.isAgg22
 z31:=Tryz.sizeOf22
 v31:=Tryz.zeroValue22
 t46:=Tryz.underlying40
 a46:=Tryz.isAgg40
 z46:=Tryz.sizeOf40
 v46:=Tryz.zeroValue40
 t51:=Tryz.underlying147
 a51:=Tryz.isAgg147
 z51:=Tryz.sizeOf147
 v51:=Tryz.zeroValue147
 t105:=Tryz.underlying151
 a105:=Tryz.isAgg151
 z105:=Tryz.sizeOf151
 v105:=Tryz.zeroValue151
 t119:=Tryz.underlying248
 a119:=Tryz.isAgg248
 z119:=Tryz.sizeOf248
 t138:=Tryz.underlying250
 a138:=Tryz.isAgg250
 z138:=Tryz.sizeOf250
 v138:=Tryz.zeroValue250
 t139:=Tryz.underlying251
 a139:=Tryz.isAgg251
 z139:=Tryz.sizeOf251
 v139:=Tryz.zeroValue251
 t146:=Tryz.underlying148
 a146:=Tryz.isAgg148
 z146:=Tryz.sizeOf148
 v146:=Tryz.zeroValue148
 g1:=by kernel_rfl
 g3:=by kernel_rfl
 g4:=by kernel_rfl}
end Go.Proofs
namespace Go.Proofs.YtgeoiflbjcehcaaGreatDoor
open Go X
theorem X.ae.R6 {P:Program} {σ:PH} {fid:FuncId} {vs:Array Value} {R:Nat→Value→Prop} {l:List Value} {T:TypeId} (he:Enters P fid) (hc:∀w:World,σ.le w.heap→Calls P fid vs w (fun e w'=>(∃v,e=.returned v∧R w.heap.size v)∧w'=w.alloc (.cells l.toArray T))):
 ae P fid vs σ [] (aE fun v ag ah=>∃g,R g v∧σ=ag∧ah=[au g l T]):=by
 refine⟨he,fun fr h hh=>⟨he,fun w hw=>?_⟩⟩;subst hw;refine(hc w hh.wN).mono ?_;rintro e w' ⟨⟨v,rfl,hr⟩,rfl⟩;exact⟨⟨rfl,rfl,rfl⟩,σ,[au w.heap.size l T],⟨_,hr,rfl,rfl⟩,hh.alloc l T⟩
theorem CV {σ:PH} {w:World} (hw:σ.le w.heap) {g o:Nat} {v:Value} (h:cz σ g o [v]):w.cell? ⟨g,o,none⟩=some v:=by
 obtain⟨l,T,fr,a,b⟩:=h.row hw
 have h0:l[o]? =some v:=by
  have:=congrArg (·[0]?) b;simpa using this
 simp[World.cell?,a,h0]
def wx (xs:List ByteArray) (sep:ByteArray):ByteArray:=⟨(Lib.join (xs.map (·.data.toList)) sep.data.toList).toArray⟩
theorem Hj (σ:PH) (v:Value) (xs:List ByteArray) (sep:ByteArray) (h:bO 1 n9 σ v xs) (hn:xs.length≤1000000) (hlen:(wx xs sep).size≤1000000000):
 ae Tryz.prog 46 #[v,.string sep] σ [] (aE fun r ag ah=>r=.string (wx xs sep)∧σ=ag∧ah=[]):=by
 obtain⟨p,c,rfl,h1,h2⟩:=h.shape;refine ae.below (enters Tryz.func46 rfl rfl) fun w hw=>?_
 cases xs with
 |nil=>
  refine(Tryz.strings_Join_none p c sep w).mono ?_;rintro e w' ⟨rfl,rfl⟩;exact⟨_,rfl,rfl,.refl _ _⟩
 |cons x r=>
  obtain⟨g,o,row,rfl,-,-,bL⟩:=h.at (k:=0) rfl
  have hg:g<w.heap.size:=by
   obtain⟨l,T,fr,a,-⟩:=bL.row hw;exact(Array.getElem?_eq_some_iff.1 a).1
  refine(Tryz.strings_Join g o c (x::r) sep w ?_ hg (by omega) h1 ?_).mono ?_
  ·intro j y hj;obtain⟨g',o',Aj,e,⟨rfl,-⟩,-,j4⟩:=h.at hj;cases e;rw[Nat.mul_one] at j4;exact CV hw j4
  ·(have:(wx (x::r) sep).size=(Lib.join ((x::r).map (·.data.toList)) sep.data.toList).length:=by simp[wx,ByteArray.size]);omega
  ·rintro e w' ⟨rfl,hb⟩;exact⟨_,rfl,rfl,hb⟩
theorem uY (c:UInt8):∀(l:List UInt8),decide (0≤Lib.indexByte l c)=l.any (· ==c)
 |[]=>by rw[Lib.indexByte];rfl
 |b::l=>by
  have ih:=uY c l;rw[Lib.indexByte,List.any_cons];split
  ·rename_i h;simp[h]
  ·rename_i h;rw[←ih];have Io:=Lib.indexByte_ge l c;(have hb:(b==c)=false:=by simpa using h);rw[hb,Bool.false_or];split
   ·rename_i h2;simp_all
   ·rename_i h2;(have:Lib.indexByte l c≠-1:=by simpa using h2);simp only[decide_eq_decide];omega
theorem yK (σ:PH) (s:ByteArray):ae Tryz.prog 12 #[.string s,.string ⟨#[10]⟩] σ [] (aE fun r ag ah=>r=.bool (oZ s)∧σ=ag∧ah=[]):=by
 (refine ae.below (enters Tryz.func12 rfl rfl) fun w hw=>?_;refine(Tryz.strings_Contains_one s 10 w).mono ?_);rintro e w' ⟨rfl,rfl⟩;exact⟨_,rfl,by rw[uY,oZ],.refl _ _⟩
def iF (s:ByteArray):List ByteArray:=Lib.splitB ⟨#[32]⟩ 0 (Lib.countB s ⟨#[32]⟩) s
theorem nH (s:ByteArray):(iF s).length=Lib.countB s ⟨#[32]⟩+1:=Lib.splitB_all _ (by decide) 0 _ s rfl
theorem Bk (σ:PH) (s:ByteArray) (hs:s.size≤100000000):
 ae Tryz.prog 37 #[.string s,.string ⟨#[32]⟩,i64 0,i64 (-1)] σ [] (aE fun r ag ah=>∃g,r=.slice (some ⟨g,0,none⟩) (iF s).length (iF s).length∧σ=ag∧ah=[au g ((iF s).map Value.string) 9]):=by
 (refine ae.R6 (enters Tryz.func37 rfl rfl) fun w hw=>?_);have hle:=Lib.countB_le ⟨#[32]⟩ (by decide) s.size s (Nat.le_refl _)
 have c:=Any.strings_genSplit_core Tryz.lays221 (by kernel_rfl) s ⟨#[32]⟩ 0 (-1) (Lib.countB s ⟨#[32]⟩+1) w (by omega) (by decide) (Nat.zero_le _)
  (fun x c hx=>(Tryz.strings_Index_one x 32 _).mono fun e w' ⟨a,b⟩=>⟨by rw[a,show Lib.indexB x ⟨#[32]⟩=Lib.indexByte x.data.toList 32 from (by show Lib.index _ _=_;exact Lib.index_one _ _)],b⟩)
  ((Tryz.strings_Count_one s 32 w).mono fun e w' ⟨a,b⟩=>⟨by rw[a,show Lib.countB s ⟨#[32]⟩=Lib.countByte s.data.toList 32 from Lib.count_one 32 s.data.toList],b⟩)
  (by decide) (by decide) (by rw[if_pos (by decide)];omega)
 refine c.mono ?_;rintro e w' ⟨rfl,rfl⟩;rw[Nat.add_sub_cancel];refine⟨⟨_,rfl,?_⟩,?_⟩
 ·show Value.slice _ (iF s).length _=_;rw[nH]
 ·rw[←nH,show Lib.splitB ⟨#[32]⟩ 0 (Lib.countB s ⟨#[32]⟩) s=iF s from rfl,Lib.cellsOf_full];rfl
theorem LF (σ:PH) (s:ByteArray) (hs:s.size≤100000000):
 ae Tryz.prog 20 #[.string s,.string ⟨#[32]⟩] σ [] (aE fun r ag ah=>∃g,r=.slice (some ⟨g,0,none⟩) (iF s).length (iF s).length∧σ=ag∧ah=[au g ((iF s).map Value.string) 9]):=by
 refine bS Tryz.func20 ?_;refine a8 ?_;refine zw rfl (aC.cE (Bk σ s hs) rfl) ?_;rintro _ _ _ ⟨_,⟨g,rfl,rfl,rfl⟩,rfl⟩;refine az.cl ?_;refine bM ?_;exact b8 rfl rfl ⟨g,rfl,rfl,rfl⟩
section
variable {P:Program} {ρ:Env} {S:Heap→Prop} {ty:TypeId} {σ:PH} {Γ ah:List HP}
theorem X.Rd.Bl {T T' e:TypeId} {x y:Operand} {r re:Ty} {a:Addr} (hT:av P T=some r) (hk:r.k=.pointer e) (hE:av P e=some re) (hx:ev ρ x=.pointer (some a)) (hy:ev ρ y=.pointer (some a)):Rd P ρ S (.binOp .neq T x y T') ty (.bool false):=by
 (refine .pure fun d pos af gd w=>?_);obtain⟨dd,i,z,e1,e2,-⟩:=aD hT;obtain⟨tO,i',z',rN,qI,jz,-⟩:=aD hE;rw[hk] at e2;(cases dd<;>simp[kindOf] at e2);rw[e2] at e1;have h1:=Lib.run_neq_ptr_same (P:=P) w a e1 jz;simp only[execOp,eqGuard,hx,hy,Sem.run_bind];simp[h1]
theorem X.Rd.uZ {T T' e:TypeId} {x:Operand} {r:Ty} {a:Option Addr} (hT:av P T=some r) (hk:r.k=.pointer e) (hx:ev ρ x=.pointer a):Rd P ρ S (.binOp .eql T x (.const (.pointer none)) T') ty (.bool a.isNone):=by
 (refine .pure fun d pos af gd w=>?_);obtain⟨dd,i,z,e1,e2,-⟩:=aD hT;rw[hk] at e2;(cases dd<;>simp[kindOf] at e2);rw[e2] at e1;(have hp:P.underlying T=some (.pointer (P.pointee T)):=by simp[Program.pointee,e1]);have h1:=run_equal_pointer_nil (P:=P) w T a hp;simp only[execOp,eqGuard,hx,ev,binOp,Sem.run_bind];simp[h1]
theorem qy {h:Heap} {g:Nat} {l:List Value} {T:TypeId} (hb:wX h g l T) {w:World} (hw:w.heap=h):w.shape? g=some (T,l.length):=by
 subst hw;simp[World.shape?,hb.get]
theorem X.Rd.Hk {T U e T':TypeId} {x:Operand} {r re:Ty} {g:Nat} {l:List Value} (hT:av P T=some r) (hk:r.k=.pointer e) (hE:av P e=some re) (hz:Nat.beq re.size 0=false) (hU:P.underlying U=some .unsafePointer) (hx:ev ρ x=.pointer (some ⟨g,0,none⟩)) (s:b6 Γ (X.au g l T') ah) (hl:0<l.length):
 Rd P ρ (Ho σ Γ) (.convert T U x) ty (.pointer (some ⟨g,0,none⟩)):=⟨fun d pos af gd w hS=>by
 obtain⟨dd,i,z,e1,e2,-⟩:=aD hT;obtain⟨tO,i',z',rN,qI,jz,kA,-⟩:=aD hE;rw[hk] at e2;(cases dd<;>simp[kindOf] at e2);rw[e2] at e1;(have gD:i'.size≠0:=by rw[kA];intro h;rw[h] at hz;cases hz);have h1:=Lib.run_to_unsafe (P:=P) w ⟨g,0,none⟩ e1 hU jz gD (qy (hS.au s) rfl) hl;simp only[execOp,hx,Sem.run_bind]
 simp[h1]⟩
theorem X.Rd.Bm {T U e T':TypeId} {x:Operand} {r re:Ty} {g n:Nat} {l:List Value} (hT:av P T=some r) (hk:r.k=.pointer e) (hE:av P e=some re) (hU:P.underlying U=some .unsafePointer) (hx:ev ρ x=.pointer (some ⟨g,0,none⟩)) (s:b6 Γ (X.au g l T') ah) (hl:l.length=n) (o5:liesAt P P.depth T' (n/P.cellsOf T') 0 e 1=true):
 Rd P ρ (Ho σ Γ) (.convert U T x) ty (.pointer (some ⟨g,0,none⟩)):=⟨fun d pos af gd w hS=>by
 obtain⟨dd,i,z,e1,e2,-⟩:=aD hT;obtain⟨tO,i',z',rN,qI,jz,kA,-⟩:=aD hE;rw[hk] at e2;(cases dd<;>simp[kindOf] at e2);rw[e2] at e1;have h1:=Lib.run_from_unsafe (P:=P) w ⟨g,0,none⟩ hU e1 jz (qy (hS.au s) rfl) (by rw[hl];exact o5);simp only[execOp,hx,Sem.run_bind]
 simp[h1]⟩
theorem X.Rd.Hl {f:FuncId} {fn:Func} {x:Operand} {v:Value} {jx:Array TypeId} (hf:P.funcs[f]? =some fn) (VA:(fn.name== "runtime.NumGoroutine")=false) (hb:fn.body.isNone=true) (hn:Extern.findNext fn=none) (he:Extern.find fn=some Extern.AbiNoEscape.same) (hx:ev ρ x=v):
 Rd P ρ S (.call {callee:=.value (.func f),args:=#[x],argTypes:=jx}) ty v:=by
 (refine .pure fun d pos af gd w=>?_);have h1:=run_callFunc_extern (P:=P) hf VA hb hn he #[v] w;rw[Lib.run_noEscape] at h1;simp only[execOp,resolve,Sem.run_bind,ev,Deferred.ofValue,Sem.run_pure,Result.andThen_ok,invoke];simp[hx,h1]
theorem X.Rd.Ew {x:Operand} {jx:Array TypeId} {a:Addr} {n c:Nat} (hx:ev ρ x=.slice (some a) n c) (hc:c≠0):Rd P ρ S (.call {callee:=.builtin .unsafeSliceData,args:=#[x],argTypes:=jx}) ty (.pointer (some a)):=by
 (refine .pure fun d pos af gd w=>?_);have h1:=Lib.run_unsafeSliceData_row (P:=P) w jx ty a n c hc;simp only[execOp,resolve,invoke,builtin,Sem.run_bind,Sem.run_pure,Result.andThen_ok,List.map_toArray,List.map_cons,List.map_nil,hx];simp[hx,h1]
theorem X.Rd.wy {x:Operand} {jx:Array TypeId} {n c:Nat} (hx:ev ρ x=.slice none n c):Rd P ρ S (.call {callee:=.builtin .unsafeSliceData,args:=#[x],argTypes:=jx}) ty (.pointer none):=by
 (refine .pure fun d pos af gd w=>?_);have h1:=Lib.run_unsafeSliceData_nil (P:=P) w jx ty n c;simp only[execOp,resolve,invoke,builtin,Sem.run_bind,Sem.run_pure,Result.andThen_ok,List.map_toArray,List.map_cons,List.map_nil,hx];simp[hx,h1]
theorem X.Rd.Bn {x y:Operand} {pt it:TypeId} {p:Option Addr} (hx:ev ρ x=.pointer p) (hy:ev ρ y=i64 0):Rd P ρ S (.call {callee:=.builtin .unsafeString,args:=#[x,y],argTypes:=#[pt,it]}) ty (.string ByteArray.empty):=by
 (refine .pure fun d pos af gd w=>?_);have h1:=Lib.run_unsafeString_none (P:=P) w pt it ty p;simp only[execOp,resolve,invoke,builtin,Sem.run_bind,Sem.run_pure,Result.andThen_ok,List.map_toArray,List.map_cons,List.map_nil,hx,hy];simp[hx,hy,h1]
end
theorem uj {w:World} {p:Addr} {n k:Nat} (h:k≠p.block):(w.freeze p n).heap[k]? =w.heap[k]? :=by
 unfold World.freeze;split
 ·rfl
 ·simp only[Array.getElem?_modify];rw[if_neg (fun e=>h e.symm)]
theorem yL (w:World) (p:Addr) (n:Nat):X.ec w (w.freeze p n):=by
 unfold World.freeze;split
 ·exact⟨rfl,rfl,rfl⟩
 ·exact⟨rfl,rfl,rfl⟩
theorem X.Holds.LG {σ f:PH} {Γ ah:List HP} {h h':Heap} {e size n c g:Nat} {xs:List Value} (x:Holds σ Γ f h) (s:b6 Γ (bn e size (.slice (some ⟨g,0,none⟩) n c) n xs) ah) (hb:∀k,k≠g→h'[k]? =h[k]?):Holds σ ah f h':=by
 obtain⟨m,a,b,c1,d,i,p,q⟩:=x;obtain⟨m1,m2,⟨r0,r1⟩,r2,r3,r4,r5⟩:=s.to a
 have own:∃o,m1 g=some o:=by
  rcases r1 with ⟨r1,-⟩|⟨g',cap,r1,cur,w1,-⟩
  ·cases r1
  ·simp only[Value.slice.injEq,Option.some.injEq,Addr.mk.injEq,and_true,true_and] at r1;obtain⟨rfl,-⟩:=r1;exact⟨_,w1⟩
 obtain⟨o,ho⟩:=own
 have keep:∀{n:PH},n.le h→m1.mO n→n.le h':=fun {n} hn hd k o' hk=>by
  (have fW:k≠g:=fun e=>by subst e;exact hd k _ _ ho hk);rw[hb k fW];exact hn k o' hk
 exact⟨m2,r2,keep (r5.le b) r3,keep c1 (i.mono r4 (.refl _)),keep d (p.mono r4 (.refl _)),i.mono r5 (.refl _),p.mono r5 (.refl _),q⟩
section
variable {P:Program} {ρ:Env} {ty:TypeId} {σ:PH} {Γ ah:List HP}
theorem X.Wr.qz {h:Heap} {T U e:TypeId} {x y:Operand} {r ru re:Ty} {v:Value} {n:Nat} {xs:List Value} {s:ByteArray} {F:Nat→Prop} (hT:av P T=some r) (hk:r.k=.slice e) (hU:av P U=some ru) (Zk:ru.k=.string) (hE:av P e=some re) (Ij:re.size=1) (Rq:re.bytes=1) (Zl:re.zero.length=1)
 (xh:tQ h e 1 v n xs F) (hs:ev ρ x=v) (hy:ev ρ y=.string s) (hb:n+s.size≤1000000000):
 Wr P ρ h (.call {callee:=.builtin .append,args:=#[x,y],argTypes:=#[T,U]}) ty (fun v' h'=>tQ h' e 1 v' (n+s.size) (xs++Lib.strCells s) (fun k=>F k∨h.size≤k)∧Ac h h' v.ownBlock∧(v=.slice none 0 0→s.size=0→v'=.slice none 0 0)) mI:=by
 (refine Wr.run fun d pos af gd w hw=>?_);obtain⟨dd,i,z,e1,e2,-⟩:=aD hT;obtain⟨du,iu,zu,u1,u2,-⟩:=aD hU;obtain⟨tO,i',z',rN,qI,jz,kA,z8,vk,zf⟩:=aD hE;rw[hk] at e2;(cases dd<;>simp[kindOf] at e2);rw[e2] at e1;clear e2;rw[Zk] at u2;(cases du<;>simp[kindOf] at u2);rw[Ij] at kA;rw[Rq] at z8;(have vm:z'.cells.size=1:=by rw[←Array.length_toList,zf,Zl]);(have zg:n+s.size≤maxLen:=by simp only[maxLen];omega);(have vy:xs.length=n:=by simpa using xh.len);have hlen:(xs++Lib.strCells s).length=(n+s.size)*1:=by rw[List.length_append,vy,Lib.strCells_length,Nat.mul_one]
 have grown:∀(r7:Nat),r7<n+s.size→∀(row:Option Nat),
  tQ (w.drew.alloc (.cells (xs.toArray++(Lib.strCells s).toArray++Builtin.zeroCells z'.cells (grownCap w (n+s.size) r7 e-(n+s.size))) e)).heap e 1
   (.slice (some ⟨w.heap.size,0,none⟩) (n+s.size) (grownCap w (n+s.size) r7 e)) (n+s.size) (xs++Lib.strCells s) (fun k=>F k∨h.size≤k)∧
  Ac h (w.drew.alloc (.cells (xs.toArray++(Lib.strCells s).toArray++Builtin.zeroCells z'.cells (grownCap w (n+s.size) r7 e-(n+s.size))) e)).heap row:=by
  intro r7 ho row;have Io:=grownCap_ge w (n+s.size) r7 e;have zh:grownCap w (n+s.size) r7 e≤maxLen:=grownCap_le_maxLen w (n+s.size) r7 e zg;refine⟨⟨hlen,.inr ⟨w.heap.size,_,(xs.toArray++(Lib.strCells s).toArray++Builtin.zeroCells z'.cells (grownCap w (n+s.size) r7 e-(n+s.size))).toList,rfl,.inr (by rw[←hw];exact Nat.le_refl _),?_,Io,zh,?_,?_⟩⟩,⟨by rw[←hw];simp[World.alloc],fun k hk _=>by rw[←hw] at hk⊢;exact iK hk⟩⟩
  ·exact⟨by rw[Array.toArray_toList];exact iL rfl⟩
  ·simp only[Array.length_toList,Array.size_append,List.size_toArray,size_zeroCells,vm,vy,Lib.strCells_length];omega
  ·simp only[Array.toList_append,List.append_assoc];rw[←List.append_assoc,←hlen];exact List.take_left
 have mN:∀v' w',(Builtin.append_ #[T,U] ty #[v,.string s]).run P w=.ok v' w'→(execOp (ev ρ) ⟨d,.call {callee:=.builtin .append,args:=#[x,y],argTypes:=#[T,U]},ty,pos,af,gd⟩).run P w=.ok (.value v') w':=fun v' w' hr=>by
  simp only[execOp,resolve,invoke,builtin,Sem.run_bind,Sem.run_pure,Result.andThen_ok,List.map_toArray,List.map_cons,List.map_nil,hs,hy,hr]
 rcases xh.alt with ⟨rfl,rfl⟩|⟨gg,cap,cur,rfl,hF,hg,Ad,zh,BH,xi⟩
 ·have hx:xs=[]:=List.eq_nil_of_length_eq_zero vy;subst hx;by_cases hm:s.size=0
  ·have hn:Lib.strCells s=[]:=List.eq_nil_of_length_eq_zero (by rw[Lib.strCells_length];exact hm);have hf:=Lib.run_firstCells_string (P:=P) w 1 s;rw[hm] at hf;refine⟨.slice none 0 0,w,mN _ _ ?_,⟨rfl,rfl,rfl⟩,by rw[hm,hn];exact tQ.nil _ _ _ _,⟨by rw[hw];exact Nat.le_refl _,fun k _ _=>by rw[hw]⟩,fun _ _=>rfl⟩;simp[Builtin.append_,run_underlying e1,run_underlying u1,sizeOf,typeInfo,jz,kA,Builtin.lenOf,hm,hf]
  ·have hr:=run_append_nil_string (P:=P) w T U ty e i' z' e1 u1 jz vk s (by omega) (by omega) (by rw[z8];omega);have Dk:=grown 0 (by omega) (Value.ownBlock (.slice none 0 0));simp only[Nat.zero_add,List.nil_append,Array.empty_append] at Dk⊢
   have e1:(s.data.map fun b=>Value.int .u8 b.toNat)=(Lib.strCells s).toArray:=by
    apply Array.ext';simp[Lib.strCells]
   rw[e1] at hr;exact⟨_,_,mN _ _ hr,⟨rfl,rfl,rfl⟩,Dk.1,Dk.2,fun _ h0=>absurd h0 hm⟩
 ·(have Iw:w.heap[gg]? =some (.cells cur.toArray e (0,0)):=by rw[hw];exact hg.get);(have adY:cap≤cur.length:=by simpa using BH);by_cases n4:n+s.size≤cap
  ·have hr:=Lib.run_append_room_string (P:=P) w T U ty e i' e1 u1 jz kA gg n cap cur.toArray Iw s n4 (by simp;omega);refine⟨_,_,mN _ _ hr,⟨rfl,rfl,rfl⟩,⟨hlen,.inr ⟨gg,cap,cur.take n++Lib.strCells s++cur.drop (n+s.size),rfl,.inl hF,?_,n4,zh,?_,?_⟩⟩,⟨by rw[←hw];simp,fun k _ hk=>?_⟩,fun h0=>by cases h0⟩
   ·exact⟨setRow_heap w gg cur.toArray _ e _ Iw⟩
   ·simp only[List.length_append,List.length_take,List.length_drop,Lib.strCells_length];omega
   ·(have Xx:cur.take n=xs:=by simpa using xi);rw[Xx,←hlen];exact List.take_left
   ·rw[←hw];exact setRow_other w gg k _ (fun e=>hk (by simp[Value.ownBlock,e]))
  ·have holds:∀j u,xs[j]? =some u→w.cell? ((⟨gg,0,none⟩:Addr).add j)=some u:=fun j u hu=>by
    rw[addr_add];rw[←xi] at hu
    have hc:cur[j]? =some u:=by
     rw[List.getElem?_take] at hu;split at hu
     ·exact hu
     ·cases hu
    simp[World.cell?,Iw,hc]
   have hr:=Lib.run_append_grow_string (P:=P) w T U ty e i' z' e1 u1 jz vk ⟨gg,0,none⟩ n cap xs (by rw[kA,vy,Nat.mul_one]) holds s (by omega) (by omega) (growslice_fits (by omega) (by rw[z8];omega));have Dk:=grown cap (by omega) (Value.ownBlock (.slice (some ⟨gg,0,none⟩) n cap));exact⟨_,_,mN _ _ hr,⟨rfl,rfl,rfl⟩,Dk.1,Dk.2,fun h0=>by cases h0⟩
theorem X.aC.qz {T U e:TypeId} {x y:Operand} {r ru re:Ty} {v:Value} {n:Nat} {xs:List Value} {s:ByteArray} (hT:av P T=some r) (hk:r.k=.slice e) (hU:av P U=some ru) (Zk:ru.k=.string) (hE:av P e=some re) (Ij:re.size=1) (Rq:re.bytes=1) (Zl:re.zero.length=1)
 (hs:ev ρ x=v) (hy:ev ρ y=.string s) (bP:b6 Γ (bn e 1 v n xs) ah) (h0:n=0→v=.slice none 0 0) (hb:n+s.size≤1000000000):
 aC P ρ σ Γ (.call {callee:=.builtin .append,args:=#[x,y],argTypes:=#[T,U]}) ty (fun v' ag Δ=>∃p c,v'=.slice p (n+s.size) c∧(n+s.size=0→p=none∧c=0)∧σ=ag∧Δ=bn e 1 (.slice p (n+s.size) c) (n+s.size) (xs++Lib.strCells s)::ah) fw:=
 ⟨fun f h hh=>⟨fun d pos af gd a w next Q' he hw hn hp=>
  (Wr.qz hT hk hU Zk hE Ij Rq Zl (hh.own bP) hs hy hb).out d pos af gd a w next Q' he hw (fun v' w' sm q=>by
   obtain⟨p,c,rfl⟩:=q.1.shape
   exact hn _ w' sm ⟨σ,_,⟨p,c,rfl,fun hz=>by
    have:=q.2.2 (h0 (by omega)) (by omega);simp only[Value.slice.injEq] at this
    exact⟨this.1,this.2.2⟩,rfl,rfl⟩,hh.app bP q.1 q.2.1⟩) (fun _ _ _ q=>q.elim)⟩⟩
theorem X.aC.unsafeString {x y:Operand} {pt it e:TypeId} {rp re:Ty} {g c:Nat} {acc:ByteArray} (hpt:av P pt=some rp) (hk:rp.k=.pointer e) (hE:av P e=some re) (Ij:re.size=1) (hx:ev ρ x=.pointer (some ⟨g,0,none⟩)) (hy:ev ρ y=i64 acc.size) (s:b6 Γ (bn e 1 (.slice (some ⟨g,0,none⟩) acc.size c) acc.size (Lib.strCells acc)) ah) (h0:0<acc.size):
 aC P ρ σ Γ (.call {callee:=.builtin .unsafeString,args:=#[x,y],argTypes:=#[pt,it]}) ty (fun v ag Δ=>v=.string acc∧σ=ag∧Δ=ah) fw:=by
 obtain⟨dd,i,z,e1,e2,-⟩:=aD hpt;rw[hk] at e2;(cases dd<;>simp[kindOf] at e2);rw[e2] at e1;(refine Wr.H0 (Q:=fun h v h'=>v=.string acc∧∀k,k≠g→h'[k]? =h[k]?) (fun h hh=>Wr.run fun d pos af gd w hw=>?_) fun f h v h' hh ⟨e1,e2⟩=>⟨σ,_,⟨e1,rfl,rfl⟩,hh.LG s e2⟩);obtain⟨f,hh⟩:=hh;have own:=hh.own s;rcases own.alt with ⟨h1,-⟩|⟨g',cap,cur,h1,h2,h3,h4,h5,h6,h7⟩
 ·cases h1
 ·simp only[Value.slice.injEq,Option.some.injEq,Addr.mk.injEq,and_true,true_and] at h1;obtain⟨rfl,rfl⟩:=h1;(have Iw:w.heap[g]? =some (.cells cur.toArray e (0,0)):=by rw[hw];exact h3.get);have Yf:w.shape? g=some (e,cur.length):=qy h3 hw;have hl:acc.data.toList.length=acc.size:=rfl;have mR:acc.size≤cur.length:=by omega
  have eA:∀(j:Nat) (x:UInt8),acc.data.toList[j]? =some x→w.cell? ((⟨g,0,none⟩:Addr).add j)=some (.int .u8 x.toNat):=fun j x hx=>by
   (have hu:(Lib.strCells acc)[j]? =some (.int .u8 x.toNat):=by rw[Lib.strCells,List.getElem?_map,hx];rfl);rw[addr_add];rw[←h7] at hu
   have hc:cur[j]? =some (.int .u8 x.toNat):=by
    rw[List.getElem?_take] at hu;split at hu
    ·exact hu
    ·cases hu
   simp[World.cell?,Iw,hc]
  have hr:=Lib.run_unsafeString_row (P:=P) w pt it ty e e1 (by rw[Ak hE,Ij]) g cur.length Yf acc.data.toList (fun h=>by rw[←hl,h] at h0;exact Nat.lt_irrefl _ h0) (by omega) (by simp only[maxLen] at h5;omega) eA;rw[hl] at hr;refine⟨.string acc,w.freeze ⟨g,0,none⟩ acc.size,?_,yL _ _ _,rfl,fun k hk=>by rw[←hw];exact uj hk⟩;simp only[execOp,resolve,invoke,builtin,Sem.run_bind,Sem.run_pure,Result.andThen_ok,List.map_toArray,List.map_cons,List.map_nil,hx,hy,hr]
end
theorem X.ae.post {P:Program} {f:FuncId} {vs:Array Value} {σ:PH} {Γ:List HP} {R R':Value→PH→List HP→Prop} (hc:ae P f vs σ Γ (aE R)) (k:∀v ag ah,R v ag ah→∃ot,R' v ag ot∧aw ah ot):ae P f vs σ Γ (aE R'):=
 ⟨hc.1,fun fr hp hh=>(hc.2 fr hp hh).mono fun e h' ⟨ag,ah,a,b⟩=>by
  cases e with
  |returned v=>obtain⟨ot,a2,he⟩:=k v ag ah a;exact⟨ag,ot,a2,b.eS he⟩
  |panicked c=>exact a.elim
  |outgrown=>exact a.elim⟩
def k6 (u:Bool) (b:Nat):Value:=.pointer (if u=true then some ⟨b,0,none⟩ else none)
section
variable (σ:PH) (T:TypeId) (b:Nat) (vs:List Value)
theorem R7 (u:Bool) (sl:Value) (o5:liesAt Tryz.prog Tryz.prog.depth T ((vs.length+2)/Tryz.prog.cellsOf T) 0 46 1=true):
 ae Tryz.prog 73 #[ptr b] σ [au b (k6 u b::sl::vs) T] (aE fun v ag ah=>v=.tuple #[]∧σ=ag∧ah=[au b (ptr b::sl::vs) T]):=by
 have lH:∀_:Unit,0+1≤vs.length+1+1:=fun _=>by omega
 cases u with
 |true=>
  refine dF Tryz.func73 ?_;refine aO ?_;refine zO rfl (X.Rd.uZ (ad rfl) rfl rfl) ?_;refine aN ?_;refine bC ?_;refine zO rfl (X.Rd.Bl (ad rfl) rfl (ad rfl) rfl rfl) ?_;refine aN ?_;refine aN ?_;exact fU rfl ⟨rfl,rfl,rfl⟩
 |false=>
  refine dF Tryz.func73 ?_;refine aO ?_;refine zO rfl (X.Rd.uZ (ad rfl) rfl rfl) ?_;refine aN ?_;refine bM ?_;refine zO rfl (X.Rd.Hk (ad rfl) rfl (ad rfl) rfl (by kernel_rfl) rfl zL (by simp)) ?_;refine zO rfl (X.Rd.Hl Tryz.func118 (by kernel_rfl) (by kernel_rfl) (by kernel_rfl) (by kernel_rfl) rfl) ?_;refine zO rfl (X.Rd.Bm (n:=vs.length+2) (ad rfl) rfl (ad rfl) (by kernel_rfl) rfl zL (by simp) o5) ?_;refine aN ?_;clear o5;refine aN ?_;exact fU rfl ⟨rfl,rfl,rfl⟩
theorem LH (u:Bool) (p:Option Addr) (n c:Nat) (xs:List Value) (s:ByteArray) (hz:n=0→p=none∧c=0) (hb:n+s.size≤1000000000) (o5:liesAt Tryz.prog Tryz.prog.depth T ((vs.length+2)/Tryz.prog.cellsOf T) 0 46 1=true):
 ae Tryz.prog 45 #[ptr b,.string s] σ [au b (k6 u b::.slice p n c::vs) T,bn 5 1 (.slice p n c) n xs] (aE fun v ag ah=>∃p' c',v=.tuple #[i64 s.size,.nilIface]∧(n+s.size=0→p'=none∧c'=0)∧σ=ag∧ah=[au b (ptr b::.slice p' (n+s.size) c'::vs) T,bn 5 1 (.slice p' (n+s.size) c') (n+s.size) (xs++Lib.strCells s)]):=by
 (have lH:∀_:Unit,1+1≤vs.length+1+1:=fun _=>by omega);(have h0:n=0→(Value.slice p n c)=.slice none 0 0:=fun h=>by obtain⟨rfl,rfl⟩:=hz h;rw[h]);have ON:=R7 σ T b vs u (.slice p n c) o5;clear o5;refine bS Tryz.func45 ?_;refine a8 ?_;refine zw rfl (aC.cE (ON) rfl) ?_;rintro _ _ _ ⟨_,⟨rfl,rfl,rfl⟩,rfl⟩;refine az.cl ?_;clear ON;refine aW ?_;refine zw rfl (X.aC.qz (ad rfl) rfl (ad rfl) rfl (ad rfl) rfl rfl rfl rfl rfl zL h0 hb) ?_;rintro _ _ _ ⟨p',c',rfl,SZ,rfl,rfl⟩;refine dJ ?_;exact ao.ret (aG.two rfl rfl rfl) zE ⟨p',c',rfl,SZ,rfl,rfl⟩
end
def cM (T:TypeId) (b:Nat) (vs:List Value) (acc:ByteArray):HP:=fun m=>∃(u:Bool) (p:Option Addr) (c:Nat),(acc.size=0→p=none∧c=0)∧Sat [au b (k6 u b::.slice p acc.size c::vs) T,bn 5 1 (.slice p acc.size c) acc.size (Lib.strCells acc)] m
theorem cM.o {T:TypeId} {b:Nat} {vs:List Value} {acc:ByteArray}:∀m,cM T b vs acc m→∃x:Bool×(Option Addr×Nat),(acc.size=0→x.2.1=none∧x.2.2=0)∧Sat [au b (k6 x.1 b::.slice x.2.1 acc.size x.2.2::vs) T,bn 5 1 (.slice x.2.1 acc.size x.2.2) acc.size (Lib.strCells acc)] m:=fun m ⟨u,p,c,h1,h2⟩=>⟨(u,(p,c)),h1,h2⟩
theorem cM.mk {T:TypeId} {b:Nat} {vs:List Value} {acc:ByteArray} {p:Option Addr} {c:Nat} (u:Bool) (h:acc.size=0→p=none∧c=0):aw [au b (k6 u b::.slice p acc.size c::vs) T,bn 5 1 (.slice p acc.size c) acc.size (Lib.strCells acc)] [cM T b vs acc]:=
 aw.eC (aw.refl _) fun m hm=>⟨u,p,c,h,hm⟩
theorem wz (a b:ByteArray):Lib.strCells (a++b)=Lib.strCells a++Lib.strCells b:=by simp[Lib.strCells]
theorem Hm {e size n c:Nat} {p:Option Addr} {xs:List Value} (hn:0<n):∀m,bn e size (.slice p n c) n xs m→∃g:Nat,(p=some ⟨g,0,none⟩∧c≠0)∧Sat [bn e size (.slice (some ⟨g,0,none⟩) n c) n xs] m:=fun m h=>by
 have h0:=h;obtain⟨h1,⟨h2,h3⟩|⟨g,cap,h2,cur,h3,h4,h5⟩⟩:=h
 ·omega
 ·simp only[Value.slice.injEq] at h2;obtain⟨rfl,-,rfl⟩:=h2;exact⟨g,⟨rfl,by omega⟩,m,PH.none,h0,trivial,PH.cK m,.refl m,PH.ej _⟩
section
variable (σ:PH) (T:TypeId) (b:Nat) (vs:List Value)
theorem LI (acc s:ByteArray) (hb:acc.size+s.size≤1000000000) (o5:liesAt Tryz.prog Tryz.prog.depth T ((vs.length+2)/Tryz.prog.cellsOf T) 0 46 1=true):
 ae Tryz.prog 45 #[ptr b,.string s] σ [cM T b vs acc] (aE fun v ag ah=>v=.tuple #[i64 s.size,.nilIface]∧σ=ag∧ah=[cM T b vs (acc++s)]):=by
 (refine ae.aY (s:=b6.head) cM.o (enters Tryz.func45 rfl rfl) fun x hx=>?_;refine(LH σ T b vs x.1 x.2.1 acc.size x.2.2 (Lib.strCells acc) s hx hb o5).post ?_);rintro v ag ah ⟨p',c',rfl,SZ,rfl,rfl⟩;refine⟨_,⟨rfl,rfl,rfl⟩,?_⟩;rw[←wz,←ByteArray.size_append];exact cM.mk true (fun h=>SZ (by rw[←ByteArray.size_append];exact h))
theorem Hn (acc:ByteArray):ae Tryz.prog 15 #[ptr b] σ [cM T b vs acc] (aE fun v ag ah=>v=.string acc∧σ=ag∧∃q sl,ah=[au b (q::sl::vs) T]):=by
 (refine ae.aY (s:=b6.head) cM.o (enters Tryz.func15 rfl rfl) fun x hx=>?_);obtain⟨u,p,c⟩:=x;simp only at hx;by_cases h0:acc.size=0
 ·obtain⟨rfl,rfl⟩:=hx h0
  have ha:acc=ByteArray.empty:=by
   apply ByteArray.ext;apply Array.eq_empty_of_size_eq_zero;exact h0
  rw[h0,ha];show ae _ _ _ _ [au b (k6 u b::.slice none 0 0::vs) T,bn 5 1 (.slice none 0 0) 0 (Lib.strCells ByteArray.empty)] _;clear hx;refine dF Tryz.func15 ?_;refine aO ?_;refine XA.draw (by kernel_rfl) _ _ [10] [(0,.pu),(1,.pu),(2,.pu),(3,.rd),(5,.pu),(6,.pu),(7,.pu),(8,.rd),(9,.pu),(4,.wr),(10,.wr),(11,.pu)] (by kernel_rfl) (PH.sub.refl _) (aw.bP (R:=au b _ _) zL (aw.nil _)) ?_;refine a8 ?_;refine aK.fL rfl rfl Gd.free (X.Rd.Ux (X.Rd.wy rfl)) ?_;rintro _ _ _ ⟨rfl,rfl,rfl⟩;refine stays ?_;refine aK.bj rfl rfl Gd.free (by kernel_rfl) (X.Rd.Ux (X.Rd.Bn rfl rfl)) ?_;rintro _ _ _ ⟨rfl,rfl,rfl⟩;refine bM ?_;exact b8 rfl rfl ⟨rfl,rfl,_,_,rfl⟩
 ·(refine ae.aY (s:=b6.tail b6.head) (Hm (by omega)) (enters Tryz.func15 rfl rfl) fun g hg=>?_);obtain⟨rfl,hc⟩:=hg;(have rB:0<acc.size:=by omega);show ae _ _ _ _ [bn 5 1 (.slice (some ⟨g,0,none⟩) acc.size c) acc.size (Lib.strCells acc),au b (k6 u b::.slice (some ⟨g,0,none⟩) acc.size c::vs) T] _;clear hx h0;refine dF Tryz.func15 ?_;refine aO ?_;refine XA.draw (by kernel_rfl) _ _ [10] [(0,.pu),(1,.pu),(2,.pu),(3,.rd),(5,.pu),(6,.pu),(7,.pu),(8,.rd),(9,.pu),(4,.wr),(10,.wr),(11,.pu)] (by kernel_rfl) (PH.sub.refl _) (aw.bP (R:=au b _ _) zL (aw.nil _)) ?_;refine a8 ?_;refine aK.fL rfl rfl Gd.free (X.Rd.Ux (X.Rd.Ew rfl hc)) ?_;rintro _ _ _ ⟨rfl,rfl,rfl⟩;refine stays ?_;refine aK.bj rfl rfl Gd.free (by kernel_rfl) (X.aC.unsafeString (ad rfl) rfl (ad rfl) rfl rfl rfl zL rB) ?_;rintro _ _ _ ⟨rfl,rfl,rfl⟩;refine bM ?_;exact b8 rfl rfl ⟨rfl,rfl,_,_,rfl⟩
end
theorem iA {n:Int} (h:aF n):(eI n).size≤21:=Lib.itoa_length_le n h.1 h.2
section
variable (σ:PH) (b:Nat) (v:Value) (acc:ByteArray) (g c:Nat)
end
mutual
def Ik:Ex→Prop
 |.mk _ _ n l=>aF n∧uk l
def uk:List Ex→Prop
 |[]=>True
 |x::l=>Ik x∧uk l
end
mutual
def OO:St→Prop
 |.mk _ _ e f body cG=>Ik e∧Ik f∧jW body∧jW cG
def jW:List St→Prop
 |[]=>True
 |x::l=>OO x∧jW l
end
theorem uk.of:∀{l:List Ex},(∀x∈l,Ik x)→uk l
 |[],_=>by rw[uk];trivial
 |y::l,h=>by rw[uk];exact⟨h y (by simp),uk.of fun x hx=>h x (by simp[hx])⟩
theorem jW.of:∀{l:List St},(∀x∈l,OO x)→jW l
 |[],_=>by rw[jW];trivial
 |y::l,h=>by rw[jW];exact⟨h y (by simp),jW.of fun x hx=>h x (by simp[hx])⟩
theorem o6 {α:Type} {rows:List (List Value)} {l:List α} {Q:α→Prop} (h3:rows.length=l.length) (h:∀(i:Nat) (row:List Value) (x:α),rows[i]? =some row→l[i]? =some x→Q x):∀x∈l,Q x:=by
 intro x hx;obtain⟨i,hi,rfl⟩:=List.mem_iff_getElem.1 hx;exact h i _ _ (List.getElem?_eq_getElem (by omega)) (List.getElem?_eq_getElem hi)
theorem dc.i {σ:PH} {cs:List Value} {x:Ex} (h:dc σ cs x):Ik x:=by
 induction h with
 |mk rows ho hv hn h1 h2 h3 h4 h5 h6 ih=>rw[Ik];exact⟨hn,uk.of (o6 h3 ih)⟩
theorem cT.i {σ:PH} {cs:List Value} {x:St} (h:cT σ cs x):OO x:=by
 induction h with
 |mk rows sj ho hv he hf h1 h2 h3 h4 h5 h6 g1 g2 g3 g4 g5 g6 ih jh=>rw[OO];exact⟨he.i,hf.i,jW.of (o6 h3 ih),jW.of (o6 g3 jh)⟩
theorem bO.all {α:Type} {s:Nat} {R:RT α} {σ:PH} {sl:Value} {l:List α} {Q:α→Prop} (h:bO s R σ sl l) (k:∀row x,R σ row x→Q x):∀x∈l,Q x:=by
 obtain⟨p,c,rows,rfl,h1,h2,h3,h4,h5,h6⟩:=h;exact o6 h3 fun i row x a b=>k row x (h5 i row x a b)
theorem fY.i {σ:PH} {cs:List Value} {p:Pr} (h:fY σ cs p):jW p.body:=by
 obtain⟨vs,bs,-,-,hb⟩:=h;exact jW.of (bO.all hb fun _ _ h=>h.i)
end Go.Proofs.YtgeoiflbjcehcaaGreatDoor
