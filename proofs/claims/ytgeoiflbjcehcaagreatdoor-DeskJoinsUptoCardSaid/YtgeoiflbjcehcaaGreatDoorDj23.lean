import Derived.Test.YtgeoiflbjcehcaaGreatDoorDj22
set_option maxHeartbeats 4000000
set_option maxRecDepth 2000
set_option linter.unusedVariables false
set_option linter.unusedSimpArgs false
namespace Go.Proofs.YtgeoiflbjcehcaaGreatDoor
open Go X
section
variable (σ:PH) (g mb sb db pb:Nat) (cv iv:Value) (left:Int) (aX:Bool) (d:al) (s:cY) (M:Me)
theorem tk (a n:Int):
 ae Tryz.prog 191 #[ptr g,i64 a,i64 n] σ [au g [ptr mb,cv,iv,ptr pb,i64 left,.bool aX] 179,eh mb sb db d s M] (aE fun v ag ah=>v=i64 (M.ld a)∧σ=ag∧ah=[au g [ptr mb,cv,iv,ptr pb,i64 left,.bool aX] 179,eh mb sb db d s (M.put a (IntKind.i64.wrap (M.ld a+n)))]):=by
 refine ob Tryz.func191 ?_;refine bH ?_;refine zw rfl (aC.cE (gv σ mb sb db d s M a) rfl) ?_;rintro _ _ _ ⟨_,⟨rfl,rfl,rfl⟩,rfl⟩;refine az.cl ?_;refine eP ?_;refine zw rfl (aC.cE (qX σ mb sb db d s M a (IntKind.i64.wrap (M.ld a+n))) rfl) ?_;rintro _ _ _ ⟨_,⟨rfl,rfl,rfl⟩,rfl⟩;refine az.cl ?_;refine a8 ?_;exact b8 rfl rfl ⟨rfl,rfl,rfl⟩
theorem wh (n:Int):
 ae Tryz.prog 198 #[ptr g,i64 n] σ [au g [ptr mb,cv,iv,ptr pb,i64 left,.bool aX] 179,eh mb sb db d s M] (aE fun v ag ah=>v=.tuple #[]∧σ=ag∧ah=[au g [ptr mb,cv,iv,ptr pb,i64 left,.bool aX] 179,eh mb sb db d s (M.put 4 n)]):=by
 refine bS Tryz.func198 ?_;refine aO ?_;refine zw rfl (aC.cE (qX σ mb sb db d s M 4 n) rfl) ?_;rintro _ _ _ ⟨_,⟨rfl,rfl,rfl⟩,rfl⟩;refine az.cl ?_;refine b3 ?_;exact fU rfl ⟨rfl,rfl,rfl⟩
theorem G3 (b:Bool):ae Tryz.prog 223 #[.bool b] σ [] (aE fun v ag ah=>v=i64 (if b then 1 else 0)∧σ=ag∧ah=[]):=by
 cases b with
 |true=>
  refine dF Tryz.func223 ?_;refine cg ?_;refine bC ?_;exact b8 rfl rfl ⟨rfl,rfl,rfl⟩
 |false=>
  refine dF Tryz.func223 ?_;refine cg ?_;refine a8 ?_;exact b8 rfl rfl ⟨rfl,rfl,rfl⟩
variable {next rd outn:Nat} {stack cells:List Int} {st:Int}
theorem wi (h:bD M.C ⟨next,stack,rd,outn,st,cells⟩) (hl:stack.length<59) (n:Int):
 ae Tryz.prog 192 #[ptr g,i64 n] σ [au g [ptr mb,cv,iv,ptr pb,i64 left,.bool aX] 179,eh mb sb db d s M] (aE fun v ag ah=>v=.tuple #[]∧σ=ag∧ah=[au g [ptr mb,cv,iv,ptr pb,i64 left,.bool aX] 179,eh mb sb db d s (M.eM n)]):=by
 have e:M.ld 1=stack.length:=h.sl;have jt:=tk σ g mb sb db pb cv iv left aX d s M 1 1;rw[X.wrap64_in (by omega) (by omega)] at jt;have rE:IntKind.i64.wrap (53+M.ld 1)=53+M.ld 1:=X.wrap64_in (by omega) (by omega);refine bS Tryz.func192 ?_;refine XA.draw (by kernel_rfl) _ _ [8] [(0,.pu),(1,.pu),(2,.pu),(3,.rd),(4,.pu),(7,.pu),(5,.wr),(6,.pu),(8,.wr)] (by kernel_rfl) (PH.sub.refl _) (aw.bP (R:=au g _ _) zL (aw.nil _)) ?_;refine aO ?_;refine aK.fL rfl rfl Gd.free (aC.cE (jt) rfl) ?_;rintro _ _ _ ⟨_,⟨rfl,rfl,rfl⟩,rfl⟩;refine stays (aK.cl ?_);refine b3 ?_;refine aK.bj rfl rfl Gd.free (by kernel_rfl) (aC.cE (qX σ mb sb db d s (M.put 1 (M.ld 1+1)) (53+M.ld 1) n) rfl) ?_;rintro _ _ _ ⟨_,⟨rfl,rfl,rfl⟩,rfl⟩;refine aK.cl ?_;refine b3 ?_;exact fU rfl ⟨rfl,rfl,rfl⟩
theorem lg {n:Int} {l:List Int} (h:bD M.C ⟨next,n::l,rd,outn,st,cells⟩):
 ae Tryz.prog 194 #[ptr g] σ [au g [ptr mb,cv,iv,ptr pb,i64 left,.bool aX] 179,eh mb sb db d s M] (aE fun v ag ah=>v=i64 n∧σ=ag∧ah=[au g [ptr mb,cv,iv,ptr pb,i64 left,.bool aX] 179,eh mb sb db d s M.aP]):=by
 (have e:M.ld 1=l.length+1:=by rw[Me.ld,h.sl];simp);have hl:=h.ls;simp only[List.length_cons] at hl;have jt:=tk σ g mb sb db pb cv iv left aX d s M 1 (-1);rw[X.wrap64_in (by omega) (by omega),show M.ld 1+-1=M.ld 1-1 by omega] at jt;have rE:IntKind.i64.wrap (53+M.ld 1)=53+M.ld 1:=X.wrap64_in (by omega) (by omega);have hv3:IntKind.i64.wrap (53+M.ld 1-1)=53+M.ld 1-1:=X.wrap64_in (by omega) (by omega);have ht:=h.cH;refine dF Tryz.func194 ?_;refine aO ?_;refine fZ 10 13635 [8] (aw.bP (R:=au g _ _) zL (aw.nil _)) ?_;refine b9 ?_;refine aK.fL rfl rfl Gd.free (aC.cE (jt) rfl) ?_;rintro _ _ _ ⟨_,⟨rfl,rfl,rfl⟩,rfl⟩;refine stays (aK.cl ?_);refine aN ?_;rw[show 53+M.ld 1-1=52+M.ld 1 by omega];refine aK.bj rfl rfl Gd.free (by kernel_rfl) (aC.cE (gv σ mb sb db d s M.aP (52+M.ld 1)) rfl) ?_;rintro _ _ _ ⟨_,⟨rfl,rfl,rfl⟩,rfl⟩;refine aK.cl ?_;refine bM ?_;exact b8 rfl rfl ⟨congrArg i64 ht,rfl,rfl⟩
end
section
variable (σ:PH) (g mb sb db pb:Nat) (cv iv:Value) (left:Int) (aX:Bool) (d:al) (s:cY) (M:Me)
variable {next rd outn:Nat} {stack cells:List Int} {st:Int}
theorem yz {y z:Int} {l:List Int} (op:Int) (ho:4≤op∧op≤8) (h:bD M.C ⟨next,y::z::l,rd,outn,st,cells⟩):
 ae Tryz.prog 193 #[ptr g,i64 op] σ [au g [ptr mb,cv,iv,ptr pb,i64 left,.bool aX] 179,eh mb sb db d s M] (aE fun v ag ah=>v=.tuple #[]∧σ=ag∧ah=[au g [ptr mb,cv,iv,ptr pb,i64 left,.bool aX] 179,eh mb sb db d s (M.aP.aP.eM (fh op z y))]):=by
 have hl:=h.ls;simp only[List.length_cons] at hl;have Vq:=lg σ g mb sb db pb cv iv left aX d s M h;have OC:=lg σ g mb sb db pb cv iv left aX d s M.aP h.aP;(have QY:=fun n=>wi σ g mb sb db pb cv iv left aX d s M.aP.aP h.aP.aP (by omega) n);by_cases h4:op=4
 ·subst h4;rw[show fh 4 z y=rb (z+y) from rfl];refine bS Tryz.func193 ?_;refine bq ?_;refine zw rfl (aC.cE (Vq) rfl) ?_;rintro _ _ _ ⟨_,⟨rfl,rfl,rfl⟩,rfl⟩;refine az.cl ?_;refine aO ?_;refine zw rfl (aC.cE (OC) rfl) ?_;rintro _ _ _ ⟨_,⟨rfl,rfl,rfl⟩,rfl⟩;refine az.cl ?_;refine Fv ?_;(iterate 4 (refine bt ?_));refine zw rfl (aC.cE (QY _) rfl) ?_;rintro _ _ _ ⟨_,⟨rfl,rfl,rfl⟩,rfl⟩;refine az.cl ?_;refine b3 ?_;exact fU rfl ⟨rfl,rfl,rfl⟩
 by_cases h5:op=5
 ·subst h5;rw[show fh 5 z y=rb (z-y) from rfl];refine bS Tryz.func193 ?_;refine bq ?_;refine zw rfl (aC.cE (Vq) rfl) ?_;rintro _ _ _ ⟨_,⟨rfl,rfl,rfl⟩,rfl⟩;refine az.cl ?_;refine aO ?_;refine zw rfl (aC.cE (OC) rfl) ?_;rintro _ _ _ ⟨_,⟨rfl,rfl,rfl⟩,rfl⟩;refine az.cl ?_;refine Fv ?_;refine bH ?_;refine zw rfl (aC.cE (QY _) rfl) ?_;rintro _ _ _ ⟨_,⟨rfl,rfl,rfl⟩,rfl⟩;refine az.cl ?_;refine b3 ?_;exact fU rfl ⟨rfl,rfl,rfl⟩
 by_cases h6:op=6
 ·subst h6;rw[show fh 6 z y=rb (z*y) from rfl];refine bS Tryz.func193 ?_;refine bq ?_;refine zw rfl (aC.cE (Vq) rfl) ?_;rintro _ _ _ ⟨_,⟨rfl,rfl,rfl⟩,rfl⟩;refine az.cl ?_;refine aO ?_;refine zw rfl (aC.cE (OC) rfl) ?_;rintro _ _ _ ⟨_,⟨rfl,rfl,rfl⟩,rfl⟩;refine az.cl ?_;refine Fv ?_;refine bt ?_;refine bM ?_;refine zO rfl (by first|exact Rd.mli rfl rfl|exact Rd.mul rfl rfl) ?_;refine bt ?_;refine zw rfl (aC.cE (QY _) rfl) ?_;rintro _ _ _ ⟨_,⟨rfl,rfl,rfl⟩,rfl⟩;refine az.cl ?_;refine b3 ?_;exact fU rfl ⟨rfl,rfl,rfl⟩
 by_cases h7:op=7
 ·subst h7;rw[show fh 7 z y=(if decide (z<y)=true then 1 else 0) from by simp[fh]];refine bS Tryz.func193 ?_;refine bq ?_;refine zw rfl (aC.cE (Vq) rfl) ?_;rintro _ _ _ ⟨_,⟨rfl,rfl,rfl⟩,rfl⟩;refine az.cl ?_;refine aO ?_;refine zw rfl (aC.cE (OC) rfl) ?_;rintro _ _ _ ⟨_,⟨rfl,rfl,rfl⟩,rfl⟩;refine az.cl ?_;refine Fv ?_;refine bt ?_;refine bt ?_;refine b9 ?_;refine zw rfl (aC.cE (G3 σ _) rfl) ?_;rintro _ _ _ ⟨_,⟨rfl,rfl,rfl⟩,rfl⟩;refine az.cl ?_;refine bt ?_;refine zw rfl (aC.cE (QY _) rfl) ?_;rintro _ _ _ ⟨_,⟨rfl,rfl,rfl⟩,rfl⟩;refine az.cl ?_;refine b3 ?_;exact fU rfl ⟨rfl,rfl,rfl⟩
 by_cases h8:op=8
 ·subst h8;rw[show fh 8 z y=(if decide (z=y)=true then 1 else 0) from by simp[fh]];refine bS Tryz.func193 ?_;refine bq ?_;refine zw rfl (aC.cE (Vq) rfl) ?_;rintro _ _ _ ⟨_,⟨rfl,rfl,rfl⟩,rfl⟩;refine az.cl ?_;refine aO ?_;refine zw rfl (aC.cE (OC) rfl) ?_;rintro _ _ _ ⟨_,⟨rfl,rfl,rfl⟩,rfl⟩;refine az.cl ?_;refine Fv ?_;(iterate 3 (refine bt ?_));refine b9 ?_;refine zw rfl (aC.cE (G3 σ _) rfl) ?_;rintro _ _ _ ⟨_,⟨rfl,rfl,rfl⟩,rfl⟩;refine az.cl ?_;refine bt ?_;refine zw rfl (aC.cE (QY _) rfl) ?_;rintro _ _ _ ⟨_,⟨rfl,rfl,rfl⟩,rfl⟩;refine az.cl ?_;refine b3 ?_;exact fU rfl ⟨rfl,rfl,rfl⟩
 omega
theorem RC (pi:Option Addr) (ci:Nat) (inp:List Int) (a:Int) (ha:0≤a∧a<48) (hi:aV σ (.slice pi inp.length ci) inp) (rf:inp.length≤1000000) (h:bD M.C ⟨next,stack,rd,outn,st,cells⟩):
 ae Tryz.prog 227 #[ptr g,i64 a] σ [au g [ptr mb,cv,.slice pi inp.length ci,ptr pb,i64 left,.bool aX] 179,eh mb sb db d s M] (aE fun v ag ah=>v=.tuple #[]∧σ=ag∧ah=[au g [ptr mb,cv,.slice pi inp.length ci,ptr pb,i64 left,.bool aX] 179,eh mb sb db d s (if (inp.length:Int)≤M.ld 2 then M.put 4 14 else (M.put 2 (M.ld 2+1)).put (5+a) (inp.getD (M.ld 2).toNat 0))]):=by
 have e:M.ld 2=rd:=h.rd;have rQ:=gv σ mb sb db d s M 2;rw[e] at rQ;by_cases hr:inp.length≤rd
 ·rw[if_pos (by omega)];(have SC:(rd:Int)≥inp.length:=by omega);refine bS Tryz.func227 ?_;refine aO ?_;refine zw rfl (aC.cE (rQ) rfl) ?_;rintro _ _ _ ⟨_,⟨rfl,rfl,rfl⟩,rfl⟩;refine az.cl ?_;refine cr ?_;refine mQ ?_;refine bq ?_;refine zw rfl (aC.cE (wh σ g mb sb db pb cv (.slice pi inp.length ci) left aX d s M 14) rfl) ?_;rintro _ _ _ ⟨_,⟨rfl,rfl,rfl⟩,rfl⟩;refine az.cl ?_;refine bM ?_;exact N0 rfl ⟨rfl,rfl,rfl⟩
 ·rw[if_neg (by omega)];(have Y8:rd<inp.length:=by omega);obtain⟨y,hy⟩:∃y,inp[rd]? =some y:=⟨_,List.getElem?_eq_getElem Y8⟩;obtain⟨gi,oi,rfl,Y9⟩:=hi.at hy;rw[Nat.mul_one] at Y9;(have hy2:inp.getD (M.ld 2).toNat 0=y:=by rw[e,Int.toNat_natCast,List.getD_eq_getElem?_getD,hy];rfl);rw[hy2,e];have jt:=tk σ g mb sb db pb cv (.slice (some ⟨gi,oi,none⟩) inp.length ci) left aX d s M 2 1;rw[X.wrap64_in (by omega) (by omega),e] at jt;refine bS Tryz.func227 ?_;refine aO ?_;refine zw rfl (aC.cE (rQ) rfl) ?_;rintro _ _ _ ⟨_,⟨rfl,rfl,rfl⟩,rfl⟩;refine az.cl ?_;refine cr ?_;refine lz ?_;refine b9 ?_;refine zw rfl (aC.cE (jt) rfl) ?_;rintro _ _ _ ⟨_,⟨rfl,rfl,rfl⟩,rfl⟩;refine az.cl ?_;refine aN ?_;refine fZ 14 3739797 [13] (aw.bP (R:=au g _ _) zL (aw.nil _)) ?_;refine eP ?_;refine aK.bj rfl rfl Gd.free (by kernel_rfl) (aC.cE (qX σ mb sb db d s (M.put 2 ((rd:Int)+1)) (5+a) y) rfl) ?_;rintro _ _ _ ⟨_,⟨rfl,rfl,rfl⟩,rfl⟩;refine aK.cl ?_;refine b3 ?_;exact fU rfl ⟨rfl,rfl,rfl⟩
theorem G4 (op a b n k:Int) (hc:0≤a∧1≤b∧a+b≤48):
 ae Tryz.prog 226 #[ptr g,.agg #[i64 op,i64 a,i64 b,i64 n],i64 k] σ [au g [ptr mb,cv,iv,ptr pb,i64 left,.bool aX] 179,eh mb sb db d s M] (aE fun v ag ah=>v=.tuple #[i64 (if k<0∨b≤k then 0 else 5+a+k),.bool (decide ¬(k<0∨b≤k))]∧σ=ag∧ah=[au g [ptr mb,cv,iv,ptr pb,i64 left,.bool aX] 179,eh mb sb db d s (if k<0∨b≤k then M.put 4 13 else M)]):=by
 by_cases h0:k<0
 ·have hk:k<0∨b≤k:=.inl h0;rw[if_pos hk,if_pos hk,decide_eq_false (fun q=>q hk)];(refine ob Tryz.func226 ?_;refine aN ?_;refine cN fun g4=>?_;refine dE ?_;refine mQ ?_;refine bq ?_;refine zw rfl (aC.cE (wh σ g mb sb db pb cv iv left aX d s M 13) rfl) ?_;rintro _ _ _ ⟨_,⟨rfl,rfl,rfl⟩,rfl⟩;refine az.cl ?_;refine aW ?_);exact ao.ret (aG.two rfl rfl rfl) zE ⟨rfl,rfl,rfl⟩
 by_cases h1:b≤k
 ·have hk:k<0∨b≤k:=.inr h1;rw[if_pos hk,if_pos hk,decide_eq_false (fun q=>q hk)];(refine ob Tryz.func226 ?_;refine aN ?_;refine cN fun g4=>?_;refine dE ?_;refine mQ ?_;refine bq ?_;refine zw rfl (aC.cE (wh σ g mb sb db pb cv iv left aX d s M 13) rfl) ?_;rintro _ _ _ ⟨_,⟨rfl,rfl,rfl⟩,rfl⟩;refine az.cl ?_;refine aW ?_);exact ao.ret (aG.two rfl rfl rfl) zE ⟨rfl,rfl,rfl⟩
 (have hk:¬(k<0∨b≤k):=by omega);rw[if_neg hk,if_neg hk,decide_eq_true hk];(refine ob Tryz.func226 ?_;refine aN ?_;refine cN fun g4=>?_;refine dE ?_;refine lz ?_;refine dJ ?_);exact ao.ret (aG.two rfl rfl rfl) zE ⟨rfl,rfl,rfl⟩
theorem G5 (hg:s.gen<4611686018427387904):
 ae Tryz.prog 197 #[ptr g] σ [au g [ptr mb,cv,iv,ptr pb,i64 0,.bool aX] 179,eh mb sb db d s M] (aE fun v ag ah=>∃(d':al) (s':cY),v=.tuple #[]∧s'.gen=s.gen+1∧cw d' s'=M.C∧Good d' s'∧σ.sub ag∧ah=[au g [ptr mb,cv,iv,ptr pb,i64 0,.bool false] 179,eh mb sb db d' s' ⟨M.C,rG⟩]):=by
 refine dF Tryz.func197 ?_;refine cr ?_;refine aW ?_;refine zw rfl (aC.cE (Re σ mb sb db d s M hg) rfl) ?_;rintro _ dQ _ ⟨_,⟨d',s',rfl,h1,h2,h3,bQ,rfl⟩,rfl⟩;refine az.cl ?_;refine b9 ?_;exact fU rfl ⟨d',s',rfl,h1,h2,h3,bQ,rfl⟩
end
section
variable (σ:PH) (g mb sb db pb:Nat) (cv iv:Value) (left:Int) (aX:Bool) (d:al) (s:cY) (M:Me)
variable {next rd outn:Nat} {stack cells:List Int} {st:Int}
theorem G6 (a b n:Int) (ha:0≤a∧a<48) (h:bD M.C ⟨next,stack,rd,outn,st,cells⟩) (hl:stack.length<59):
 ae Tryz.prog 199 #[ptr g,.agg #[i64 2,i64 a,i64 b,i64 n]] σ [au g [ptr mb,cv,iv,ptr pb,i64 left,.bool aX] 179,eh mb sb db d s M] (aE fun v ag ah=>v=.tuple #[]∧σ=ag∧ah=[au g [ptr mb,cv,iv,ptr pb,i64 left,.bool aX] 179,eh mb sb db d s (M.eM (M.ld (5+a)))]):=by
 (refine bS Tryz.func199 ?_;refine aN ?_;refine cN fun g3=>?_;refine cr ?_;refine b3 ?_;refine fZ 10 53298 [8,9] (aw.bP (R:=au g _ _) zL (aw.bP (R:=au g3 _ _) zL (aw.nil _))) ?_;refine bC ?_);refine aK.bj rfl rfl Gd.free (by kernel_rfl) (aC.cE (gv σ mb sb db d s M (5+a)) rfl) ?_;rintro _ _ _ ⟨_,⟨rfl,rfl,rfl⟩,rfl⟩;refine aK.cl ?_;refine aK.bj rfl rfl Gd.free (by kernel_rfl) (aC.cE (wi σ g mb sb db pb cv iv left aX d s M h hl (M.ld (5+a))) rfl) ?_;rintro _ _ _ ⟨_,⟨rfl,rfl,rfl⟩,rfl⟩;refine aK.cl ?_;refine aN ?_;exact fU rfl ⟨rfl,rfl,rfl⟩
theorem G7 (a b n k:Int) (l:List Int) (hc:0≤a∧1≤b∧a+b≤48) (h:bD M.C ⟨next,k::l,rd,outn,st,cells⟩):
 ae Tryz.prog 199 #[ptr g,.agg #[i64 3,i64 a,i64 b,i64 n]] σ [au g [ptr mb,cv,iv,ptr pb,i64 left,.bool aX] 179,eh mb sb db d s M] (aE fun v ag ah=>v=.tuple #[]∧σ=ag∧ah=[au g [ptr mb,cv,iv,ptr pb,i64 left,.bool aX] 179,eh mb sb db d s (if k<0∨b≤k then M.aP.put 4 13 else M.aP.eM (M.aP.ld (5+a+k)))]):=by
 have hs:=h.ls;simp only[List.length_cons] at hs;have nV:=G4 σ g mb sb db pb cv iv left aX d s M.aP 3 a b n k hc;by_cases hk:k<0∨b≤k
 ·rw[if_pos hk];rw[if_pos hk,if_pos hk,decide_eq_false (fun q=>q hk)] at nV;(refine bS Tryz.func199 ?_;refine aN ?_;refine cN fun g3=>?_;refine cr ?_;refine bt ?_;refine aN ?_;refine fZ 10 219 [4] (aw.bP (R:=au g3 _ _) zL (aw.nil _)) ?_;refine bq ?_;refine aK.fL rfl rfl Gd.free (aC.cE (lg σ g mb sb db pb cv iv left aX d s M h) rfl) ?_);rintro _ _ _ ⟨_,⟨rfl,rfl,rfl⟩,rfl⟩;refine stays (aK.cl ?_);refine aK.bj rfl rfl Gd.free (by kernel_rfl) (aC.cE (nV) rfl) ?_;rintro _ _ _ ⟨_,⟨rfl,rfl,rfl⟩,rfl⟩;refine aK.cl ?_;refine bH ?_;refine bq ?_;exact fU rfl ⟨rfl,rfl,rfl⟩
 ·rw[if_neg hk];rw[if_neg hk,if_neg hk,decide_eq_true hk] at nV;(refine bS Tryz.func199 ?_;refine aN ?_;refine cN fun g3=>?_;refine cr ?_;refine bt ?_;refine aN ?_;refine fZ 10 219 [4] (aw.bP (R:=au g3 _ _) zL (aw.nil _)) ?_;refine bq ?_;refine aK.fL rfl rfl Gd.free (aC.cE (lg σ g mb sb db pb cv iv left aX d s M h) rfl) ?_);rintro _ _ _ ⟨_,⟨rfl,rfl,rfl⟩,rfl⟩;refine stays (aK.cl ?_);refine aK.bj rfl rfl Gd.free (by kernel_rfl) (aC.cE (nV) rfl) ?_;rintro _ _ _ ⟨_,⟨rfl,rfl,rfl⟩,rfl⟩;refine aK.cl ?_;refine bH ?_;refine bC ?_;refine zw rfl (aC.cE (gv σ mb sb db d s M.aP (5+a+k)) rfl) ?_;rintro _ _ _ ⟨_,⟨rfl,rfl,rfl⟩,rfl⟩;refine az.cl ?_;refine zw rfl (aC.cE (wi σ g mb sb db pb cv iv left aX d s M.aP h.aP (by omega) (M.aP.ld (5+a+k))) rfl) ?_;rintro _ _ _ ⟨_,⟨rfl,rfl,rfl⟩,rfl⟩;refine az.cl ?_;refine aN ?_;exact fU rfl ⟨rfl,rfl,rfl⟩
theorem G8 (a b n k:Int) (l:List Int) (ha:0≤a∧a<48) (h:bD M.C ⟨next,k::l,rd,outn,st,cells⟩):
 ae Tryz.prog 199 #[ptr g,.agg #[i64 9,i64 a,i64 b,i64 n]] σ [au g [ptr mb,cv,iv,ptr pb,i64 left,.bool aX] 179,eh mb sb db d s M] (aE fun v ag ah=>v=.tuple #[]∧σ=ag∧ah=[au g [ptr mb,cv,iv,ptr pb,i64 left,.bool aX] 179,eh mb sb db d s (M.aP.put (5+a) k)]):=by
 (refine bS Tryz.func199 ?_;refine aN ?_;refine cN fun g3=>?_;refine cr ?_;refine bt ?_;refine bt ?_;refine b3 ?_;refine fZ 10 52758 [9] (aw.bP (R:=au g _ _) zL (aw.bP (R:=au g3 _ _) zL (aw.nil _))) ?_;refine bC ?_);refine aK.fL rfl rfl Gd.free (aC.cE (lg σ g mb sb db pb cv iv left aX d s M h) rfl) ?_;rintro _ _ _ ⟨_,⟨rfl,rfl,rfl⟩,rfl⟩;refine stays (aK.cl ?_);refine aK.bj rfl rfl Gd.free (by kernel_rfl) (aC.cE (qX σ mb sb db d s M.aP (5+a) k) rfl) ?_;rintro _ _ _ ⟨_,⟨rfl,rfl,rfl⟩,rfl⟩;refine aK.cl ?_;refine aN ?_;exact fU rfl ⟨rfl,rfl,rfl⟩
theorem Ea (a b n m k:Int) (l:List Int) (hc:0≤a∧1≤b∧a+b≤48) (h:bD M.C ⟨next,m::k::l,rd,outn,st,cells⟩):
 ae Tryz.prog 199 #[ptr g,.agg #[i64 10,i64 a,i64 b,i64 n]] σ [au g [ptr mb,cv,iv,ptr pb,i64 left,.bool aX] 179,eh mb sb db d s M] (aE fun v ag ah=>v=.tuple #[]∧σ=ag∧ah=[au g [ptr mb,cv,iv,ptr pb,i64 left,.bool aX] 179,eh mb sb db d s (if k<0∨b≤k then M.aP.aP.put 4 13 else M.aP.aP.put (5+a+k) m)]):=by
 have nV:=G4 σ g mb sb db pb cv iv left aX d s M.aP.aP 10 a b n k hc;by_cases hk:k<0∨b≤k
 ·rw[if_pos hk];rw[if_pos hk,if_pos hk,decide_eq_false (fun q=>q hk)] at nV;(refine bS Tryz.func199 ?_;refine aN ?_;refine cN fun g3=>?_;refine cr ?_;(iterate 3 (refine bt ?_));refine bM ?_;refine zw rfl (aC.cE (lg σ g mb sb db pb cv iv left aX d s M h) rfl) ?_;rintro _ _ _ ⟨_,⟨rfl,rfl,rfl⟩,rfl⟩;refine az.cl ?_;refine bM ?_;refine fZ 10 219 [4] (aw.bP (R:=au g3 _ _) zL (aw.nil _)) ?_;refine bq ?_);refine aK.fL rfl rfl Gd.free (aC.cE (lg σ g mb sb db pb cv iv left aX d s M.aP h.aP) rfl) ?_;rintro _ _ _ ⟨_,⟨rfl,rfl,rfl⟩,rfl⟩;refine stays (aK.cl ?_);refine aK.bj rfl rfl Gd.free (by kernel_rfl) (aC.cE (nV) rfl) ?_;rintro _ _ _ ⟨_,⟨rfl,rfl,rfl⟩,rfl⟩;refine aK.cl ?_;refine bH ?_;refine bq ?_;exact fU rfl ⟨rfl,rfl,rfl⟩
 ·rw[if_neg hk];rw[if_neg hk,if_neg hk,decide_eq_true hk] at nV;(refine bS Tryz.func199 ?_;refine aN ?_;refine cN fun g3=>?_;refine cr ?_;(iterate 3 (refine bt ?_));refine bM ?_;refine zw rfl (aC.cE (lg σ g mb sb db pb cv iv left aX d s M h) rfl) ?_;rintro _ _ _ ⟨_,⟨rfl,rfl,rfl⟩,rfl⟩;refine az.cl ?_;refine bM ?_;refine fZ 10 219 [4] (aw.bP (R:=au g3 _ _) zL (aw.nil _)) ?_;refine bq ?_);refine aK.fL rfl rfl Gd.free (aC.cE (lg σ g mb sb db pb cv iv left aX d s M.aP h.aP) rfl) ?_;rintro _ _ _ ⟨_,⟨rfl,rfl,rfl⟩,rfl⟩;refine stays (aK.cl ?_);refine aK.bj rfl rfl Gd.free (by kernel_rfl) (aC.cE (nV) rfl) ?_;rintro _ _ _ ⟨_,⟨rfl,rfl,rfl⟩,rfl⟩;refine aK.cl ?_;refine bH ?_;refine bC ?_;refine zw rfl (aC.cE (qX σ mb sb db d s M.aP.aP (5+a+k) m) rfl) ?_;rintro _ _ _ ⟨_,⟨rfl,rfl,rfl⟩,rfl⟩;refine az.cl ?_;refine aN ?_;exact fU rfl ⟨rfl,rfl,rfl⟩
theorem Ed (pi:Option Addr) (ci:Nat) (inp:List Int) (a b n:Int) (ha:0≤a∧a<48) (hi:aV σ (.slice pi inp.length ci) inp) (rf:inp.length≤1000000) (h:bD M.C ⟨next,stack,rd,outn,st,cells⟩):
 ae Tryz.prog 199 #[ptr g,.agg #[i64 12,i64 a,i64 b,i64 n]] σ [au g [ptr mb,cv,.slice pi inp.length ci,ptr pb,i64 left,.bool aX] 179,eh mb sb db d s M] (aE fun v ag ah=>v=.tuple #[]∧σ=ag∧ah=[au g [ptr mb,cv,.slice pi inp.length ci,ptr pb,i64 left,.bool aX] 179,eh mb sb db d s (if (inp.length:Int)≤M.ld 2 then M.put 4 14 else (M.put 2 (M.ld 2+1)).put (5+a) (inp.getD (M.ld 2).toNat 0))]):=by
 (refine bS Tryz.func199 ?_;refine aN ?_;refine cN fun g3=>?_;refine cr ?_;(iterate 4 (refine bt ?_));refine b9 ?_;refine zw rfl (aC.cE (RC σ g mb sb db pb cv left aX d s M pi ci inp a ha hi rf h) rfl) ?_;rintro _ _ _ ⟨_,⟨rfl,rfl,rfl⟩,rfl⟩;refine az.cl ?_;refine aN ?_);exact fU rfl ⟨rfl,rfl,rfl⟩
theorem G9 (op a b n:Int) (h2:op≠2) (h3:op≠3) (h9:op≠9) (yx:op≠10) (vB:op≠12):
 ae Tryz.prog 199 #[ptr g,.agg #[i64 op,i64 a,i64 b,i64 n]] σ [au g [ptr mb,cv,iv,ptr pb,i64 left,.bool aX] 179,eh mb sb db d s M] (aE fun v ag ah=>v=.tuple #[]∧σ=ag∧ah=[au g [ptr mb,cv,iv,ptr pb,i64 left,.bool aX] 179,eh mb sb db d s M]):=by
 (refine bS Tryz.func199 ?_;refine aN ?_;refine cN fun g3=>?_;refine cr ?_;refine XA.aR rfl (decide_eq_false h2) ?_;refine aO ?_;refine XA.aR rfl (decide_eq_false h3) ?_;refine aO ?_;refine XA.aR rfl (decide_eq_false h9) ?_;refine aO ?_);refine XA.aR rfl (decide_eq_false yx) ?_;refine aO ?_;refine XA.aR rfl (decide_eq_false vB) ?_;refine aN ?_;exact fU rfl ⟨rfl,rfl,rfl⟩
end
theorem Bb (σ:PH) (g mb sb db pb:Nat) (cv iv:Value) (left:Int) (aX:Bool) (d:al) (s:cY) (M:Me) (h4:M.ld 4≠0):
 ae Tryz.prog 156 #[ptr g] σ [au g [ptr mb,cv,iv,ptr pb,i64 left,.bool aX] 179,eh mb sb db d s M] (aE fun v ag ah=>v=.bool false∧σ=ag∧ah=[au g [ptr mb,cv,iv,ptr pb,i64 left,.bool aX] 179,eh mb sb db d s M]):=by
 refine dF Tryz.func156 ?_;refine bH ?_;refine zw rfl (aC.cE (gv σ mb sb db d s M 4) rfl) ?_;rintro _ _ _ ⟨_,⟨rfl,rfl,rfl⟩,rfl⟩;refine az.cl ?_;refine bq ?_;refine XA.bG rfl (decide_eq_true h4) ?_;refine bt ?_;exact b8 rfl rfl ⟨rfl,rfl,rfl⟩
theorem RD {out:List Int} {wrong:Bool} {outn:Nat} {n:Int} (h:outn≤out.length):zx out wrong outn n=(if outn=out.length then (out++[n],wrong) else (out,wrong||decide (out.getD outn 0≠n))):=by
 rw[zx];by_cases h1:outn=out.length
 ·rw[if_pos (by omega),if_pos h1]
 ·rw[if_neg (by omega),if_neg h1,Int.toNat_natCast];by_cases h2:out.getD outn 0=n
  ·rw[if_neg (by rintro(q|q|q);omega;omega;exact q h2),decide_eq_false (fun q=>q h2),Bool.or_false]
  ·rw[if_pos (.inr (.inr h2)),decide_eq_true h2,Bool.or_true]
section
variable (σ:PH) (g mb sb db pb:Nat) (pc pi:Option Addr) (cc ci:Nat) (code:List In) (inp:List Int) (left:Int) (aX:Bool) (d:al) (s:cY) (M:Me) (b:Be) (x:In)
theorem RE (hc:bO 4 yu σ (.slice pc code.length cc) code) (hi:aV σ (.slice pi inp.length ci) inp) (rf:inp.length≤1000000) (hS:bD M.C b.m) (hk:lW code inp b x) (hs:b.m.stack.length<59) (js:x.op≠15):
 ae Tryz.prog 156 #[ptr g] σ [au g [ptr mb,.slice pc code.length cc,.slice pi inp.length ci,ptr pb,i64 left,.bool aX] 179,eh mb sb db d s M,bY pb b.out b.wrong] (aE fun v ag ah=>v=.bool true∧σ=ag∧ah=[au g [ptr mb,.slice pc code.length cc,.slice pi inp.length ci,ptr pb,i64 left,.bool aX] 179,eh mb sb db d s (M.kr code inp),bY pb (b5 code inp false b).out (b5 code inp false b).wrong]):=by
 obtain⟨⟨next,stack,rd,outn,st,cells⟩,kept,out,wrong⟩:=b;obtain⟨iM,hx,bK,⟨eA,kY⟩,mj,Ie,dY,mT,pI,Ib,OB⟩:=hk;have zn:=hS.lc;simp only at iM hx bK eA kY Ie dY mT pI Ib OB hs hS zn;subst iM;obtain⟨oT,xa,xb,xn⟩:=x;simp only at bK eA kY mj js;have aT:=(List.getElem?_eq_some_iff.1 hx).1;obtain⟨gc,qs,row,rfl,pA,rC,bL⟩:=hc.at hx;obtain rfl:row=[i64 oT,i64 xa,i64 xb,i64 xn]:=pA
 have hB:b5 code inp false ⟨⟨next,stack,rd,outn,0,cells⟩,kept,out,wrong⟩=aL inp false ⟨oT,xa,xb,xn⟩ ⟨⟨next+1,stack,rd,outn,0,cells⟩,kept,out,wrong⟩:=by
  rw[b5,hx];rfl
 rw[hB];clear hB;have e0:M.ld 0=next:=hS.nx;have hM:M.kr code inp=(M.put 0 ((next:Int)+1)).kX inp ⟨oT,xa,xb,xn⟩:=by rw[Me.kr,e0,Int.toNat_natCast,hx]
 have hw:bD (M.put 0 (((next:Nat):Int)+1)).C ⟨next+1,stack,rd,outn,0,cells⟩:=by
  have:=hS.Lp (next+1);rw[Int.natCast_add] at this;exact this
 have rQ:=gv σ mb sb db d s M 4;rw[show M.ld 4=0 from hS.st] at rQ;have jt:=tk σ g mb sb db pb (.slice (some ⟨gc,qs,none⟩) code.length cc) (.slice pi inp.length ci) left aX d s M 0 1;rw[e0,X.wrap64_in (by omega) (by omega)] at jt;rw[hM];clear hM hS e0 hc;generalize M.put 0 (((next:Nat):Int)+1)=M1 at hw jt⊢;dsimp only;refine dF Tryz.func156 ?_;refine bH ?_;refine zw rfl (aC.cE (rQ) rfl) ?_;rintro _ _ _ ⟨_,⟨rfl,rfl,rfl⟩,rfl⟩;refine az.cl ?_;refine bq ?_;refine bM ?_;refine XA.join [(3,3),(11,18)] (fun y:Nat=>[(3,ptr y)]) (fun y ag ah=>σ=ag∧ah=[au y [i64 oT,i64 xa,i64 xb,i64 xn] 219,au g [ptr mb,.slice (some ⟨gc,qs,none⟩) code.length cc,.slice pi inp.length ci,ptr pb,i64 left,.bool aX] 179,eh mb sb db d s M1,bY pb out wrong]) ?_ ?_
 ·skip;refine XA.n7 (by kernel_rfl) _ _ [9] 10 #[false,false,false,false,false,false,false,false,false,false] rfl rfl (by kernel_rfl) (PH.sub.refl _) (aw.bP (R:=au g _ _) zL (aw.nil _)) ?_;refine qp 0 #[tT,fF,fF,fF,fF,fF,fF,fF,fF,fF] rfl Rd.mv ?_;refine qp 1 #[tT,tT,fF,fF,fF,fF,fF,fF,fF,fF] rfl (Rd.nilCheck rfl) ?_;refine qp 2 #[tT,tT,tT,fF,fF,fF,fF,fF,fF,fF] rfl (Rd.fA rfl) ?_;refine qr 3 #[tT,tT,tT,tT,fF,fF,fF,fF,fF,fF] rfl (Rd.EN rfl (ad rfl) rfl) ?_;refine qp 4 #[tT,tT,tT,tT,tT,fF,fF,fF,fF,fF] rfl Rd.mv ?_;refine cC.w2 (i:=5) (j:=8) (by kernel_rfl) ?_ ?_
  ·refine qw #[tT,tT,tT,tT,tT,tT,fF,fF,fF,fF] rfl (aC.cE jt rfl) ?_;rintro _ _ _ ⟨_,⟨rfl,rfl,rfl⟩,rfl⟩;refine⟨⟨zX,zE⟩,cC.re zC ?_⟩;refine qp 6 #[tT,tT,tT,tT,tT,tT,tT,fF,fF,fF] rfl (Rd.NW rfl rfl) ?_;refine qr 7 #[tT,tT,tT,tT,tT,tT,tT,tT,fF,fF] rfl (Rd.Ah rfl) ?_;refine qa 8 ?_;refine qw #[tT,tT,tT,tT,tT,tT,tT,tT,tT,fF] rfl (aC.alloc (ad rfl)) ?_;rintro _ _ _ ⟨g3,rfl,rfl,rfl⟩;refine⟨⟨zX,zE⟩,cC.re zC ?_⟩;refine qa 9 ?_;refine iN.bj (aQ:=#[tT,tT,tT,tT,tT,tT,tT,tT,tT,tT]) rfl rfl Gd.free (by kernel_rfl) rfl (by kernel_rfl) (aC.st (ad rfl) rfl) ?_;rintro _ _ _ ⟨rfl,rfl,rfl⟩;refine cC.re zC ?_;refine cC.nil rfl ?_;refine DA.bE ⟨zK,g3,_,zM,?_,rfl,rfl⟩;exact zE
  ·refine qw #[tT,tT,tT,tT,tT,fF,fF,fF,tT,fF] rfl (aC.alloc (ad rfl)) ?_;rintro _ _ _ ⟨g3,rfl,rfl,rfl⟩;refine⟨⟨zX,zE⟩,cC.re zC ?_⟩;refine qa 5 ?_;refine qw #[tT,tT,tT,tT,tT,tT,fF,fF,tT,fF] rfl (aC.cE jt rfl) ?_;rintro _ _ _ ⟨_,⟨rfl,rfl,rfl⟩,rfl⟩;refine⟨⟨zX,zE⟩,cC.re zC ?_⟩;refine qp 6 #[tT,tT,tT,tT,tT,tT,tT,fF,tT,fF] rfl (Rd.NW rfl rfl) ?_;refine qr 7 #[tT,tT,tT,tT,tT,tT,tT,tT,tT,fF] rfl (Rd.Ah rfl) ?_;refine qa 9 ?_;refine iN.bj (aQ:=#[tT,tT,tT,tT,tT,tT,tT,tT,tT,tT]) rfl rfl Gd.free (by kernel_rfl) rfl (by kernel_rfl) (aC.st (ad rfl) rfl) ?_;rintro _ _ _ ⟨rfl,rfl,rfl⟩;refine cC.re zC ?_;refine cC.nil rfl ?_;refine DA.bE ⟨zK,g3,_,zM,?_,rfl,rfl⟩;exact zE
 rintro g3 δ _ _ ⟨rfl,rfl⟩;dsimp only[eb,List.foldl];refine b3 ?_;refine dJ ?_;by_cases h1:oT=1
 ·subst h1;clear hx;rw[show M1.kX inp ⟨1,xa,xb,xn⟩=M1.eM xn from rfl];rw[show aL inp false ⟨1,xa,xb,xn⟩ ⟨⟨next+1,stack,rd,outn,0,cells⟩,kept,out,wrong⟩=⟨⟨next+1,xn::stack,rd,outn,0,cells⟩,kept,out,wrong⟩ from rfl];refine b9 ?_;refine zw rfl (aC.cE (wi σ g mb sb db pb (.slice (some ⟨gc,qs,none⟩) code.length cc) (.slice pi inp.length ci) left aX d s M1 hw hs xn) rfl) ?_;rintro _ _ _ ⟨_,⟨rfl,rfl,rfl⟩,rfl⟩;refine az.cl ?_;refine a8 ?_;exact b8 rfl rfl ⟨rfl,rfl,rfl⟩
 by_cases h4:oT=4
 ·subst h4;clear hx
  obtain⟨y,z,l,rfl⟩:∃y z s,stack=y::z::s:=by
   cases stack with
   |nil=>simp[bX] at bK
   |cons y s=>cases s with
    |nil=>simp[bX] at bK
    |cons z s=>exact⟨y,z,s,rfl⟩
  rw[show M1.kX inp ⟨4,xa,xb,xn⟩=M1.aP.aP.eM (fh 4 M1.aP.cH M1.cH) from rfl,hw.cH,hw.aP.cH];rw[show aL inp false ⟨4,xa,xb,xn⟩ ⟨⟨next+1,y::z::l,rd,outn,0,cells⟩,kept,out,wrong⟩=⟨⟨next+1,fh 4 z y::l,rd,outn,0,cells⟩,kept,out,wrong⟩ from rfl];refine bC ?_;refine bq ?_;refine b9 ?_;refine zw rfl (aC.cE (yz σ g mb sb db pb (.slice (some ⟨gc,qs,none⟩) code.length cc) (.slice pi inp.length ci) left aX d s M1 4 (by decide) hw) rfl) ?_;rintro _ _ _ ⟨_,⟨rfl,rfl,rfl⟩,rfl⟩;refine az.cl ?_;refine a8 ?_;exact b8 rfl rfl ⟨rfl,rfl,rfl⟩
 by_cases h5:oT=5
 ·subst h5;clear hx
  obtain⟨y,z,l,rfl⟩:∃y z s,stack=y::z::s:=by
   cases stack with
   |nil=>simp[bX] at bK
   |cons y s=>cases s with
    |nil=>simp[bX] at bK
    |cons z s=>exact⟨y,z,s,rfl⟩
  rw[show M1.kX inp ⟨5,xa,xb,xn⟩=M1.aP.aP.eM (fh 5 M1.aP.cH M1.cH) from rfl,hw.cH,hw.aP.cH];rw[show aL inp false ⟨5,xa,xb,xn⟩ ⟨⟨next+1,y::z::l,rd,outn,0,cells⟩,kept,out,wrong⟩=⟨⟨next+1,fh 5 z y::l,rd,outn,0,cells⟩,kept,out,wrong⟩ from rfl];refine bC ?_;refine bt ?_;refine bq ?_;refine b9 ?_;refine zw rfl (aC.cE (yz σ g mb sb db pb (.slice (some ⟨gc,qs,none⟩) code.length cc) (.slice pi inp.length ci) left aX d s M1 5 (by decide) hw) rfl) ?_;rintro _ _ _ ⟨_,⟨rfl,rfl,rfl⟩,rfl⟩;refine az.cl ?_;refine a8 ?_;exact b8 rfl rfl ⟨rfl,rfl,rfl⟩
 by_cases h6:oT=6
 ·subst h6;clear hx
  obtain⟨y,z,l,rfl⟩:∃y z s,stack=y::z::s:=by
   cases stack with
   |nil=>simp[bX] at bK
   |cons y s=>cases s with
    |nil=>simp[bX] at bK
    |cons z s=>exact⟨y,z,s,rfl⟩
  rw[show M1.kX inp ⟨6,xa,xb,xn⟩=M1.aP.aP.eM (fh 6 M1.aP.cH M1.cH) from rfl,hw.cH,hw.aP.cH];rw[show aL inp false ⟨6,xa,xb,xn⟩ ⟨⟨next+1,y::z::l,rd,outn,0,cells⟩,kept,out,wrong⟩=⟨⟨next+1,fh 6 z y::l,rd,outn,0,cells⟩,kept,out,wrong⟩ from rfl];refine bC ?_;refine bt ?_;refine bt ?_;refine bq ?_;refine b9 ?_;refine zw rfl (aC.cE (yz σ g mb sb db pb (.slice (some ⟨gc,qs,none⟩) code.length cc) (.slice pi inp.length ci) left aX d s M1 6 (by decide) hw) rfl) ?_;rintro _ _ _ ⟨_,⟨rfl,rfl,rfl⟩,rfl⟩;refine az.cl ?_;refine a8 ?_;exact b8 rfl rfl ⟨rfl,rfl,rfl⟩
 by_cases h7:oT=7
 ·subst h7;clear hx
  obtain⟨y,z,l,rfl⟩:∃y z s,stack=y::z::s:=by
   cases stack with
   |nil=>simp[bX] at bK
   |cons y s=>cases s with
    |nil=>simp[bX] at bK
    |cons z s=>exact⟨y,z,s,rfl⟩
  rw[show M1.kX inp ⟨7,xa,xb,xn⟩=M1.aP.aP.eM (fh 7 M1.aP.cH M1.cH) from rfl,hw.cH,hw.aP.cH];rw[show aL inp false ⟨7,xa,xb,xn⟩ ⟨⟨next+1,y::z::l,rd,outn,0,cells⟩,kept,out,wrong⟩=⟨⟨next+1,fh 7 z y::l,rd,outn,0,cells⟩,kept,out,wrong⟩ from rfl];refine bC ?_;(iterate 3 (refine bt ?_));refine bq ?_;refine b9 ?_;refine zw rfl (aC.cE (yz σ g mb sb db pb (.slice (some ⟨gc,qs,none⟩) code.length cc) (.slice pi inp.length ci) left aX d s M1 7 (by decide) hw) rfl) ?_;rintro _ _ _ ⟨_,⟨rfl,rfl,rfl⟩,rfl⟩;refine az.cl ?_;refine a8 ?_;exact b8 rfl rfl ⟨rfl,rfl,rfl⟩
 by_cases h8:oT=8
 ·subst h8;clear hx
  obtain⟨y,z,l,rfl⟩:∃y z s,stack=y::z::s:=by
   cases stack with
   |nil=>simp[bX] at bK
   |cons y s=>cases s with
    |nil=>simp[bX] at bK
    |cons z s=>exact⟨y,z,s,rfl⟩
  rw[show M1.kX inp ⟨8,xa,xb,xn⟩=M1.aP.aP.eM (fh 8 M1.aP.cH M1.cH) from rfl,hw.cH,hw.aP.cH];rw[show aL inp false ⟨8,xa,xb,xn⟩ ⟨⟨next+1,y::z::l,rd,outn,0,cells⟩,kept,out,wrong⟩=⟨⟨next+1,fh 8 z y::l,rd,outn,0,cells⟩,kept,out,wrong⟩ from rfl];refine bC ?_;(iterate 3 (refine bt ?_));refine aO ?_;refine b9 ?_;refine zw rfl (aC.cE (yz σ g mb sb db pb (.slice (some ⟨gc,qs,none⟩) code.length cc) (.slice pi inp.length ci) left aX d s M1 8 (by decide) hw) rfl) ?_;rintro _ _ _ ⟨_,⟨rfl,rfl,rfl⟩,rfl⟩;refine az.cl ?_;refine a8 ?_;exact b8 rfl rfl ⟨rfl,rfl,rfl⟩
 by_cases pB:oT=11
 ·subst pB;clear hx
  obtain⟨n,l,rfl⟩:∃n s,stack=n::s:=by
   cases stack with
   |nil=>simp[bX] at bK
   |cons n s=>exact⟨n,s,rfl⟩
  rw[show M1.kX inp ⟨11,xa,xb,xn⟩=M1.aP.put 3 (M1.aP.ld 3+1) from rfl];have e3:M1.aP.ld 3=outn:=hw.aP.on;rw[e3];have OD:=tk σ g mb sb db pb (.slice (some ⟨gc,qs,none⟩) code.length cc) (.slice pi inp.length ci) left aX d s M1.aP 3 1;rw[e3,X.wrap64_in (by omega) (by omega)] at OD;have Oi:=RD (wrong:=wrong) (n:=n) OB
  obtain⟨eo,ew⟩:(aL inp false ⟨11,xa,xb,xn⟩ ⟨⟨next+1,n::l,rd,outn,0,cells⟩,kept,out,wrong⟩).out=(zx out wrong outn n).1∧(aL inp false ⟨11,xa,xb,xn⟩ ⟨⟨next+1,n::l,rd,outn,0,cells⟩,kept,out,wrong⟩).wrong=(zx out wrong outn n).2:=by
   rw[Oi];by_cases Lr:outn=out.length<;>simp[aL,Lr]
  rw[eo,ew];refine bC ?_;(iterate 3 (refine bt ?_));refine aO ?_;refine bt ?_;refine bM ?_;refine zw rfl (aC.cE (lg σ g mb sb db pb (.slice (some ⟨gc,qs,none⟩) code.length cc) (.slice pi inp.length ci) left aX d s M1 hw) rfl) ?_;rintro _ _ _ ⟨_,⟨rfl,rfl,rfl⟩,rfl⟩;refine az.cl ?_;refine bq ?_;refine XA.draw (by kernel_rfl) _ _ [7] [(0,.pu),(1,.pu),(2,.pu),(3,.rd),(4,.pu),(6,.pu),(5,.wr),(7,.wr)] (by kernel_rfl) (PH.sub.refl _) (aw.bP (R:=au g _ _) zL (aw.nil _)) ?_;refine aO ?_;refine aK.fL rfl rfl Gd.free (aC.cE (OD) rfl) ?_;rintro _ _ _ ⟨_,⟨rfl,rfl,rfl⟩,rfl⟩;refine stays (aK.cl ?_);refine aK.bj rfl rfl Gd.free (by kernel_rfl) (aC.cE (RB σ pb out wrong outn n Ib) rfl) ?_;rintro _ _ _ ⟨_,⟨rfl,rfl,rfl⟩,rfl⟩;refine aK.cl ?_;refine a8 ?_;exact b8 rfl rfl ⟨rfl,rfl,rfl⟩
 by_cases CQ:oT=13
 ·subst CQ;clear hx
  obtain⟨n,l,rfl⟩:∃n s,stack=n::s:=by
   cases stack with
   |nil=>simp[bX] at bK
   |cons n s=>exact⟨n,s,rfl⟩
  rw[show M1.kX inp ⟨13,xa,xb,xn⟩=(if M1.cH=0 then M1.aP.put 0 xa else M1.aP) from rfl,hw.cH];by_cases uz:n=0
  ·rw[if_pos uz,show aL inp false ⟨13,xa,xb,xn⟩ ⟨⟨next+1,n::l,rd,outn,0,cells⟩,kept,out,wrong⟩=⟨⟨xa.toNat,l,rd,outn,0,cells⟩,kept,out,wrong⟩ from by simp[aL,uz]];refine bC ?_;(iterate 3 (refine bt ?_));refine aO ?_;refine bt ?_;refine bt ?_;refine bM ?_;refine zw rfl (aC.cE (lg σ g mb sb db pb (.slice (some ⟨gc,qs,none⟩) code.length cc) (.slice pi inp.length ci) left aX d s M1 hw) rfl) ?_;rintro _ _ _ ⟨_,⟨rfl,rfl,rfl⟩,rfl⟩;refine az.cl ?_;refine bq ?_;refine XA.bG rfl (decide_eq_true uz) ?_;refine fZ 7 1728 [6] (aw.bP (R:=au g _ _) zL (aw.bP (R:=au g3 _ _) zL (aw.nil _))) ?_;refine aO ?_;refine aK.bj rfl rfl Gd.free (by kernel_rfl) (aC.cE (qX σ mb sb db d s M1.aP 0 xa) rfl) ?_;rintro _ _ _ ⟨_,⟨rfl,rfl,rfl⟩,rfl⟩;refine aK.cl ?_;refine a8 ?_;exact b8 rfl rfl ⟨rfl,rfl,rfl⟩
  rw[if_neg uz,show aL inp false ⟨13,xa,xb,xn⟩ ⟨⟨next+1,n::l,rd,outn,0,cells⟩,kept,out,wrong⟩=⟨⟨next+1,l,rd,outn,0,cells⟩,kept,out,wrong⟩ from by simp[aL,uz]];refine bC ?_;(iterate 3 (refine bt ?_));refine aO ?_;refine bt ?_;refine bt ?_;refine bM ?_;refine zw rfl (aC.cE (lg σ g mb sb db pb (.slice (some ⟨gc,qs,none⟩) code.length cc) (.slice pi inp.length ci) left aX d s M1 hw) rfl) ?_;rintro _ _ _ ⟨_,⟨rfl,rfl,rfl⟩,rfl⟩;refine az.cl ?_;refine bq ?_;refine XA.aR rfl (decide_eq_false uz) ?_;refine a8 ?_;exact b8 rfl rfl ⟨rfl,rfl,rfl⟩
 by_cases ud:oT=14
 ·subst ud;clear hx;rw[show M1.kX inp ⟨14,xa,xb,xn⟩=M1.put 0 xa from rfl];rw[show aL inp false ⟨14,xa,xb,xn⟩ ⟨⟨next+1,stack,rd,outn,0,cells⟩,kept,out,wrong⟩=⟨⟨xa.toNat,stack,rd,outn,0,cells⟩,kept,out,wrong⟩ from rfl];refine bC ?_;(iterate 3 (refine bt ?_));refine aO ?_;(iterate 3 (refine bt ?_));refine b3 ?_;refine fZ 7 1728 [6] (aw.bP (R:=au g _ _) zL (aw.bP (R:=au g3 _ _) zL (aw.nil _))) ?_;refine aO ?_;refine aK.bj rfl rfl Gd.free (by kernel_rfl) (aC.cE (qX σ mb sb db d s M1 0 xa) rfl) ?_;rintro _ _ _ ⟨_,⟨rfl,rfl,rfl⟩,rfl⟩;refine aK.cl ?_;refine a8 ?_;exact b8 rfl rfl ⟨rfl,rfl,rfl⟩
 by_cases CR:oT=16
 ·subst CR;clear hx;rw[show M1.kX inp ⟨16,xa,xb,xn⟩=M1.put 4 1 from rfl];rw[show aL inp false ⟨16,xa,xb,xn⟩ ⟨⟨next+1,stack,rd,outn,0,cells⟩,kept,out,wrong⟩=⟨⟨next+1,stack,rd,outn,1,cells⟩,kept,out,wrong⟩ from rfl];refine bC ?_;(iterate 3 (refine bt ?_));refine aO ?_;(iterate 5 (refine bt ?_));refine bq ?_;refine zw rfl (aC.cE (wh σ g mb sb db pb (.slice (some ⟨gc,qs,none⟩) code.length cc) (.slice pi inp.length ci) left aX d s M1 1) rfl) ?_;rintro _ _ _ ⟨_,⟨rfl,rfl,rfl⟩,rfl⟩;refine az.cl ?_;refine a8 ?_;exact b8 rfl rfl ⟨rfl,rfl,rfl⟩
 by_cases h2:oT=2
 ·subst h2;clear hx;obtain⟨BV,Ol⟩:=eA (.inl rfl);rw[show M1.kX inp ⟨2,xa,xb,xn⟩=M1.eM (M1.ld (5+xa)) from rfl];rw[show aL inp false ⟨2,xa,xb,xn⟩ ⟨⟨next+1,stack,rd,outn,0,cells⟩,kept,out,wrong⟩=⟨⟨next+1,cells.getD xa.toNat 0::stack,rd,outn,0,cells⟩,kept,out,wrong⟩ from rfl];refine bC ?_;(iterate 3 (refine bt ?_));refine aO ?_;(iterate 5 (refine bt ?_));refine bM ?_;refine zw rfl (aC.cE (G6 σ g mb sb db pb (.slice (some ⟨gc,qs,none⟩) code.length cc) (.slice pi inp.length ci) left aX d s M1 xa xb xn ⟨BV,by omega⟩ hw hs) rfl) ?_;rintro _ _ _ ⟨_,⟨rfl,rfl,rfl⟩,rfl⟩;refine az.cl ?_;refine a8 ?_;exact b8 rfl rfl ⟨rfl,rfl,rfl⟩
 by_cases h3:oT=3
 ·subst h3;clear hx
  obtain⟨n,l,rfl⟩:∃n s,stack=n::s:=by
   cases stack with
   |nil=>simp[bX] at bK
   |cons n s=>exact⟨n,s,rfl⟩
  obtain⟨QD,SN,YZ⟩:=kY (by decide);rw[show M1.kX inp ⟨3,xa,xb,xn⟩=(if M1.cH<0∨xb≤M1.cH then M1.aP.put 4 13 else M1.aP.eM (M1.aP.ld (5+xa+M1.cH))) from rfl,hw.cH]
  obtain⟨eo,ew⟩:(aL inp false ⟨3,xa,xb,xn⟩ ⟨⟨next+1,n::l,rd,outn,0,cells⟩,kept,out,wrong⟩).out=out∧(aL inp false ⟨3,xa,xb,xn⟩ ⟨⟨next+1,n::l,rd,outn,0,cells⟩,kept,out,wrong⟩).wrong=wrong:=by
   by_cases Lr:n<0∨xb≤n<;>simp[aL,Lr]
  rw[eo,ew];refine bC ?_;(iterate 3 (refine bt ?_));refine aO ?_;(iterate 5 (refine bt ?_));refine bM ?_;refine zw rfl (aC.cE (G7 σ g mb sb db pb (.slice (some ⟨gc,qs,none⟩) code.length cc) (.slice pi inp.length ci) left aX d s M1 xa xb xn n l ⟨QD,SN,by omega⟩ hw) rfl) ?_;rintro _ _ _ ⟨_,⟨rfl,rfl,rfl⟩,rfl⟩;refine az.cl ?_;refine a8 ?_;exact b8 rfl rfl ⟨rfl,rfl,rfl⟩
 by_cases h9:oT=9
 ·subst h9;clear hx
  obtain⟨n,l,rfl⟩:∃n s,stack=n::s:=by
   cases stack with
   |nil=>simp[bX] at bK
   |cons n s=>exact⟨n,s,rfl⟩
  obtain⟨BV,Ol⟩:=eA (by decide);rw[show M1.kX inp ⟨9,xa,xb,xn⟩=M1.aP.put (5+xa) M1.cH from rfl,hw.cH];rw[show aL inp false ⟨9,xa,xb,xn⟩ ⟨⟨next+1,n::l,rd,outn,0,cells⟩,kept,out,wrong⟩=⟨⟨next+1,l,rd,outn,0,cells.set xa.toNat n⟩,kept,out,wrong⟩ from rfl];refine bC ?_;(iterate 3 (refine bt ?_));refine aO ?_;(iterate 5 (refine bt ?_));refine bM ?_;refine zw rfl (aC.cE (G8 σ g mb sb db pb (.slice (some ⟨gc,qs,none⟩) code.length cc) (.slice pi inp.length ci) left aX d s M1 xa xb xn n l ⟨BV,by omega⟩ hw) rfl) ?_;rintro _ _ _ ⟨_,⟨rfl,rfl,rfl⟩,rfl⟩;refine az.cl ?_;refine a8 ?_;exact b8 rfl rfl ⟨rfl,rfl,rfl⟩
 by_cases yx:oT=10
 ·subst yx;clear hx
  obtain⟨y,z,l,rfl⟩:∃y z s,stack=y::z::s:=by
   cases stack with
   |nil=>simp[bX] at bK
   |cons y s=>cases s with
    |nil=>simp[bX] at bK
    |cons z s=>exact⟨y,z,s,rfl⟩
  obtain⟨QD,SN,YZ⟩:=kY (by decide);rw[show M1.kX inp ⟨10,xa,xb,xn⟩=(if M1.aP.cH<0∨xb≤M1.aP.cH then M1.aP.aP.put 4 13 else M1.aP.aP.put (5+xa+M1.aP.cH) M1.cH) from rfl,hw.cH,hw.aP.cH]
  obtain⟨eo,ew⟩:(aL inp false ⟨10,xa,xb,xn⟩ ⟨⟨next+1,y::z::l,rd,outn,0,cells⟩,kept,out,wrong⟩).out=out∧(aL inp false ⟨10,xa,xb,xn⟩ ⟨⟨next+1,y::z::l,rd,outn,0,cells⟩,kept,out,wrong⟩).wrong=wrong:=by
   by_cases Lr:z<0∨xb≤z<;>simp[aL,Lr]
  rw[eo,ew];refine bC ?_;(iterate 3 (refine bt ?_));refine aO ?_;(iterate 5 (refine bt ?_));refine bM ?_;refine zw rfl (aC.cE (Ea σ g mb sb db pb (.slice (some ⟨gc,qs,none⟩) code.length cc) (.slice pi inp.length ci) left aX d s M1 xa xb xn y z l ⟨QD,SN,by omega⟩ hw) rfl) ?_;rintro _ _ _ ⟨_,⟨rfl,rfl,rfl⟩,rfl⟩;refine az.cl ?_;refine a8 ?_;exact b8 rfl rfl ⟨rfl,rfl,rfl⟩
 by_cases vB:oT=12
 ·subst vB;clear hx;obtain⟨BV,Ol⟩:=eA (by decide);rw[show M1.kX inp ⟨12,xa,xb,xn⟩=(if (inp.length:Int)≤M1.ld 2 then M1.put 4 14 else (M1.put 2 (M1.ld 2+1)).put (5+xa) (inp.getD (M1.ld 2).toNat 0)) from rfl]
  obtain⟨eo,ew⟩:(aL inp false ⟨12,xa,xb,xn⟩ ⟨⟨next+1,stack,rd,outn,0,cells⟩,kept,out,wrong⟩).out=out∧(aL inp false ⟨12,xa,xb,xn⟩ ⟨⟨next+1,stack,rd,outn,0,cells⟩,kept,out,wrong⟩).wrong=wrong:=by
   by_cases Lr:inp.length≤rd<;>simp[aL,Lr]
  rw[eo,ew];refine bC ?_;(iterate 3 (refine bt ?_));refine aO ?_;(iterate 5 (refine bt ?_));refine bM ?_;refine zw rfl (aC.cE (Ed σ g mb sb db pb (.slice (some ⟨gc,qs,none⟩) code.length cc) left aX d s M1 pi ci inp xa xb xn ⟨BV,by omega⟩ hi rf hw) rfl) ?_;rintro _ _ _ ⟨_,⟨rfl,rfl,rfl⟩,rfl⟩;refine az.cl ?_;refine a8 ?_;exact b8 rfl rfl ⟨rfl,rfl,rfl⟩
 have Vr:¬(4≤oT∧oT≤8):=by omega
 rw[show M1.kX inp ⟨oT,xa,xb,xn⟩=M1 from by
  simp only[Me.kX]
  rw[if_neg h1,if_neg h2,if_neg h3,if_neg Vr,if_neg h9,if_neg yx,if_neg pB,if_neg vB,if_neg CQ,if_neg ud,if_neg js,if_neg CR]]
 rw[show aL inp false ⟨oT,xa,xb,xn⟩ ⟨⟨next+1,stack,rd,outn,0,cells⟩,kept,out,wrong⟩=⟨⟨next+1,stack,rd,outn,0,cells⟩,kept,out,wrong⟩ from by
  simp only[aL]
  rw[if_neg h1,if_neg h2,if_neg h3,if_neg Vr,if_neg h9,if_neg yx,if_neg pB,if_neg vB,if_neg CQ,if_neg ud,if_neg js,if_neg CR]]
 clear hx;refine XA.aR rfl (decide_eq_false h1) ?_;refine bt ?_;refine XA.aR rfl (decide_eq_false h4) ?_;refine aO ?_;refine XA.aR rfl (decide_eq_false h5) ?_;refine aO ?_;refine XA.aR rfl (decide_eq_false h6) ?_;refine aO ?_;refine XA.aR rfl (decide_eq_false h7) ?_;refine b9 ?_;refine XA.aR rfl (decide_eq_false h8) ?_;refine aO ?_;refine XA.aR rfl (decide_eq_false pB) ?_;refine aO ?_;refine XA.aR rfl (decide_eq_false CQ) ?_;refine aO ?_;refine XA.aR rfl (decide_eq_false ud) ?_;refine aO ?_;refine XA.aR rfl (decide_eq_false js) ?_;refine aO ?_;refine XA.aR rfl (decide_eq_false CR) ?_;refine bq ?_;refine zw rfl (aC.cE (G9 σ g mb sb db pb (.slice (some ⟨gc,qs,none⟩) code.length cc) (.slice pi inp.length ci) left aX d s M1 oT xa xb xn h2 h3 h9 yx vB) rfl) ?_;rintro _ _ _ ⟨_,⟨rfl,rfl,rfl⟩,rfl⟩;refine az.cl ?_;refine a8 ?_;exact b8 rfl rfl ⟨rfl,rfl,rfl⟩
theorem Lt (hc:bO 4 yu σ (.slice pc code.length cc) code) (hg:s.gen<4611686018427387904) (hS:bD M.C b.m) (hk:lW code inp b x) (js:x.op=15):
 ae Tryz.prog 156 #[ptr g] σ [au g [ptr mb,.slice pc code.length cc,.slice pi inp.length ci,ptr pb,i64 0,.bool aX] 179,eh mb sb db d s M] (aE fun v ag ah=>∃(d':al) (s':cY),v=.bool true∧s'.gen=s.gen+1∧cw d' s'=(M.kr code inp).C∧Good d' s'∧σ.sub ag∧ah=[au g [ptr mb,.slice pc code.length cc,.slice pi inp.length ci,ptr pb,i64 0,.bool false] 179,eh mb sb db d' s' (M.kr code inp)]):=by
 obtain⟨⟨next,stack,rd,outn,st,cells⟩,kept,out,wrong⟩:=b;obtain⟨iM,hx,-,-,-,-,-,mT,-,-,-⟩:=hk;simp only at iM hx mT hS;subst iM;obtain⟨oT,xa,xb,xn⟩:=x;simp only at js;subst js;have aT:=(List.getElem?_eq_some_iff.1 hx).1;obtain⟨gc,qs,row,rfl,pA,rC,bL⟩:=hc.at hx;obtain rfl:row=[i64 15,i64 xa,i64 xb,i64 xn]:=pA;have e0:M.ld 0=next:=hS.nx;(have hM:M.kr code inp=⟨(M.put 0 ((next:Int)+1)).C,rG⟩:=by rw[Me.kr,e0,Int.toNat_natCast,hx];rfl);have rQ:=gv σ mb sb db d s M 4;rw[show M.ld 4=0 from hS.st] at rQ;have jt:=tk σ g mb sb db pb (.slice (some ⟨gc,qs,none⟩) code.length cc) (.slice pi inp.length ci) 0 aX d s M 0 1;rw[e0,X.wrap64_in (by omega) (by omega)] at jt;rw[hM];clear hM hS e0 hc hx;generalize M.put 0 (((next:Nat):Int)+1)=M1 at jt⊢;refine dF Tryz.func156 ?_;refine bH ?_;refine zw rfl (aC.cE (rQ) rfl) ?_;rintro _ _ _ ⟨_,⟨rfl,rfl,rfl⟩,rfl⟩;refine az.cl ?_;refine bq ?_;refine bM ?_;refine XA.join [(3,3),(11,18)] (fun y:Nat=>[(3,ptr y)]) (fun y ag ah=>σ=ag∧ah=[au y [i64 15,i64 xa,i64 xb,i64 xn] 219,au g [ptr mb,.slice (some ⟨gc,qs,none⟩) code.length cc,.slice pi inp.length ci,ptr pb,i64 0,.bool aX] 179,eh mb sb db d s M1]) ?_ ?_
 ·skip;refine XA.n7 (by kernel_rfl) _ _ [9] 10 #[false,false,false,false,false,false,false,false,false,false] rfl rfl (by kernel_rfl) (PH.sub.refl _) (aw.bP (R:=au g _ _) zL (aw.nil _)) ?_;refine qp 0 #[tT,fF,fF,fF,fF,fF,fF,fF,fF,fF] rfl Rd.mv ?_;refine qp 1 #[tT,tT,fF,fF,fF,fF,fF,fF,fF,fF] rfl (Rd.nilCheck rfl) ?_;refine qp 2 #[tT,tT,tT,fF,fF,fF,fF,fF,fF,fF] rfl (Rd.fA rfl) ?_;refine qr 3 #[tT,tT,tT,tT,fF,fF,fF,fF,fF,fF] rfl (Rd.EN rfl (ad rfl) rfl) ?_;refine qp 4 #[tT,tT,tT,tT,tT,fF,fF,fF,fF,fF] rfl Rd.mv ?_;refine cC.w2 (i:=5) (j:=8) (by kernel_rfl) ?_ ?_
  ·refine qw #[tT,tT,tT,tT,tT,tT,fF,fF,fF,fF] rfl (aC.cE jt rfl) ?_;rintro _ _ _ ⟨_,⟨rfl,rfl,rfl⟩,rfl⟩;refine⟨⟨zX,zE⟩,cC.re zC ?_⟩;refine qp 6 #[tT,tT,tT,tT,tT,tT,tT,fF,fF,fF] rfl (Rd.NW rfl rfl) ?_;refine qr 7 #[tT,tT,tT,tT,tT,tT,tT,tT,fF,fF] rfl (Rd.Ah rfl) ?_;refine qa 8 ?_;refine qw #[tT,tT,tT,tT,tT,tT,tT,tT,tT,fF] rfl (aC.alloc (ad rfl)) ?_;rintro _ _ _ ⟨g3,rfl,rfl,rfl⟩;refine⟨⟨zX,zE⟩,cC.re zC ?_⟩;refine qa 9 ?_;refine iN.bj (aQ:=#[tT,tT,tT,tT,tT,tT,tT,tT,tT,tT]) rfl rfl Gd.free (by kernel_rfl) rfl (by kernel_rfl) (aC.st (ad rfl) rfl) ?_;rintro _ _ _ ⟨rfl,rfl,rfl⟩;refine cC.re zC ?_;refine cC.nil rfl ?_;refine DA.bE ⟨zK,g3,_,zM,?_,rfl,rfl⟩;exact zE
  ·refine qw #[tT,tT,tT,tT,tT,fF,fF,fF,tT,fF] rfl (aC.alloc (ad rfl)) ?_;rintro _ _ _ ⟨g3,rfl,rfl,rfl⟩;refine⟨⟨zX,zE⟩,cC.re zC ?_⟩;refine qa 5 ?_;refine qw #[tT,tT,tT,tT,tT,tT,fF,fF,tT,fF] rfl (aC.cE jt rfl) ?_;rintro _ _ _ ⟨_,⟨rfl,rfl,rfl⟩,rfl⟩;refine⟨⟨zX,zE⟩,cC.re zC ?_⟩;refine qp 6 #[tT,tT,tT,tT,tT,tT,tT,fF,tT,fF] rfl (Rd.NW rfl rfl) ?_;refine qr 7 #[tT,tT,tT,tT,tT,tT,tT,tT,tT,fF] rfl (Rd.Ah rfl) ?_;refine qa 9 ?_;refine iN.bj (aQ:=#[tT,tT,tT,tT,tT,tT,tT,tT,tT,tT]) rfl rfl Gd.free (by kernel_rfl) rfl (by kernel_rfl) (aC.st (ad rfl) rfl) ?_;rintro _ _ _ ⟨rfl,rfl,rfl⟩;refine cC.re zC ?_;refine cC.nil rfl ?_;refine DA.bE ⟨zK,g3,_,zM,?_,rfl,rfl⟩;exact zE
 rintro g3 δ _ _ ⟨rfl,rfl⟩;dsimp only[eb,List.foldl];refine b3 ?_;refine dJ ?_;refine bC ?_;(iterate 3 (refine bt ?_));refine aO ?_;(iterate 4 (refine bt ?_));refine bq ?_;refine zw rfl (aC.cE (G5 σ g mb sb db pb _ _ aX d s M1 hg) rfl) ?_;rintro _ dQ _ ⟨_,⟨d',s',rfl,q1,q2,q3,q4,rfl⟩,rfl⟩;refine az.cl ?_;refine a8 ?_;exact b8 rfl rfl ⟨d',s',rfl,q1,q2,q3,q4,rfl⟩
end
section
variable {C:List In} {inp:List Int}
structure ug (inp:List Int) (pc:Nat) (s:RS) (b:Be):Prop where
 next:b.m.next=pc
 stack:b.m.stack=[]
 outn:b.m.outn=s.out.length
 st:b.m.st=0
 cells:b.m.cells=s.cells
 out:b.out=s.out
 wrong:b.wrong=false
 inp:s.inp=inp.drop b.m.rd
def Ee (c:Int) (s:RS) (b:Be):Prop:=b.m.cells=s.cells∧b.out=s.out∧b.wrong=false∧Fin c s.left b
theorem oU {vs:List Va} {nv:Nat} {x:Ex} (hV:ra nv x) {pc:Nat} {b:Be} {s:RS} (hC:wS C pc (aA vs x)) (hn:b.m.next=pc) (h0:b.m.st=0) (hc:b.m.cells=s.cells) (ho:b.out=s.out) (hw:b.wrong=false):
 (∀v s',mE vs x s=.ok (v,s')→eX C inp s.left b s'.left (eg b (pc+(aA vs x).length) (v::b.m.stack))∧s'={s with left:=s'.left})∧
 (∀c s',mE vs x s=.error (c,s')→∃b',eX C inp s.left b s'.left b'∧Ee c s' b'):=by
 obtain⟨h1,h2⟩:=Ry (inp:=inp) vs x hV pc b s.left hC hn h0;rw[hc] at h1 h2;rw[mE]
 cases e:b4 vs s.cells x s.left with
 |error q=>
  obtain⟨c,k⟩:=q;refine⟨fun v s' h=>(by cases h),fun c' s' h=>?_⟩;cases h;obtain⟨b',g,a1,a2,a3,a4⟩:=h2 _ _ e;exact⟨b',g,a1.trans hc,a2.trans ho,a3.trans hw,a4⟩
 |ok q=>
  obtain⟨v,k⟩:=q;refine⟨fun v' s' h=>?_,fun c' s' h=>(by cases h)⟩;cases h;exact⟨h1 _ _ e,rfl⟩
theorem iU {f:Nat} {b b1:Be} {s1:RS} {x:In} (g:eX C inp f b s1.left b1) (h0:b1.m.st=0) (hx:C[b1.m.next]? =some x) (hc:b1.m.cells=s1.cells) (ho:b1.out=s1.out) (hw:b1.wrong=false):
 (∀s2,cx s1=.ok s2→eX C inp f b s2.left (aL inp false x (bump b1))∧s2={s1 with left:=s2.left})∧
 (∀c s2,cx s1=.error (c,s2)→∃b',eX C inp f b s2.left b'∧Ee c s2 b'):=by
 obtain⟨cells,i,o,left⟩:=s1
 cases left with
 |zero=>
  refine⟨fun s2 h=>(by cases h),fun c s2 h=>?_⟩;cases h;exact⟨b1,g,hc,ho,hw,.inl ⟨rfl,rfl,h0⟩⟩
 |succ left=>
  refine⟨fun s2 h=>?_,fun c s2 h=>?_⟩
  ·(have e:cx ⟨cells,i,o,left+1⟩=.ok ⟨cells,i,o,left⟩:=by simp[cx]);rw[e] at h;cases h;exact⟨g.trans (eX.step h0 hx),rfl⟩
  ·(have e:cx ⟨cells,i,o,left+1⟩=.ok ⟨cells,i,o,left⟩:=by simp[cx]);rw[e] at h;cases h
theorem Ha {vs:List Va} {nv:Nat} {x:Ex} (hV:ra nv x) {pc t:Nat} {b:Be} {s:RS} (hC:wS C pc (aA vs x++[⟨13,(t:Nat),0,0⟩])) (hR:ug inp pc s b):
 (∀v s',tM vs x s=.ok (v,s')→∃b',eX C inp s.left b s'.left b'∧ug inp (if v then pc+(aA vs x).length+1 else t) s' b')∧
 (∀c s',tM vs x s=.error (c,s')→∃b',eX C inp s.left b s'.left b'∧Ee c s' b'):=by
 obtain⟨h1,h2⟩:=oU (inp:=inp) hV hC.left hR.next hR.st hR.cells hR.out hR.wrong;rw[tM]
 cases e:mE vs x s with
 |error q=>
  refine⟨fun v s' h=>(by cases h),fun c' s' h=>?_⟩;cases h;exact h2 _ _ e
 |ok q=>
  obtain⟨n,s1⟩:=q;obtain⟨g1,e1⟩:=h1 _ _ e;simp only;obtain⟨k1,k2⟩:=iU g1 hR.st hC.right.one (by rw[e1];exact hR.cells) (by rw[e1];exact hR.out) hR.wrong
  cases e2:cx s1 with
  |error q=>
   refine⟨fun v s' h=>(by cases h),fun c' s' h=>?_⟩;cases h;exact k2 _ _ e2
  |ok s2=>
   obtain⟨g2,e3⟩:=k1 _ e2;refine⟨fun v s' h=>?_,fun c' s' h=>(by cases h)⟩;cases h;refine⟨_,g2,?_⟩;(have bT:s2={s with left:=s2.left}:=by rw[e1] at e3;exact e3);(have ho:s2.out=s.out:=by rw[bT]);(have hc:s2.cells=s.cells:=by rw[bT]);(have hi:s2.inp=s.inp:=by rw[bT]);by_cases hn:n=0
   ·subst hn;rw[if_neg (by decide)];have ed:aL inp false ⟨13,(t:Nat),0,0⟩ (bump (eg b (pc+(aA vs x).length) (0::b.m.stack)))=eg b t b.m.stack:=rfl;rw[ed];exact⟨rfl,hR.stack,by rw[ho];exact hR.outn,hR.st,by rw[hc];exact hR.cells,by rw[ho];exact hR.out,hR.wrong,by rw[hi];exact hR.inp⟩
   ·rw[if_pos (by simpa using hn)];have ed:aL inp false ⟨13,(t:Nat),0,0⟩ (bump (eg b (pc+(aA vs x).length) (n::b.m.stack)))=eg b (pc+(aA vs x).length+1) b.m.stack:=if_neg hn;rw[ed];exact⟨rfl,hR.stack,by rw[ho];exact hR.outn,hR.st,by rw[hc];exact hR.cells,by rw[ho];exact hR.out,hR.wrong,by rw[hi];exact hR.inp⟩
def OE (C:List In) (inp:List Int) (vs:List Va) (F:St→RS→Option RR) (x:St):Prop:=∀(pc:Nat) (b:Be) (s:RS) (r:RR),F x s=some r→wS C pc (bg vs x pc)→ug inp pc s b→
 (∀s',r=.ok s'→∃b',eX C inp s.left b s'.left b'∧ug inp (pc+(bg vs x pc).length) s' b')∧(∀c s',r=.error (c,s')→∃b',eX C inp s.left b s'.left b'∧Ee c s' b')
theorem lX {vs:List Va} {F:St→RS→Option RR}:∀(l:List St),(∀x∈l,OE C inp vs F x)→∀(pc:Nat) (b:Be) (s:RS) (r:RR),dI F l s=some r→wS C pc (aH vs l pc)→ug inp pc s b→
 (∀s',r=.ok s'→∃b',eX C inp s.left b s'.left b'∧ug inp (pc+(aH vs l pc).length) s' b')∧(∀c s',r=.error (c,s')→∃b',eX C inp s.left b s'.left b'∧Ee c s' b')
 |[],_,pc,b,s,r,h,_,hR=>by
  cases h;exact⟨fun s' e=>by cases e;exact⟨b,eX.refl _ _,hR⟩,fun c s' e=>(by cases e)⟩
 |x::l,hx,pc,b,s,r,h,hC,hR=>by
  rw[aH] at hC⊢;rw[dI] at h
  cases e:F x s with
  |none=>rw[e] at h;cases h
  |some q=>
   obtain⟨k1,k2⟩:=hx x (by simp) pc b s q e hC.left hR;rw[e] at h
   cases q with
   |error q=>
    cases h;refine⟨fun s' e=>(by cases e),fun c s' e=>?_⟩;exact k2 c s' e
   |ok s1=>
    obtain⟨b1,g1,R1⟩:=k1 s1 rfl;obtain⟨j1,j2⟩:=lX l (fun y hy=>hx y (by simp[hy])) (pc+(bg vs x pc).length) b1 s1 r h hC.right R1;refine⟨fun s' e=>?_,fun c s' e=>?_⟩
    ·obtain⟨b',g,R⟩:=j1 s' e;exact⟨b',g1.trans g,by rw[List.length_append,←Nat.add_assoc];exact R⟩
    ·obtain⟨b',g,R⟩:=j2 c s' e;exact⟨b',g1.trans g,R⟩
end
end Go.Proofs.YtgeoiflbjcehcaaGreatDoor
