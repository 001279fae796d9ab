/- The law RenderBack holds: what was printed is read as the program that it was, and printed again the same text. Condition: the given card's own, that the variables of the library that it lists hold what it lays. -/
import Derived.Test.YthefnnkmpcgcmaaDoorWbk1
import Derived.Test.YthefnnkmpcgcmaaDoorWbk2
import Derived.Test.YthefnnkmpcgcmaaDoorWbk3
import Derived.Shelf.LaysM
import Derived.Shelf.LaysC
import Derived.Shelf.Strconv.Itoa4
import Derived.Shelf.Strconv.ParseIntPublic10
import Derived.Test.YthefnnkmpcgcmaaDoorProg
import Derived.Test.YthefnnkmpcgcmaaDoorRows
import Derived.LaidLaws
import Derived.Stop.LaidErr
import Derived.RowKit3
import Derived.RowKitTokens
import Derived.ChangeMaps5
import Derived.Handed
import Derived.SizedLaws
import Derived.Test.YthefnnkmpcgcmaaDoorCards
import Derived.Test.YthefnnkmpcgcmaaDoorTie
namespace Go.Proofs.YthefnnkmpcgcmaaDoor
open Go X
set_option maxHeartbeats 4000000
abbrev Wri (b : Nat) (v : Value) (acc : ByteArray) : HP := Bld 65 b [v] acc
theorem wri_lies : liesAt Tryd.prog Tryd.prog.depth 65 (([Value.slice none 0 0].length + 2) / Tryd.prog.cellsOf 65) 0 63 1 = true := by kernel_rfl
def catL : List ByteArray → ByteArray
  | [] => ByteArray.empty
  | a :: r => a ++ catL r
theorem catL_app : ∀ a b : List ByteArray, catL (a ++ b) = catL a ++ catL b
  | [], b => by rw [List.nil_append, catL, ByteArray.empty_append]
  | x :: r, b => by rw [List.cons_append, catL, catL, catL_app r b, ByteArray.append_assoc]
theorem catL_snoc {l : List ByteArray} {k : Nat} {s : ByteArray} (h : l[k]? = some s) : catL (l.take (k + 1)) = catL (l.take k) ++ s := by
  rw [List.take_add_one, h, Option.toList_some, catL_app, catL, catL, ByteArray.append_empty]
theorem catL_cut {l : List ByteArray} {k : Nat} {s : ByteArray} (h : l[k]? = some s) : (catL (l.take k)).size + s.size ≤ (catL l).size := by
  have e1 : catL l = catL (l.take (k + 1)) ++ catL (l.drop (k + 1)) := by rw [← catL_app, List.take_append_drop]
  rw [e1, catL_snoc h, ByteArray.size_append, ByteArray.size_append]; omega
theorem put_w (σ : PH) (b : Nat) (v : Value) (acc : ByteArray) (l : List ByteArray) (g c : Nat) (hb : acc.size + (catL l).size ≤ 1000000000) (hn : l.length ≤ 1000) :
    CallsA Tryd.prog 26 #[ptr b, .slice (some ⟨g, 0, none⟩) l.length c] σ [Wri b v acc, blk g (l.map Value.string) 9] (RetA fun r σ' Γ' => r = .tuple #[] ∧ σ = σ' ∧ Γ' = [Wri b v (acc ++ catL l)]) := by
  have hw := fun (a s : ByteArray) (h : a.size + s.size ≤ 1000000000) => write_b σ 65 b [v] a s h wri_lies
  refine enterA2 Tryd.func26 rfl rfl rfl ?_
  refine zS (zR (zA rfl ?_)); refine zO rfl (Rd.lenSlice (tyrow rfl) rfl rfl) ?_; refine zA rfl ?_; refine zN (zT (XA.block ?_))
  refine XA.gen [(0, _), (6, _), (7, _), (8, _)] ⟨(by with_reducible (conv => lhs; whnf)), (by with_reducible (conv => lhs; whnf)), (by with_reducible (conv => lhs; whnf)), (by with_reducible (conv => lhs; whnf)), trivial⟩ (fun δ => ?_)
  dsimp only [List.foldl]
  refine XA.loop [(5, 5), (8, 17)] (fun k : Nat => [(8, i64 k)]) (fun k σ' Γ' => σ = σ' ∧ k ≤ l.length ∧ Γ' = [Wri b v (acc ++ catL (l.take k)), blk g (l.map Value.string) 9]) (fun k => l.length - k) 0 (by exact ⟨rfl, trivial⟩) (Δ0 := _) ?_ (⟨rfl, Nat.zero_le _, by rw [List.take_zero, catL, ByteArray.append_empty]⟩) ?_
  · exact zE
  rintro k δ _ _ ⟨rfl, hk, rfl⟩
  dsimp only [ovr, List.foldl]
  have hk : k ≤ l.length := hk
  by_cases hlt : k < l.length
  · obtain ⟨s, hs⟩ : ∃ s, l[k]? = some s := ⟨l[k], by simp [hlt]⟩
    have hrow : (l.map Value.string)[k]? = some (.string s) := by rw [List.getElem?_map, hs]; rfl
    have hcut := catL_cut hs
    have hsn := catL_snoc hs
    have hbb : (acc ++ catL (l.take k)).size + s.size ≤ 1000000000 := by rw [ByteArray.size_append]; omega
    refine zS (zR (zO rfl (Rd.lss rfl rfl) ?_)); refine zN (zT (zS (XA.condT rfl (by first | rfl | exact decide_eq_true (by omega)) ?_))); refine XA.skip (zT (zS (XA.block (zS (zR (zO rfl (Rd.ixS rfl rfl) ?_)))))); refine zB rfl rfl (tyrow rfl) rfl ?_; refine zO rfl Rd.asg ?_
    refine zN (zT (zR (zA rfl ?_))); refine zO rfl (Rd.nilCheck rfl) ?_; refine zV rfl rfl ?_; refine zA rfl ?_
    refine XOA.wr0 rfl (WrA.cE (hw (acc ++ catL (l.take k)) s hbb) rfl) ?_
    rintro _ _ _ ⟨_, ⟨rfl, rfl, rfl⟩, rfl⟩
    refine XOA.cl ?_
    rw [ByteArray.append_assoc, ← hsn]
    refine zN (DA.inb_normal (zT (zR (zO rfl zI ?_)))); refine zA rfl ?_; refine zN (zT ?_)
    refine ⟨(Keep.upd (Keep.upd (Keep.updO (Keep.upd (Keep.upd (Keep.upd (Keep.upd (Keep.upd (Keep.upd (Keep.upd (Keep.upd (Keep.upd (Keep.hav (Keep.hav (Keep.refl _ _) rfl) rfl) rfl) rfl) rfl) rfl) rfl) rfl) rfl) rfl) rfl) rfl) rfl) rfl), k + 1, _, zM, ?_, ⟨rfl, hlt, rfl⟩, (by omega)⟩
    · exact zE
  · have e : l.take k = l := List.take_of_length_le (by omega)
    rw [e]
    refine zS (zR (zO rfl (Rd.lss rfl rfl) ?_)); refine zN (zT (zS (XA.condF rfl (by first | rfl | exact decide_eq_false (by omega)) ?_))); refine XA.exit (DA.thn_exit (DA.thn_exit (DA.inb_same ?_)))
    exact bodyA.normal (ResA.none rfl) zE ⟨rfl, rfl, rfl⟩
theorem X.CallsA.pre {P : Program} {f : FuncId} {vs : Array Value} {σ : PH} {Γ Γ0 : List HP} {R : Ending → PH → List HP → Prop} (he : Ent Γ Γ0) (hc : CallsA P f vs σ Γ0 R) : CallsA P f vs σ Γ R := ⟨hc.1, fun fr h hh => hc.2 fr h (hh.ent he)⟩
section
variable (σ : PH) (b : Nat) (v : Value) (acc : ByteArray) (g c : Nat)
theorem put1 (s : ByteArray) (hb : acc.size + s.size ≤ 1000000000) : CallsA Tryd.prog 26 #[ptr b, .slice (some ⟨g, 0, none⟩) 1 c] σ [Wri b v acc, blk g [.string s] 9] (RetA fun r σ' Γ' => r = .tuple #[] ∧ σ = σ' ∧ Γ' = [Wri b v (acc ++ s)]) := by
  have e : catL [s] = s := by rw [catL, catL, ByteArray.append_empty]
  have := put_w σ b v acc [s] g c (by rw [e]; exact hb) (by simp)
  rwa [e] at this
theorem put2 (s t : ByteArray) (hb : acc.size + (s.size + t.size) ≤ 1000000000) : CallsA Tryd.prog 26 #[ptr b, .slice (some ⟨g, 0, none⟩) 2 c] σ [Wri b v acc, blk g [.string s, .string t] 9] (RetA fun r σ' Γ' => r = .tuple #[] ∧ σ = σ' ∧ Γ' = [Wri b v (acc ++ (s ++ t))]) := by
  have e : catL [s, t] = s ++ t := by rw [catL, catL, catL, ByteArray.append_empty]
  have := put_w σ b v acc [s, t] g c (by rw [e, ByteArray.size_append]; exact hb) (by simp)
  rwa [e] at this
theorem put2o (u : Bool) (p : Option Addr) (d : Nat) (hz : acc.size = 0 → p = none ∧ d = 0) (s t : ByteArray) (hb : acc.size + (s.size + t.size) ≤ 1000000000) : CallsA Tryd.prog 26 #[ptr b, .slice (some ⟨g, 0, none⟩) 2 c] σ [blk b [nptr u b, .slice p acc.size d, v] 65, lst 5 1 (.slice p acc.size d) acc.size (Lib.strCells acc), blk g [.string s, .string t] 9] (RetA fun r σ' Γ' => r = .tuple #[] ∧ σ = σ' ∧ Γ' = [Wri b v (acc ++ (s ++ t))]) :=
  CallsA.pre (Ent.fold (Θ := [blk b [nptr u b, .slice p acc.size d, v] 65, lst 5 1 (.slice p acc.size d) acc.size (Lib.strCells acc)]) (Ent.refl _) (fun m hm => ⟨u, p, d, hz, hm⟩) (Ent.refl _)) (put2 σ b v acc g c s t hb)
end
theorem exsT_snoc (vl : List Va) {l : List Ex} {k : Nat} {x : Ex} (h : l[k]? = some x) : exsT vl (l.take (k + 1)) = exsT vl (l.take k) ++ (sp1 ++ exT vl x) := by
  rw [List.take_add_one, h, Option.toList_some, exsT_app, exsT, exsT, ByteArray.append_empty]
theorem exsT_cut (vl : List Va) {l : List Ex} {k : Nat} {x : Ex} (h : l[k]? = some x) : (exsT vl (l.take k)).size + (1 + (exT vl x).size) ≤ (exsT vl l).size := by
  have e1 : exsT vl l = exsT vl (l.take (k + 1)) ++ exsT vl (l.drop (k + 1)) := by rw [← exsT_app, List.take_append_drop]
  have e2 : sp1.size = 1 := rfl
  rw [e1, exsT_snoc vl h]; simp only [ByteArray.size_append]; omega
def PExOK (x : Ex) : Prop := ∀ (σ : PH) (cs : List Value) (b : Nat) (pv : Option Addr) (cv : Nat) (vl : List Va) (acc : ByteArray), ExAt σ cs x → PSl 2 rVa σ (.slice pv vl.length cv) vl → ExV vl.length x → Tab σ → acc.size + (exT vl x).size ≤ 1000000 →
  CallsA Tryd.prog 52 #[ptr b, .agg cs.toArray] σ [Wri b (.slice pv vl.length cv) acc] (RetA fun r σ' Γ' => r = .tuple #[] ∧ σ = σ' ∧ Γ' = [Wri b (.slice pv vl.length cv) (acc ++ exT vl x)])
theorem nameAt_get {vl : List Va} {k : Nat} {w : Va} (h : vl[k]? = some w) : nameAt vl (k : Int) = w.name := by rw [nameAt, Int.toNat_natCast, h]; rfl
theorem pexpr_w (x : Ex) : PExOK x := by
  refine Ex.ind (P := PExOK) ?_ x
  intro op v n l ih σ cs b pv cv vl acc hx hv hok hT hb
  obtain ⟨p, c, rfl, ho, hvv, hn, hl⟩ := hx.inv
  simp only [Ex.op, Ex.v, Ex.n, Ex.l] at hl ho hvv hn ⊢
  clear hx
  rw [ExV] at hok
  obtain ⟨h8, hparts, hvar, -, hsubs⟩ := hok
  have hlen : l.length ≤ maxLen := by
    obtain ⟨q, d, e1, h1, h2⟩ := hl.shape
    omega
  simp only [maxLen] at hlen
  have hlp : lpar.size = 1 := rfl
  have hrp : rpar.size = 1 := rfl
  have hs1 : sp1.size = 1 := rfl
  have hE : exT vl (.mk op v n l) = lpar ++ (wordOf op ++ (headT vl op v n ++ (exsT vl l ++ rpar))) := by rw [exT]
  rw [hE] at hb ⊢
  simp only [ByteArray.size_append] at hb
  obtain ⟨hd, hhd⟩ : ∃ hd, headT vl op v n = hd := ⟨_, rfl⟩
  rw [hhd] at hb ⊢
  refine enterA2 Tryd.func52 rfl rfl rfl ?_
  refine zS (zR ?_)
  refine XOA.wr0 rfl WrA.bx ?_
  rintro _ _ _ ⟨g3, rfl, rfl, rfl⟩
  refine zN (zT (zS (zR (zA rfl ?_)))); refine zV rfl rfl ?_; refine zB rfl rfl (tyrow rfl) rfl ?_
  refine XOA.wr0 rfl (WrA.cE (word_p σ op) rfl) ?_
  rintro _ _ _ ⟨_, ⟨rfl, rfl, rfl⟩, rfl⟩
  refine XOA.cl ?_
  refine XOA.wr0 rfl (WrA.bs (fun _ _ => tyrow) rfl rfl rfl rfl rfl) ?_
  rintro _ _ _ ⟨g10, rfl, rfl, rfl⟩
  refine XOA.wr0 rfl (WrA.cE (put2 σ b _ acc g10 2 lpar (wordOf op) (by omega)) rfl) ?_
  rintro _ _ _ ⟨_, ⟨rfl, rfl, rfl⟩, rfl⟩
  refine XOA.cl ?_; refine zN (zT (zS (zS (zR (zV rfl rfl ?_))))); refine zB rfl rfl (tyrow rfl) rfl ?_; refine zN (zT ?_)
  refine XA.join [(14, 36)] (fun _ : Unit => []) (fun _ σ' Γ' => σ = σ' ∧ Γ' = [Wri b (.slice pv vl.length cv) (acc ++ (lpar ++ (wordOf op ++ hd))), blk g3 [i64 op, i64 v, i64 n, .slice p l.length c] 54]) ?_ ?_
  · refine XA.block ?_
    refine zS (zR (zO rfl (Rd.eql rfl rfl) ?_)); refine zO rfl Rd.asg ?_; refine zN (zT ?_)
    refine XA.condp rfl (fun h1 => ?_) (fun h1 => ?_)
    · have e1 : hd = sp1 ++ itoaS n := by rw [← hhd, headT, if_pos h1]
      have e2 : acc ++ (lpar ++ wordOf op) ++ (sp1 ++ itoaS n) = acc ++ (lpar ++ (wordOf op ++ hd)) := by rw [e1]; simp only [ByteArray.append_assoc]
      have hb2 : (acc ++ (lpar ++ wordOf op)).size + (sp1.size + (itoaS n).size) ≤ 1000000000 := by rw [e1, ByteArray.size_append] at hb; simp only [ByteArray.size_append]; omega
      refine zR (zA rfl ?_); refine zV rfl rfl ?_; refine zB rfl rfl (tyrow rfl) rfl ?_
      refine XOA.wr0 rfl (WrA.cE (itoa_a σ n hn.1 hn.2 hT) rfl) ?_
      rintro _ _ _ ⟨_, ⟨rfl, rfl, rfl⟩, rfl⟩
      refine XOA.cl ?_
      refine XOA.wr0 rfl (WrA.bs (fun _ _ => tyrow) rfl rfl rfl rfl rfl) ?_
      rintro _ _ _ ⟨g20, rfl, rfl, rfl⟩
      refine XOA.wr0 rfl (WrA.cE (put2 σ b _ (acc ++ (lpar ++ wordOf op)) g20 2 sp1 (itoaS n) hb2) rfl) ?_
      rintro _ _ _ ⟨_, ⟨rfl, rfl, rfl⟩, rfl⟩
      refine XOA.cl ?_; refine zN (DA.inb_normal (zT ?_))
      refine ⟨(Keep.updO (Keep.updO (Keep.updO (Keep.upd (Keep.upd (Keep.upd (Keep.upd (Keep.upd (Keep.refl _ _) rfl) rfl) rfl) rfl) rfl) rfl) rfl) rfl), (), _, zM, ?_, ⟨rfl, rfl⟩⟩
      · rw [e2]; exact zE
    · refine zS ?_
      refine zS (zR (zO rfl (Rd.eql rfl rfl) ?_)); refine zO rfl Rd.asg ?_; refine zN (zT ?_)
      by_cases h2 : op = 2 ∨ op = 3
      · obtain ⟨hv0, hv1⟩ := hvar h2
        obtain ⟨k, rfl⟩ : ∃ k : Nat, v = k := ⟨v.toNat, by omega⟩
        have hkl : k < vl.length := by omega
        obtain ⟨w, hw⟩ : ∃ w, vl[k]? = some w := ⟨vl[k], by simp [hkl]⟩
        obtain ⟨gg, o, row, rfl, ⟨rfl, -, -⟩, -, hrow⟩ := hv.at hw
        have a0 : PRow σ gg (o + k * 2) [.string w.name] := hrow.sub (j := 0) rfl
        have e1 : hd = sp1 ++ w.name := by rw [← hhd, headT, if_neg h1, if_pos h2, nameAt_get hw]
        have e2 : acc ++ (lpar ++ wordOf op) ++ (sp1 ++ w.name) = acc ++ (lpar ++ (wordOf op ++ hd)) := by rw [e1]; simp only [ByteArray.append_assoc]
        have hb2 : (acc ++ (lpar ++ wordOf op)).size + (sp1.size + w.name.size) ≤ 1000000000 := by rw [e1, ByteArray.size_append] at hb; simp only [ByteArray.size_append]; omega
        have hlt : (0 : Int) ≤ k ∧ (k : Int) < (vl.length : Nat) := ⟨by omega, by omega⟩
        refine XA.join [(22, 22), (24, 24)] (fun _ : Unit => [(22, .bool true)]) (fun _ σ' Γ' => σ = σ' ∧ Γ' = [Wri b (.slice (some ⟨gg, o, none⟩) vl.length cv) (acc ++ (lpar ++ wordOf op)), blk g3 [i64 op, i64 k, i64 n, .slice p l.length c] 54]) ?_ ?_
        · skip
          rcases h2 with rfl | rfl
          · refine XA.condT rfl rfl ?_
            refine XA.skip (zT ?_)
            refine ⟨(Keep.refl _ _), (), _, zM, ?_, ⟨rfl, rfl⟩⟩
            · exact zE
          · skip
            refine XA.condF rfl rfl (zR (zO rfl (Rd.eql rfl rfl) ?_)); refine zO rfl Rd.asg ?_; refine zN (zT ?_)
            refine ⟨(Keep.upd (Keep.upd (Keep.refl _ _) rfl) rfl), (), _, zM, ?_, ⟨rfl, rfl⟩⟩
            · exact zE
        rintro _ δ _ _ ⟨rfl, rfl⟩
        dsimp only [ovr, List.foldl]
        refine zT (XA.condT rfl rfl ?_)
        first | refine XA.opn (R := Wri b _ _) zL (Bld.o) ?_ | refine XOA.opn (R := Wri b _ _) zL (Bld.o) ?_ | refine DA.opn (R := Wri b _ _) zL (Bld.o) ?_
        rintro ⟨u, pz, cz⟩ hz
        first | refine XA.cl ?_ | refine XOA.cl ?_ | refine DA.cl ?_
        simp only at hz
        refine XA.draw (by kernel_rfl) _ _ [10, 11] [(0, .pu), (1, .pu), (2, .pu), (3, .pu), (4, .rd), (5, .pu), (6, .rd), (7, .pu), (8, .pu), (9, .rd), (10, .wr), (11, .wr)] (by kernel_rfl) (PH.sub.refl _) (Ent.sel (R := blk b _ _) zL (Ent.sel (R := blk g3 _ _) zL (Ent.nil _))) ?_
        refine XPA.pu rfl rfl Gd.free Rd.mv ?_; refine XPA.pu rfl rfl Gd.free Rd.mv ?_; refine XPA.pu rfl rfl Gd.free (Rd.nilCheck rfl) ?_; refine XPA.pu rfl rfl Gd.free (Rd.fA rfl) ?_; refine XPA.rd rfl rfl Gd.free (Rd.ldC rfl (tyrow rfl) rfl) ?_; refine XPA.pu rfl rfl Gd.free (Rd.fA rfl) ?_
        refine XPA.rd rfl rfl Gd.free (Rd.ldC rfl (tyrow rfl) rfl) ?_; refine XPA.pu rfl rfl Gd.free (Rd.ixS rfl rfl) ?_; refine XPA.pu rfl rfl Gd.free (Rd.fA rfl) ?_; refine XPA.rd rfl rfl Gd.free (Rd.ldC rfl (tyrow rfl) rfl) ?_
        refine XPA.wrZ0 rfl rfl Gd.free (by kernel_rfl) (WrA.bs (fun _ _ => tyrow) rfl rfl rfl rfl rfl) ?_
        rintro _ _ _ ⟨g35, rfl, rfl, rfl⟩
        refine XPA.wrZ0 rfl rfl Gd.free (by kernel_rfl) (WrA.cE (put2o σ b _ (acc ++ (lpar ++ wordOf op)) g35 2 u pz cz hz sp1 w.name hb2) rfl) ?_
        rintro _ _ _ ⟨_, ⟨rfl, rfl, rfl⟩, rfl⟩
        refine XPA.cl ?_; refine XPA.nil ?_; refine DA.inb_normal (zT ?_)
        refine ⟨(Keep.updO (Keep.updO (Keep.upd (Keep.upd (Keep.upd (Keep.upd (Keep.upd (Keep.upd (Keep.upd (Keep.upd (Keep.upd (Keep.upd (Keep.upd (Keep.hav (Keep.hav (Keep.upd (Keep.upd (Keep.upd (Keep.upd (Keep.refl _ _) rfl) rfl) rfl) rfl) rfl) rfl) rfl) rfl) rfl) rfl) rfl) rfl) rfl) rfl) rfl) rfl) rfl) rfl) rfl), (), _, zM, ?_, ⟨rfl, rfl⟩⟩
        · rw [e2]; exact zE
      · have e1 : hd = ByteArray.empty := by rw [← hhd, headT, if_neg h1, if_neg h2]
        have e2 : acc ++ (lpar ++ wordOf op) = acc ++ (lpar ++ (wordOf op ++ hd)) := by rw [e1, ByteArray.append_empty]
        have h3 : ¬ op = 2 := fun h => h2 (.inl h)
        have h4 : ¬ op = 3 := fun h => h2 (.inr h)
        refine XA.condF rfl (by first | rfl | exact decide_eq_false h3) ?_; refine zR (zO rfl (Rd.eql rfl rfl) ?_); refine zO rfl Rd.asg ?_; refine zN (zT (XA.condF rfl (by first | rfl | exact decide_eq_false h4) ?_)); refine XA.skip (DA.inb_normal (zT ?_))
        refine ⟨(Keep.upd (Keep.upd (Keep.upd (Keep.upd (Keep.upd (Keep.upd (Keep.refl _ _) rfl) rfl) rfl) rfl) rfl) rfl), (), _, zM, ?_, ⟨rfl, rfl⟩⟩
        · rw [e2]; exact zE
  rintro _ δ _ _ ⟨rfl, rfl⟩
  dsimp only [ovr, List.foldl]
  refine zT (zS (zS (zR (zV rfl rfl ?_)))); refine zB rfl rfl (tyrow rfl) rfl ?_; refine zO rfl (Rd.lenSlice (tyrow rfl) rfl rfl) ?_; refine zA rfl ?_; refine zN (zT (XA.block ?_))
  refine XA.gen [(0, _), (38, _), (39, _), (40, _)] ⟨(by with_reducible (conv => lhs; whnf)), (by with_reducible (conv => lhs; whnf)), (by with_reducible (conv => lhs; whnf)), (by with_reducible (conv => lhs; whnf)), trivial⟩ (fun δ => ?_)
  dsimp only [List.foldl]
  refine XA.loop [(5, 5), (40, 50)] (fun k : Nat => [(40, i64 k)]) (fun k σ' Γ' => σ = σ' ∧ k ≤ l.length ∧ Γ' = [Wri b (.slice pv vl.length cv) (acc ++ (lpar ++ (wordOf op ++ (hd ++ exsT vl (l.take k)))))]) (fun k => l.length - k) 0 (by exact ⟨rfl, trivial⟩) (Δ0 := _) ?_ (⟨rfl, Nat.zero_le _, by rw [List.take_zero, exsT, ByteArray.append_empty]⟩) ?_
  · exact zE
  rintro k δ _ _ ⟨rfl, hk, rfl⟩
  dsimp only [ovr, List.foldl]
  have hk : k ≤ l.length := hk
  by_cases hlt : k < l.length
  · obtain ⟨x', hx'⟩ : ∃ x', l[k]? = some x' := ⟨_, List.getElem?_eq_getElem hlt⟩
    obtain ⟨g, o, row, rfl, hrx, hrl, hrow⟩ := hl.at hx'
    have hone := hrx.ones
    have hcut := exsT_cut vl hx'
    have hsn := exsT_snoc vl hx'
    have hbb : (acc ++ (lpar ++ (wordOf op ++ (hd ++ exsT vl (l.take k))))).size + sp1.size ≤ 1000000000 := by simp only [ByteArray.size_append]; omega
    have hbc : (acc ++ (lpar ++ (wordOf op ++ (hd ++ exsT vl (l.take k)))) ++ sp1).size + (exT vl x').size ≤ 1000000 := by simp only [ByteArray.size_append]; omega
    have e3 : acc ++ (lpar ++ (wordOf op ++ (hd ++ exsT vl (l.take k)))) ++ sp1 ++ exT vl x' = acc ++ (lpar ++ (wordOf op ++ (hd ++ exsT vl (l.take (k + 1))))) := by rw [hsn]; simp only [ByteArray.append_assoc]
    have hm := List.mem_of_getElem? hx'
    have hrec := ih x' hm σ row b pv cv vl (acc ++ (lpar ++ (wordOf op ++ (hd ++ exsT vl (l.take k)))) ++ sp1) hrx hv (hsubs.mem x' hm) hT hbc
    rw [e3] at hrec
    refine zS (zR (zO rfl (Rd.lss rfl rfl) ?_)); refine zN (zT (zS (XA.condT rfl (by first | rfl | exact decide_eq_true (by omega)) ?_))); refine XA.skip (zT (zS (XA.block (zS (zR (zO rfl (Rd.ixS rfl rfl) ?_)))))); refine zO rfl (Rd.ldA rfl) ?_
    refine XOA.wr0 rfl (WrA.alloc (tyrow rfl)) ?_
    rintro _ _ _ ⟨g5, rfl, rfl, rfl⟩
    refine XOA.wr0 rfl (WrA.st (tyrow rfl) rfl) ?_
    rintro _ _ _ ⟨rfl, rfl, rfl⟩
    refine zN (zT (zS (zR (zA rfl ?_))))
    refine XOA.wr0 rfl (WrA.bs1 (tyrow rfl) rfl (tyrow rfl)) ?_
    rintro _ _ _ ⟨g45, rfl, rfl, rfl⟩
    refine XOA.wr0 rfl (WrA.cE (put1 σ b _ (acc ++ (lpar ++ (wordOf op ++ (hd ++ exsT vl (l.take k))))) g45 1 sp1 hbb) rfl) ?_
    rintro _ _ _ ⟨_, ⟨rfl, rfl, rfl⟩, rfl⟩
    refine XOA.cl ?_; refine zN (zT (zR (zA rfl ?_))); refine zO rfl (Rd.ldA rfl) ?_
    refine XOA.wr0 rfl (WrA.cE (hrec) rfl) ?_
    rintro _ _ _ ⟨_, ⟨rfl, rfl, rfl⟩, rfl⟩
    refine XOA.cl ?_; refine zN (DA.inb_normal (zT (zR (zO rfl zI ?_)))); refine zA rfl ?_; refine zN (zT ?_)
    refine ⟨(Keep.upd (Keep.upd (Keep.updO (Keep.upd (Keep.upd (Keep.updO (Keep.updO (Keep.upd (Keep.updN (Keep.updO (Keep.upd (Keep.upd (Keep.upd (Keep.upd (Keep.hav (Keep.hav (Keep.refl _ _) rfl) rfl) rfl) rfl) rfl) rfl) rfl)) rfl) rfl) rfl) rfl) rfl) rfl) rfl) rfl), k + 1, _, zM, ?_, ⟨rfl, hlt, rfl⟩, (by omega)⟩
    · exact zE
  · have e : l.take k = l := List.take_of_length_le (by omega)
    rw [e]
    have hbb : (acc ++ (lpar ++ (wordOf op ++ (hd ++ exsT vl l)))).size + rpar.size ≤ 1000000000 := by simp only [ByteArray.size_append]; omega
    have e3 : acc ++ (lpar ++ (wordOf op ++ (hd ++ exsT vl l))) ++ rpar = acc ++ (lpar ++ (wordOf op ++ (hd ++ (exsT vl l ++ rpar)))) := by simp only [ByteArray.append_assoc]
    refine zS (zR (zO rfl (Rd.lss rfl rfl) ?_)); refine zN (zT (zS (XA.condF rfl (by first | rfl | exact decide_eq_false (by omega)) ?_))); refine XA.exit (DA.thn_exit (DA.thn_exit (DA.inb_same (zT (zR (zA rfl ?_))))))
    refine XOA.wr0 rfl (WrA.bs1 (tyrow rfl) rfl (tyrow rfl)) ?_
    rintro _ _ _ ⟨g52, rfl, rfl, rfl⟩
    refine XOA.wr0 rfl (WrA.cE (put1 σ b _ (acc ++ (lpar ++ (wordOf op ++ (hd ++ exsT vl l)))) g52 1 rpar hbb) rfl) ?_
    rintro _ _ _ ⟨_, ⟨rfl, rfl, rfl⟩, rfl⟩
    refine XOA.cl ?_
    rw [e3]
    refine zN ?_
    exact bodyA.normal (ResA.none rfl) zE ⟨rfl, rfl, rfl⟩
end Go.Proofs.YthefnnkmpcgcmaaDoor

namespace Go.Proofs.YthefnnkmpcgcmaaDoor
open Go X
set_option maxHeartbeats 4000000
theorem stsT_app (vl : List Va) (m : List St) : ∀ (l : List St) (b : Bool), stsT vl b (l ++ m) = stsT vl b l ++ stsT vl (b || decide (0 < l.length)) m
  | [], b => by rw [List.nil_append, stsT, ByteArray.empty_append]; simp
  | y :: r, b => by rw [List.cons_append, stsT, stsT, stsT_app vl m r true]; simp [ByteArray.append_assoc]
theorem stsT_step (vl : List Va) {l : List St} {k : Nat} {x : St} (h : l[k]? = some x) : stsT vl false (l.take (k + 1)) = stsT vl false (l.take k) ++ (optT (decide (0 < k)) sp1 ++ stT vl x) := by
  have hk := (List.getElem?_eq_some_iff.1 h).1
  have e : (l.take k).length = k := by rw [List.length_take]; omega
  rw [List.take_add_one, h, Option.toList_some, stsT_snoc, e, Bool.false_or]
theorem stsT_cut (vl : List Va) {l : List St} {k : Nat} {x : St} (h : l[k]? = some x) : (stsT vl false (l.take k)).size + ((optT (decide (0 < k)) sp1).size + (stT vl x).size) ≤ (stsT vl false l).size := by
  have e1 : stsT vl false l = stsT vl false (l.take (k + 1)) ++ stsT vl (false || decide (0 < (l.take (k + 1)).length)) (l.drop (k + 1)) := by rw [← stsT_app, List.take_append_drop]
  rw [e1, stsT_step vl h]; simp only [ByteArray.size_append]; omega
def PStOK (x : St) : Prop := ∀ (σ : PH) (cs : List Value) (b : Nat) (pv : Option Addr) (cv : Nat) (vl : List Va) (acc : ByteArray), StAt σ cs x → PSl 2 rVa σ (.slice pv vl.length cv) vl → StV vl.length x → Tab σ → acc.size + (stT vl x).size ≤ 1000000 →
  CallsA Tryd.prog 28 #[ptr b, .agg cs.toArray] σ [Wri b (.slice pv vl.length cv) acc] (RetA fun r σ' Γ' => r = .tuple #[] ∧ σ = σ' ∧ Γ' = [Wri b (.slice pv vl.length cv) (acc ++ stT vl x)])
def PListOK (l : List St) : Prop := ∀ (σ : PH) (p : Option Addr) (c : Nat) (b : Nat) (pv : Option Addr) (cv : Nat) (vl : List Va) (acc : ByteArray), PSl 12 StAt σ (.slice p l.length c) l → PSl 2 rVa σ (.slice pv vl.length cv) vl → StsV vl.length l → Tab σ → acc.size + (3 + (stsT vl false l).size) ≤ 1000000 →
  CallsA Tryd.prog 53 #[ptr b, .slice p l.length c] σ [Wri b (.slice pv vl.length cv) acc] (RetA fun r σ' Γ' => r = .tuple #[] ∧ σ = σ' ∧ Γ' = [Wri b (.slice pv vl.length cv) (acc ++ (sp1 ++ (lpar ++ (stsT vl false l ++ rpar))))])
theorem plist_w (l : List St) (ih : ∀ x ∈ l, PStOK x) : PListOK l := by
  intro σ p c b pv cv vl acc hl hv hok hT hb
  have hlen : l.length ≤ maxLen := by
    obtain ⟨q, d, e1, h1, h2⟩ := hl.shape
    omega
  simp only [maxLen] at hlen
  have e0 : (⟨#[32, 40]⟩ : ByteArray) = sp1 ++ lpar := by decide
  have z0 : (⟨#[32, 40]⟩ : ByteArray).size = 2 := rfl
  have z1 : (sp1 ++ lpar).size = 2 := rfl
  have hrp : rpar.size = 1 := rfl
  have hs1 : sp1.size = 1 := rfl
  have hput := fun g => put1 σ b (.slice pv vl.length cv) acc g 1 ⟨#[32, 40]⟩ (by omega)
  rw [e0] at hput
  refine enterA2 Tryd.func53 rfl rfl rfl ?_
  refine zS (zR (zA rfl ?_))
  refine XOA.wr0 rfl (WrA.bs1 (tyrow rfl) rfl (tyrow rfl)) ?_
  rintro _ _ _ ⟨g7, rfl, rfl, rfl⟩
  rw [e0]
  refine XOA.wr0 rfl (WrA.cE (hput g7) rfl) ?_
  rintro _ _ _ ⟨_, ⟨rfl, rfl, rfl⟩, rfl⟩
  refine XOA.cl ?_; refine zN (zT (zS (zS (zR (zA rfl ?_))))); refine zO rfl (Rd.lenSlice (tyrow rfl) rfl rfl) ?_; refine zA rfl ?_; refine zN (zT (XA.block ?_))
  refine XA.gen [(0, _), (9, _), (10, _), (11, _)] ⟨(by with_reducible (conv => lhs; whnf)), (by with_reducible (conv => lhs; whnf)), (by with_reducible (conv => lhs; whnf)), (by with_reducible (conv => lhs; whnf)), trivial⟩ (fun δ => ?_)
  dsimp only [List.foldl]
  refine XA.loop [(4, 5), (11, 24)] (fun k : Nat => [(11, i64 k)]) (fun k σ' Γ' => σ = σ' ∧ k ≤ l.length ∧ Γ' = [Wri b (.slice pv vl.length cv) (acc ++ (sp1 ++ lpar) ++ stsT vl false (l.take k))]) (fun k => l.length - k) 0 (by exact ⟨rfl, trivial⟩) (Δ0 := _) ?_ (⟨rfl, Nat.zero_le _, by rw [List.take_zero, stsT, ByteArray.append_empty]⟩) ?_
  · exact zE
  rintro k δ _ _ ⟨rfl, hk, rfl⟩
  dsimp only [ovr, List.foldl]
  have hk : k ≤ l.length := hk
  by_cases hlt : k < l.length
  · obtain ⟨x', hx'⟩ : ∃ x', l[k]? = some x' := ⟨_, List.getElem?_eq_getElem hlt⟩
    obtain ⟨g, o, row, rfl, hrx, hrl, hrow⟩ := hl.at hx'
    have hone := hrx.ones
    have hcut := stsT_cut vl hx'
    have hsn := stsT_step vl hx'
    have hm := List.mem_of_getElem? hx'
    refine zS (zR (zO rfl (Rd.lss rfl rfl) ?_)); refine zN (zT (zS (XA.condT rfl (by first | rfl | exact decide_eq_true (by omega)) ?_))); refine XA.skip (zT (zS (XA.block (zS (zR (zA rfl ?_)))))); refine zO rfl (Rd.ixS rfl rfl) ?_; refine zO rfl (Rd.ldA rfl) ?_
    refine XOA.wr0 rfl (WrA.alloc (tyrow rfl)) ?_
    rintro _ _ _ ⟨g5, rfl, rfl, rfl⟩
    refine zO rfl Rd.asg ?_
    refine XOA.wr0 rfl (WrA.st (tyrow rfl) rfl) ?_
    rintro _ _ _ ⟨rfl, rfl, rfl⟩
    refine zN (zT (zS (zS (zR (zA rfl ?_))))); refine zO rfl (Rd.gtr rfl rfl) ?_; refine zN (zT ?_)
    refine XA.join [(18, 20)] (fun _ : Unit => []) (fun _ σ' Γ' => σ = σ' ∧ Γ' = [Wri b (.slice pv vl.length cv) (acc ++ (sp1 ++ lpar) ++ stsT vl false (l.take k) ++ optT (decide (0 < k)) sp1), blk g5 row 56]) ?_ ?_
    · skip
      refine XA.condp rfl (fun h0 => ?_) (fun h0 => ?_)
      · have hb2 : (acc ++ (sp1 ++ lpar) ++ stsT vl false (l.take k)).size + sp1.size ≤ 1000000000 := by simp only [ByteArray.size_append] at z1 ⊢; omega
        have e1 : optT (decide (0 < k)) sp1 = sp1 := by rw [optT, if_pos (decide_eq_true (by omega))]
        refine zR (zA rfl ?_)
        refine XOA.wr0 rfl (WrA.bs1 (tyrow rfl) rfl (tyrow rfl)) ?_
        rintro _ _ _ ⟨g19, rfl, rfl, rfl⟩
        refine XOA.wr0 rfl (WrA.cE (put1 σ b _ (acc ++ (sp1 ++ lpar) ++ stsT vl false (l.take k)) g19 1 sp1 hb2) rfl) ?_
        rintro _ _ _ ⟨_, ⟨rfl, rfl, rfl⟩, rfl⟩
        refine XOA.cl ?_; refine zN (zT ?_)
        refine ⟨(Keep.updO (Keep.updO (Keep.upd (Keep.refl _ _) rfl) rfl) rfl), (), _, zM, ?_, ⟨rfl, rfl⟩⟩
        · rw [e1]; exact zE
      · have e1 : optT (decide (0 < k)) sp1 = ByteArray.empty := by rw [optT, if_neg (by rw [decide_eq_true_eq]; omega)]
        refine XA.skip (zT ?_)
        refine ⟨(Keep.refl _ _), (), _, zM, ?_, ⟨rfl, rfl⟩⟩
        · rw [e1, ByteArray.append_empty]; exact zE
    rintro _ δ _ _ ⟨rfl, rfl⟩
    dsimp only [ovr, List.foldl]
    refine zT ?_
    have hbc : (acc ++ (sp1 ++ lpar) ++ stsT vl false (l.take k) ++ optT (decide (0 < k)) sp1).size + (stT vl x').size ≤ 1000000 := by simp only [ByteArray.size_append] at z1 ⊢; omega
    have e3 : acc ++ (sp1 ++ lpar) ++ stsT vl false (l.take k) ++ optT (decide (0 < k)) sp1 ++ stT vl x' = acc ++ (sp1 ++ lpar) ++ stsT vl false (l.take (k + 1)) := by rw [hsn]; simp only [ByteArray.append_assoc]
    have hrec := ih x' hm σ row b pv cv vl _ hrx hv (hok.mem x' hm) hT hbc
    rw [e3] at hrec
    refine zR (zA rfl ?_); refine zO rfl (Rd.ldA rfl) ?_
    refine XOA.wr0 rfl (WrA.cE (hrec) rfl) ?_
    rintro _ _ _ ⟨_, ⟨rfl, rfl, rfl⟩, rfl⟩
    refine XOA.cl ?_; refine zN (DA.inb_normal (zT (zR (zO rfl zI ?_)))); refine zA rfl ?_; refine zN (zT ?_)
    refine ⟨(Keep.upd (Keep.upd (Keep.updO (Keep.upd (Keep.upd (Keep.hav (Keep.upd (Keep.upd (Keep.updN (Keep.upd (Keep.updO (Keep.upd (Keep.upd (Keep.upd (Keep.upd (Keep.upd (Keep.hav (Keep.hav (Keep.refl _ _) rfl) rfl) rfl) rfl) rfl) rfl) rfl) rfl) rfl)) rfl) rfl) rfl) rfl) rfl) rfl) rfl) rfl), k + 1, _, zM, ?_, ⟨rfl, hlt, rfl⟩, (by omega)⟩
    · exact zE
  · have e : l.take k = l := List.take_of_length_le (by omega)
    rw [e]
    have hbb : (acc ++ (sp1 ++ lpar) ++ stsT vl false l).size + rpar.size ≤ 1000000000 := by simp only [ByteArray.size_append] at z1 ⊢; omega
    have e3 : acc ++ (sp1 ++ lpar) ++ stsT vl false l ++ rpar = acc ++ (sp1 ++ (lpar ++ (stsT vl false l ++ rpar))) := by simp only [ByteArray.append_assoc]
    refine zS (zR (zO rfl (Rd.lss rfl rfl) ?_)); refine zN (zT (zS (XA.condF rfl (by first | rfl | exact decide_eq_false (by omega)) ?_))); refine XA.exit (DA.thn_exit (DA.thn_exit (DA.inb_same (zT (zR (zA rfl ?_))))))
    refine XOA.wr0 rfl (WrA.bs1 (tyrow rfl) rfl (tyrow rfl)) ?_
    rintro _ _ _ ⟨g26, rfl, rfl, rfl⟩
    refine XOA.wr0 rfl (WrA.cE (put1 σ b _ (acc ++ (sp1 ++ lpar) ++ stsT vl false l) g26 1 rpar hbb) rfl) ?_
    rintro _ _ _ ⟨_, ⟨rfl, rfl, rfl⟩, rfl⟩
    refine XOA.cl ?_
    rw [e3]
    refine zN ?_
    exact bodyA.normal (ResA.none rfl) zE ⟨rfl, rfl, rfl⟩
theorem pst_w (x : St) : PStOK x := by
  refine St.ind (P := PStOK) ?_ x
  intro op v e f body els ih jh σ cs b pv cv vl acc hx hv hok hT hb
  obtain ⟨pe, de, pf, df, pb, cb, pl, cl, rfl, ho, hvv, hxe, hxf, hxb, hxl⟩ := hx.inv12
  simp only [St.op, St.v, St.e, St.f, St.body, St.els] at hxe hxf hxb hxl ho hvv ⊢
  clear hx
  rw [StV] at hok
  obtain ⟨h7, hvar, hoke, hokf, -, -, hokb, hokl⟩ := hok
  have hlp : lpar.size = 1 := rfl
  have hrp : rpar.size = 1 := rfl
  have hs1 : sp1.size = 1 := rfl
  obtain ⟨tv, htv⟩ : ∃ t, optT (needV op) (sp1 ++ nameAt vl v) = t := ⟨_, rfl⟩
  obtain ⟨te, hte⟩ : ∃ t, optT (needE op) (sp1 ++ exT vl e) = t := ⟨_, rfl⟩
  obtain ⟨tf, htf⟩ : ∃ t, optT (needF op) (sp1 ++ exT vl f) = t := ⟨_, rfl⟩
  obtain ⟨tb, htb⟩ : ∃ t, optT (needB op) (sp1 ++ (lpar ++ (stsT vl false body ++ rpar))) = t := ⟨_, rfl⟩
  obtain ⟨to, hto⟩ : ∃ t, optT (needO op) (sp1 ++ (lpar ++ (stsT vl false els ++ rpar))) = t := ⟨_, rfl⟩
  have hE : stT vl (.mk op v e f body els) = lpar ++ (verbOf op ++ (tv ++ (te ++ (tf ++ (tb ++ (to ++ rpar)))))) := by rw [stT, htv, hte, htf, htb, hto]
  rw [hE] at hb ⊢
  simp only [ByteArray.size_append] at hb
  refine enterA2 Tryd.func28 rfl rfl rfl ?_
  refine zS (zR ?_)
  refine XOA.wr0 rfl WrA.bx ?_
  rintro _ _ _ ⟨g3, rfl, rfl, rfl⟩
  refine zN (zT (zS (zR (zA rfl ?_)))); refine zV rfl rfl ?_; refine zB rfl rfl (tyrow rfl) rfl ?_
  refine XOA.wr0 rfl (WrA.cE (verb_p σ op) rfl) ?_
  rintro _ _ _ ⟨_, ⟨rfl, rfl, rfl⟩, rfl⟩
  refine XOA.cl ?_
  refine XOA.wr0 rfl (WrA.bs (fun _ _ => tyrow) rfl rfl rfl rfl rfl) ?_
  rintro _ _ _ ⟨g13, rfl, rfl, rfl⟩
  refine XOA.wr0 rfl (WrA.cE (put2 σ b _ acc g13 2 lpar (verbOf op) (by omega)) rfl) ?_
  rintro _ _ _ ⟨_, ⟨rfl, rfl, rfl⟩, rfl⟩
  refine XOA.cl ?_; refine zN (zT (zS (zR (zV rfl rfl ?_)))); refine zB rfl rfl (tyrow rfl) rfl ?_
  refine XOA.wr0 rfl (WrA.cE (chas_a σ op) rfl) ?_
  rintro _ _ _ ⟨_, ⟨rfl, rfl, rfl⟩, rfl⟩
  refine XOA.cl ?_; refine zA rfl ?_; refine zO rfl (Rd.extract rfl rfl) ?_; refine zO rfl (Rd.extract rfl rfl) ?_; refine zO rfl (Rd.extract rfl rfl) ?_; refine zO rfl (Rd.extract rfl rfl) ?_; refine zO rfl (Rd.extract rfl rfl) ?_; refine zO rfl Rd.asg ?_; refine zO rfl Rd.asg ?_
  refine zO rfl Rd.asg ?_; refine zO rfl Rd.asg ?_; refine zO rfl Rd.asg ?_; refine zN (zT (zS (zS (zR (zA rfl ?_))))); refine zN (zT ?_)
  refine XA.join [(25, 36)] (fun _ : Unit => []) (fun _ σ' Γ' => σ = σ' ∧ Γ' = [Wri b (.slice pv vl.length cv) (acc ++ (lpar ++ verbOf op) ++ tv), blk g3 [i64 op, i64 v, i64 e.op, i64 e.v, i64 e.n, .slice pe e.l.length de, i64 f.op, i64 f.v, i64 f.n, .slice pf f.l.length df, .slice pb body.length cb, .slice pl els.length cl] 56]) ?_ ?_
  · skip
    refine XA.cond rfl (fun hq => ?_) (fun hq => ?_)
    · obtain ⟨hv0, hv1⟩ := hvar hq
      obtain ⟨k, rfl⟩ : ∃ k : Nat, v = k := ⟨v.toNat, by omega⟩
      have hkl : k < vl.length := by omega
      obtain ⟨w, hw⟩ : ∃ w, vl[k]? = some w := ⟨vl[k], by simp [hkl]⟩
      obtain ⟨gg, o, row, rfl, ⟨rfl, -, -⟩, -, hrow⟩ := hv.at hw
      have a0 : PRow σ gg (o + k * 2) [.string w.name] := hrow.sub (j := 0) rfl
      have e1 : tv = sp1 ++ w.name := by rw [← htv, optT, if_pos hq, nameAt_get hw]
      have hb2 : (acc ++ (lpar ++ verbOf op)).size + (sp1.size + w.name.size) ≤ 1000000000 := by rw [e1] at hb; simp only [ByteArray.size_append] at hb ⊢; omega
      have hlt : (0 : Int) ≤ k ∧ (k : Int) < (vl.length : Nat) := ⟨by omega, by omega⟩
      first | refine XA.opn (R := Wri b _ _) zL (Bld.o) ?_ | refine XOA.opn (R := Wri b _ _) zL (Bld.o) ?_ | refine DA.opn (R := Wri b _ _) zL (Bld.o) ?_
      rintro ⟨u, pz, cz⟩ hz
      first | refine XA.cl ?_ | refine XOA.cl ?_ | refine DA.cl ?_
      simp only at hz
      refine XA.draw (by kernel_rfl) _ _ [10, 11] [(0, .pu), (1, .pu), (2, .pu), (3, .pu), (4, .rd), (5, .pu), (6, .rd), (7, .pu), (8, .pu), (9, .rd), (10, .wr), (11, .wr)] (by kernel_rfl) (PH.sub.refl _) (Ent.sel (R := blk b _ _) zL (Ent.sel (R := blk g3 _ _) zL (Ent.nil _))) ?_
      refine XPA.pu rfl rfl Gd.free Rd.mv ?_; refine XPA.pu rfl rfl Gd.free Rd.mv ?_; refine XPA.pu rfl rfl Gd.free (Rd.nilCheck rfl) ?_; refine XPA.pu rfl rfl Gd.free (Rd.fA rfl) ?_; refine XPA.rd rfl rfl Gd.free (Rd.ldC rfl (tyrow rfl) rfl) ?_; refine XPA.pu rfl rfl Gd.free (Rd.fA rfl) ?_
      refine XPA.rd rfl rfl Gd.free (Rd.ldC rfl (tyrow rfl) rfl) ?_; refine XPA.pu rfl rfl Gd.free (Rd.ixS rfl rfl) ?_; refine XPA.pu rfl rfl Gd.free (Rd.fA rfl) ?_; refine XPA.rd rfl rfl Gd.free (Rd.ldC rfl (tyrow rfl) rfl) ?_
      refine XPA.wrZ0 rfl rfl Gd.free (by kernel_rfl) (WrA.bs (fun _ _ => tyrow) rfl rfl rfl rfl rfl) ?_
      rintro _ _ _ ⟨g35, rfl, rfl, rfl⟩
      refine XPA.wrZ0 rfl rfl Gd.free (by kernel_rfl) (WrA.cE (put2o σ b _ (acc ++ (lpar ++ verbOf op)) g35 2 u pz cz hz sp1 w.name hb2) rfl) ?_
      rintro _ _ _ ⟨_, ⟨rfl, rfl, rfl⟩, rfl⟩
      refine XPA.cl ?_; refine XPA.nil ?_; refine zT ?_
      refine ⟨(Keep.updO (Keep.updO (Keep.upd (Keep.upd (Keep.upd (Keep.upd (Keep.upd (Keep.upd (Keep.upd (Keep.upd (Keep.upd (Keep.upd (Keep.refl _ _) rfl) rfl) rfl) rfl) rfl) rfl) rfl) rfl) rfl) rfl) rfl) rfl), (), _, zM, ?_, ⟨rfl, rfl⟩⟩
      · rw [e1]; exact zE
    · have e1 : tv = ByteArray.empty := by rw [← htv, optT, if_neg (by rw [hq]; exact Bool.noConfusion)]
      refine XA.skip (zT ?_)
      refine ⟨(Keep.refl _ _), (), _, zM, ?_, ⟨rfl, rfl⟩⟩
      · rw [e1, ByteArray.append_empty]; exact zE
  rintro _ δ _ _ ⟨rfl, rfl⟩
  dsimp only [ovr, List.foldl]
  refine zT (zS (zS (zR (zA rfl ?_)))); refine zN (zT ?_)
  refine XA.join [(38, 44)] (fun _ : Unit => []) (fun _ σ' Γ' => σ = σ' ∧ Γ' = [Wri b (.slice pv vl.length cv) (acc ++ (lpar ++ verbOf op) ++ tv ++ te), blk g3 [i64 op, i64 v, i64 e.op, i64 e.v, i64 e.n, .slice pe e.l.length de, i64 f.op, i64 f.v, i64 f.n, .slice pf f.l.length df, .slice pb body.length cb, .slice pl els.length cl] 56]) ?_ ?_
  · skip
    refine XA.cond rfl (fun hq => ?_) (fun hq => ?_)
    · have e1 : te = sp1 ++ exT vl e := by rw [← hte, optT, if_pos hq]
      obtain ⟨hval, -⟩ := hoke hq
      have hb2 : (acc ++ (lpar ++ verbOf op) ++ tv).size + sp1.size ≤ 1000000000 := by simp only [ByteArray.size_append]; omega
      have hb3 : (acc ++ (lpar ++ verbOf op) ++ tv ++ sp1).size + (exT vl e).size ≤ 1000000 := by rw [e1] at hb; simp only [ByteArray.size_append] at hb ⊢; omega
      have hrec := pexpr_w e σ _ b pv cv vl (acc ++ (lpar ++ verbOf op) ++ tv ++ sp1) hxe hv hval hT hb3
      rw [ByteArray.append_assoc (b := sp1), ← e1] at hrec
      refine zS (zR (zA rfl ?_))
      refine XOA.wr0 rfl (WrA.bs1 (tyrow rfl) rfl (tyrow rfl)) ?_
      rintro _ _ _ ⟨g39, rfl, rfl, rfl⟩
      refine XOA.wr0 rfl (WrA.cE (put1 σ b _ (acc ++ (lpar ++ verbOf op) ++ tv) g39 1 sp1 hb2) rfl) ?_
      rintro _ _ _ ⟨_, ⟨rfl, rfl, rfl⟩, rfl⟩
      refine XOA.cl ?_; refine zN (zT (zR (zA rfl ?_))); refine zV rfl rfl ?_; refine zO rfl (Rd.ldA rfl) ?_
      refine XOA.wr0 rfl (WrA.cE (hrec) rfl) ?_
      rintro _ _ _ ⟨_, ⟨rfl, rfl, rfl⟩, rfl⟩
      refine XOA.cl ?_; refine zN (zT ?_)
      refine ⟨(Keep.updO (Keep.upd (Keep.upd (Keep.upd (Keep.updO (Keep.updO (Keep.upd (Keep.refl _ _) rfl) rfl) rfl) rfl) rfl) rfl) rfl), (), _, zM, ?_, ⟨rfl, rfl⟩⟩
      · exact zE
    · have e1 : te = ByteArray.empty := by rw [← hte, optT, if_neg (by rw [hq]; exact Bool.noConfusion)]
      refine XA.skip (zT ?_)
      refine ⟨(Keep.refl _ _), (), _, zM, ?_, ⟨rfl, rfl⟩⟩
      · rw [e1, ByteArray.append_empty]; exact zE
  rintro _ δ _ _ ⟨rfl, rfl⟩
  dsimp only [ovr, List.foldl]
  refine zT (zS (zS (zR (zA rfl ?_)))); refine zN (zT ?_)
  refine XA.join [(46, 52)] (fun _ : Unit => []) (fun _ σ' Γ' => σ = σ' ∧ Γ' = [Wri b (.slice pv vl.length cv) (acc ++ (lpar ++ verbOf op) ++ tv ++ te ++ tf), blk g3 [i64 op, i64 v, i64 e.op, i64 e.v, i64 e.n, .slice pe e.l.length de, i64 f.op, i64 f.v, i64 f.n, .slice pf f.l.length df, .slice pb body.length cb, .slice pl els.length cl] 56]) ?_ ?_
  · skip
    refine XA.cond rfl (fun hq => ?_) (fun hq => ?_)
    · have e1 : tf = sp1 ++ exT vl f := by rw [← htf, optT, if_pos hq]
      obtain ⟨hval, -⟩ := hokf hq
      have hb2 : (acc ++ (lpar ++ verbOf op) ++ tv ++ te).size + sp1.size ≤ 1000000000 := by simp only [ByteArray.size_append]; omega
      have hb3 : (acc ++ (lpar ++ verbOf op) ++ tv ++ te ++ sp1).size + (exT vl f).size ≤ 1000000 := by rw [e1] at hb; simp only [ByteArray.size_append] at hb ⊢; omega
      have hrec := pexpr_w f σ _ b pv cv vl (acc ++ (lpar ++ verbOf op) ++ tv ++ te ++ sp1) hxf hv hval hT hb3
      rw [ByteArray.append_assoc (b := sp1), ← e1] at hrec
      refine zS (zR (zA rfl ?_))
      refine XOA.wr0 rfl (WrA.bs1 (tyrow rfl) rfl (tyrow rfl)) ?_
      rintro _ _ _ ⟨g47, rfl, rfl, rfl⟩
      refine XOA.wr0 rfl (WrA.cE (put1 σ b _ (acc ++ (lpar ++ verbOf op) ++ tv ++ te) g47 1 sp1 hb2) rfl) ?_
      rintro _ _ _ ⟨_, ⟨rfl, rfl, rfl⟩, rfl⟩
      refine XOA.cl ?_; refine zN (zT (zR (zA rfl ?_))); refine zV rfl rfl ?_; refine zO rfl (Rd.ldA rfl) ?_
      refine XOA.wr0 rfl (WrA.cE (hrec) rfl) ?_
      rintro _ _ _ ⟨_, ⟨rfl, rfl, rfl⟩, rfl⟩
      refine XOA.cl ?_; refine zN (zT ?_)
      refine ⟨(Keep.updO (Keep.upd (Keep.upd (Keep.upd (Keep.updO (Keep.updO (Keep.upd (Keep.refl _ _) rfl) rfl) rfl) rfl) rfl) rfl) rfl), (), _, zM, ?_, ⟨rfl, rfl⟩⟩
      · exact zE
    · have e1 : tf = ByteArray.empty := by rw [← htf, optT, if_neg (by rw [hq]; exact Bool.noConfusion)]
      refine XA.skip (zT ?_)
      refine ⟨(Keep.refl _ _), (), _, zM, ?_, ⟨rfl, rfl⟩⟩
      · rw [e1, ByteArray.append_empty]; exact zE
  rintro _ δ _ _ ⟨rfl, rfl⟩
  dsimp only [ovr, List.foldl]
  refine zT (zS (zS (zR (zA rfl ?_)))); refine zN (zT ?_)
  refine XA.join [(54, 57)] (fun _ : Unit => []) (fun _ σ' Γ' => σ = σ' ∧ Γ' = [Wri b (.slice pv vl.length cv) (acc ++ (lpar ++ verbOf op) ++ tv ++ te ++ tf ++ tb), blk g3 [i64 op, i64 v, i64 e.op, i64 e.v, i64 e.n, .slice pe e.l.length de, i64 f.op, i64 f.v, i64 f.n, .slice pf f.l.length df, .slice pb body.length cb, .slice pl els.length cl] 56]) ?_ ?_
  · skip
    refine XA.cond rfl (fun hq => ?_) (fun hq => ?_)
    · have e1 : tb = sp1 ++ (lpar ++ (stsT vl false body ++ rpar)) := by rw [← htb, optT, if_pos hq]
      have hb3 : (acc ++ (lpar ++ verbOf op) ++ tv ++ te ++ tf).size + (3 + (stsT vl false body).size) ≤ 1000000 := by rw [e1] at hb; simp only [ByteArray.size_append] at hb ⊢; omega
      have hrec := plist_w body ih σ _ _ b pv cv vl (acc ++ (lpar ++ verbOf op) ++ tv ++ te ++ tf) hxb hv hokb hT hb3
      rw [← e1] at hrec
      refine zR (zA rfl ?_); refine zV rfl rfl ?_; refine zB rfl rfl (tyrow rfl) rfl ?_
      refine XOA.wr0 rfl (WrA.cE (hrec) rfl) ?_
      rintro _ _ _ ⟨_, ⟨rfl, rfl, rfl⟩, rfl⟩
      refine XOA.cl ?_; refine zN (zT ?_)
      refine ⟨(Keep.updO (Keep.upd (Keep.upd (Keep.upd (Keep.refl _ _) rfl) rfl) rfl) rfl), (), _, zM, ?_, ⟨rfl, rfl⟩⟩
      · exact zE
    · have e1 : tb = ByteArray.empty := by rw [← htb, optT, if_neg (by rw [hq]; exact Bool.noConfusion)]
      refine XA.skip (zT ?_)
      refine ⟨(Keep.refl _ _), (), _, zM, ?_, ⟨rfl, rfl⟩⟩
      · rw [e1, ByteArray.append_empty]; exact zE
  rintro _ δ _ _ ⟨rfl, rfl⟩
  dsimp only [ovr, List.foldl]
  refine zT (zS (zS (zR (zA rfl ?_)))); refine zN (zT ?_)
  refine XA.join [(59, 62)] (fun _ : Unit => []) (fun _ σ' Γ' => σ = σ' ∧ Γ' = [Wri b (.slice pv vl.length cv) (acc ++ (lpar ++ verbOf op) ++ tv ++ te ++ tf ++ tb ++ to), blk g3 [i64 op, i64 v, i64 e.op, i64 e.v, i64 e.n, .slice pe e.l.length de, i64 f.op, i64 f.v, i64 f.n, .slice pf f.l.length df, .slice pb body.length cb, .slice pl els.length cl] 56]) ?_ ?_
  · skip
    refine XA.cond rfl (fun hq => ?_) (fun hq => ?_)
    · have e1 : to = sp1 ++ (lpar ++ (stsT vl false els ++ rpar)) := by rw [← hto, optT, if_pos hq]
      have hb3 : (acc ++ (lpar ++ verbOf op) ++ tv ++ te ++ tf ++ tb).size + (3 + (stsT vl false els).size) ≤ 1000000 := by rw [e1] at hb; simp only [ByteArray.size_append] at hb ⊢; omega
      have hrec := plist_w els jh σ _ _ b pv cv vl (acc ++ (lpar ++ verbOf op) ++ tv ++ te ++ tf ++ tb) hxl hv hokl hT hb3
      rw [← e1] at hrec
      refine zR (zA rfl ?_); refine zV rfl rfl ?_; refine zB rfl rfl (tyrow rfl) rfl ?_
      refine XOA.wr0 rfl (WrA.cE (hrec) rfl) ?_
      rintro _ _ _ ⟨_, ⟨rfl, rfl, rfl⟩, rfl⟩
      refine XOA.cl ?_; refine zN (zT ?_)
      refine ⟨(Keep.updO (Keep.upd (Keep.upd (Keep.upd (Keep.refl _ _) rfl) rfl) rfl) rfl), (), _, zM, ?_, ⟨rfl, rfl⟩⟩
      · exact zE
    · have e1 : to = ByteArray.empty := by rw [← hto, optT, if_neg (by rw [hq]; exact Bool.noConfusion)]
      refine XA.skip (zT ?_)
      refine ⟨(Keep.refl _ _), (), _, zM, ?_, ⟨rfl, rfl⟩⟩
      · rw [e1, ByteArray.append_empty]; exact zE
  rintro _ δ _ _ ⟨rfl, rfl⟩
  dsimp only [ovr, List.foldl]
  refine zT (zR (zA rfl ?_))
  refine XOA.wr0 rfl (WrA.bs1 (tyrow rfl) rfl (tyrow rfl)) ?_
  rintro _ _ _ ⟨g64, rfl, rfl, rfl⟩
  have hbb : (acc ++ (lpar ++ verbOf op) ++ tv ++ te ++ tf ++ tb ++ to).size + rpar.size ≤ 1000000000 := by simp only [ByteArray.size_append]; omega
  have e3 : acc ++ (lpar ++ verbOf op) ++ tv ++ te ++ tf ++ tb ++ to ++ rpar = acc ++ (lpar ++ (verbOf op ++ (tv ++ (te ++ (tf ++ (tb ++ (to ++ rpar))))))) := by simp only [ByteArray.append_assoc]
  refine XOA.wr0 rfl (WrA.cE (put1 σ b _ (acc ++ (lpar ++ verbOf op) ++ tv ++ te ++ tf ++ tb ++ to) g64 1 rpar hbb) rfl) ?_
  rintro _ _ _ ⟨_, ⟨rfl, rfl, rfl⟩, rfl⟩
  refine XOA.cl ?_
  rw [e3]
  refine zN ?_
  exact bodyA.normal (ResA.none rfl) zE ⟨rfl, rfl, rfl⟩
end Go.Proofs.YthefnnkmpcgcmaaDoor

namespace Go.Proofs
open Go.Shelf
def Tryd.laysM171_ren : Go.Shelf.Ren := ⟨fun | 171 => 27 | 243 => 50 | 246 => 78 | 283 => 99 | 284 => 100 | 285 => 101 | 286 => 102 | 129 => 110 | 317 => 109 | 318 => 111 | 319 => 112 | 320 => 113 | 337 => 118 | 338 => 119 | n => n, fun | 3 => 3 | 9 => 9 | 2 => 2 | 4 => 4 | 171 => 135 | 0 => 0 | 53 => 136 | 37 => 61 | 5 => 5 | 173 => 139 | 212 => 148 | 51 => 149 | 20 => 20 | 213 => 150 | 46 => 46 | 232 => 161 | 233 => 162 | n => n, fun | 17 => 0 | 18 => 3 | 19 => 4 | n => n⟩
theorem Tryd.laysM171 : Go.Proofs.LaysM.n171 Tryd.prog Tryd.laysM171_ren := {
  mixed := by kernel_rfl
  f129 := Tryd.func110.trans (congrArg some (by kernel_rfl))
  f171 := Tryd.func27.trans (congrArg some (by kernel_rfl))
  f243 := Tryd.func50.trans (congrArg some (by kernel_rfl))
  f246 := Tryd.func78.trans (congrArg some (by kernel_rfl))
  f283 := Tryd.func99.trans (congrArg some (by kernel_rfl))
  f284 := Tryd.func100.trans (congrArg some (by kernel_rfl))
  f285 := Tryd.func101.trans (congrArg some (by kernel_rfl))
  f286 := Tryd.func102.trans (congrArg some (by kernel_rfl))
  f317 := Tryd.func109.trans (congrArg some (by kernel_rfl))
  f318 := Tryd.func111.trans (congrArg some (by kernel_rfl))
  f319 := Tryd.func112.trans (congrArg some (by kernel_rfl))
  f320 := Tryd.func113.trans (congrArg some (by kernel_rfl))
  f337 := Tryd.func118.trans (congrArg some (by kernel_rfl))
  f338 := Tryd.func119.trans (congrArg some (by kernel_rfl))
  t0 := Tryd.underlying0
  a0 := Tryd.isAgg0
  z0 := Tryd.sizeOf0
  v0 := Tryd.zeroValue0
  t2 := Tryd.underlying2
  a2 := Tryd.isAgg2
  z2 := Tryd.sizeOf2
  v2 := Tryd.zeroValue2
  t3 := Tryd.underlying3
  a3 := Tryd.isAgg3
  z3 := Tryd.sizeOf3
  v3 := Tryd.zeroValue3
  t4 := Tryd.underlying4
  a4 := Tryd.isAgg4
  z4 := Tryd.sizeOf4
  v4 := Tryd.zeroValue4
  t5 := Tryd.underlying5
  a5 := Tryd.isAgg5
  z5 := Tryd.sizeOf5
  v5 := Tryd.zeroValue5
  t9 := Tryd.underlying9
  a9 := Tryd.isAgg9
  z9 := Tryd.sizeOf9
  v9 := Tryd.zeroValue9
  t20 := Tryd.underlying20
  a20 := Tryd.isAgg20
  z20 := Tryd.sizeOf20
  v20 := Tryd.zeroValue20
  t37 := Tryd.underlying61
  a37 := Tryd.isAgg61
  z37 := Tryd.sizeOf61
  v37 := Tryd.zeroValue61
  t46 := Tryd.underlying46
  a46 := Tryd.isAgg46
  z46 := Tryd.sizeOf46
  v46 := Tryd.zeroValue46
  t51 := Tryd.underlying149
  a51 := Tryd.isAgg149
  z51 := Tryd.sizeOf149
  v51 := Tryd.zeroValue149
  t53 := Tryd.underlying136
  a53 := Tryd.isAgg136
  z53 := Tryd.sizeOf136
  v53 := Tryd.zeroValue136
  t171 := Tryd.underlying135
  a171 := Tryd.isAgg135
  z171 := Tryd.sizeOf135
  v171 := Tryd.zeroValue135
  t173 := Tryd.underlying139
  a173 := Tryd.isAgg139
  z173 := Tryd.sizeOf139
  v173 := Tryd.zeroValue139
  t212 := Tryd.underlying148
  a212 := Tryd.isAgg148
  z212 := Tryd.sizeOf148
  v212 := Tryd.zeroValue148
  t213 := Tryd.underlying150
  a213 := Tryd.isAgg150
  z213 := Tryd.sizeOf150
  t232 := Tryd.underlying161
  a232 := Tryd.isAgg161
  z232 := Tryd.sizeOf161
  v232 := Tryd.zeroValue161
  t233 := Tryd.underlying162
  a233 := Tryd.isAgg162
  z233 := Tryd.sizeOf162
  v233 := Tryd.zeroValue162
  g17 := by kernel_rfl
  g18 := by kernel_rfl
  g19 := by kernel_rfl
  i0 := by kernel_rfl
  i2 := by kernel_rfl
  i3 := by kernel_rfl
  i4 := by kernel_rfl
  i5 := by kernel_rfl
  i9 := by kernel_rfl
  i20 := by kernel_rfl
  i37 := by kernel_rfl
  i46 := by kernel_rfl
  i51 := by kernel_rfl
  i53 := by kernel_rfl
  i171 := by kernel_rfl
  i173 := by kernel_rfl
  i212 := by kernel_rfl
  i232 := by kernel_rfl
  i233 := by kernel_rfl
  m17 := by kernel_rfl
  m18 := by kernel_rfl
  m19 := by kernel_rfl }
open Go.RowKit Go.Sort Go.Lib in
theorem Tryd.strconv_Itoa (n : Int) (h0 : -9223372036854775808 ≤ n) (h1 : n ≤ 9223372036854775807) (w : World) (htab : Lib.TabIs Tryd.prog w "internal/strconv.uint64pow10" .u64 Lib.pow10Tab) :
    Calls Tryd.prog 27 #[.int .i64 n] w fun e w' => e = .returned (.string ⟨(Lib.itoa n).toArray⟩) ∧ ∃ k os, w' = grow (w.drewN k) os := Any.strconv_Itoa Tryd.laysM171 n h0 h1 w htab
end Go.Proofs

namespace Go.Proofs.YthefnnkmpcgcmaaDoor
open Go X
set_option maxHeartbeats 4000000
theorem itoa_i (σ : PH) (n : Int) (h0 : -9223372036854775808 ≤ n) (h1 : n ≤ 9223372036854775807) (hT : Tab σ) :
    CallsA Tryd.prog 27 #[i64 n] σ [] (RetA fun v σ' Γ' => v = .string (itoaS n) ∧ σ = σ' ∧ Γ' = []) := by
  refine CallsA.below (enters Tryd.func27 rfl rfl) fun w hw => ?_
  refine (Tryd.strconv_Itoa n h0 h1 w (hT w hw)).mono ?_
  rintro e w' ⟨rfl, k, os, rfl⟩
  exact ⟨_, rfl, rfl, grow_below w k os⟩
def printP (p : Pr) : PErr ByteArray := if checkP p ≠ 0 then .error (checkP p, -1) else if 6000 < (prT p).size then .error (3, -1) else .ok (prT p)
def okB : PErr ByteArray → ByteArray | .error _ => ByteArray.empty | .ok s => s
theorem Bld.new {T : TypeId} {b : Nat} {vs : List Value} : ∀ m, blk b (nptr false b :: .slice none 0 0 :: vs) T m → Bld T b vs ByteArray.empty m := fun m h =>
  ⟨false, none, 0, fun _ => ⟨rfl, rfl⟩, m, PH.none, h, ⟨PH.none, PH.none, lst_nil _ _ _, trivial, PH.none_dis _, .refl _, .refl _⟩, PH.none_dis m, .refl m, PH.none_sub m⟩
theorem varsT_step {l : List Va} {k : Nat} {x : Va} (h : l[k]? = some x) : varsT (l.take (k + 1)) = varsT (l.take k) ++ varT x := by
  rw [List.take_add_one, h, Option.toList_some, varsT_app, varsT, varsT, ByteArray.append_empty]
theorem varsT_cut {l : List Va} {k : Nat} {x : Va} (h : l[k]? = some x) : (varsT (l.take k)).size + (varT x).size ≤ (varsT l).size := by
  have e1 : varsT l = varsT (l.take (k + 1)) ++ varsT (l.drop (k + 1)) := by rw [← varsT_app, List.take_append_drop]
  rw [e1, varsT_step h]; simp only [ByteArray.size_append]; omega
theorem bodyT_step (vl : List Va) {l : List St} {k : Nat} {x : St} (h : l[k]? = some x) : bodyT vl (l.take (k + 1)) = bodyT vl (l.take k) ++ (stT vl x ++ nl1) := by
  rw [List.take_add_one, h, Option.toList_some, bodyT_app, bodyT, bodyT, ByteArray.append_empty]
theorem bodyT_cut (vl : List Va) {l : List St} {k : Nat} {x : St} (h : l[k]? = some x) : (bodyT vl (l.take k)).size + ((stT vl x).size + 1) ≤ (bodyT vl l).size := by
  have e1 : bodyT vl l = bodyT vl (l.take (k + 1)) ++ bodyT vl (l.drop (k + 1)) := by rw [← bodyT_app, List.take_append_drop]
  rw [e1, bodyT_step vl h]; simp only [ByteArray.size_append, show nl1.size = 1 from rfl]; omega
section
variable (σ : PH) (b : Nat) (v : Value) (acc : ByteArray) (g c : Nat)
theorem put5 (s1 s2 s3 s4 s5 : ByteArray) (hb : acc.size + (s1 ++ (s2 ++ (s3 ++ (s4 ++ s5)))).size ≤ 1000000000) : CallsA Tryd.prog 26 #[ptr b, .slice (some ⟨g, 0, none⟩) 5 c] σ [Wri b v acc, blk g [.string s1, .string s2, .string s3, .string s4, .string s5] 9] (RetA fun r σ' Γ' => r = .tuple #[] ∧ σ = σ' ∧ Γ' = [Wri b v (acc ++ (s1 ++ (s2 ++ (s3 ++ (s4 ++ s5)))))]) := by
  have e : catL [s1, s2, s3, s4, s5] = s1 ++ (s2 ++ (s3 ++ (s4 ++ s5))) := by simp only [catL, ByteArray.append_empty]
  have := put_w σ b v acc [s1, s2, s3, s4, s5] g c (by rw [e]; exact hb) (by simp)
  rwa [e] at this
end
theorem print_w (σ : PH) (cs : List Value) (pr : Pr) (hp : PrAt σ cs pr) (hT : Tab σ) :
    CallsA Tryd.prog 13 #[.agg cs.toArray] σ [] (RetA fun v σ' Γ' => v = .tuple #[.string (okB (printP pr)), .agg #[i64 (errC (printP pr)), i64 (errA (printP pr))]] ∧ σ = σ' ∧ Γ' = []) := by
  have hp0 := hp
  obtain ⟨vs, bs, rfl, hv, hb⟩ := hp
  obtain ⟨pv, cv, rfl, hv1, hv2⟩ := hv.shape
  obtain ⟨pb, cb, rfl, hb1, hb2⟩ := hb.shape
  have hlv : pr.vars.length ≤ maxLen := by omega
  have hlb : pr.body.length ≤ maxLen := by omega
  simp only [maxLen] at hlv hlb
  have hchk := check_a σ _ pr hp0
  by_cases hc : checkP pr ≠ 0
  · have e : printP pr = .error (checkP pr, -1) := by rw [printP, if_pos hc]
    rw [e]
    refine enterA1 Tryd.func13 rfl rfl rfl ?_
    refine zS (zR ?_)
    refine XOA.wr0 rfl WrA.bx ?_
    rintro _ _ _ ⟨g1, rfl, rfl, rfl⟩
    refine zO rfl Rd.asg ?_
    refine XOA.wr0 rfl (WrA.alloc (tyrow rfl)) ?_
    rintro _ _ _ ⟨g3, rfl, rfl, rfl⟩
    refine zN (zT (zS (zS (zR (zO rfl (Rd.ldA rfl) ?_)))))
    refine XOA.wr0 rfl (WrA.cE (hchk) rfl) ?_
    rintro _ _ _ ⟨_, ⟨rfl, rfl, rfl⟩, rfl⟩
    refine XOA.cl ?_; refine zO rfl Rd.asg ?_; refine zN (zT (zS (zR (zA rfl ?_)))); refine zO rfl (Rd.neq rfl rfl) ?_; refine zN (zT (XA.condT rfl (by first | rfl | exact decide_eq_true hc) ?_)); refine zS (zR (zA rfl ?_))
    refine zO rfl (Rd.bl (fun _ _ => tyrow) rfl rfl rfl) ?_
    refine zO rfl Rd.asg ?_
    refine XOA.wr0 rfl (WrA.st (tyrow rfl) rfl) ?_
    rintro _ _ _ ⟨rfl, rfl, rfl⟩
    refine zN (zT (XA.ret (DA.thn_ret ?_)))
    exact bodyA.ret (ResA.tcT rfl rfl rfl (Ld.atBlk (tyrow rfl) rfl zL rfl (by first | exact take0 (by first | rfl | assumption | (refine (ints_len _).trans ?_; assumption) | (simp [*]; (first | done | fail))) | assumption | exact take_app (by first | rfl | assumption | (refine (ints_len _).trans ?_; assumption) | (simp [*]; (first | done | fail))) | (conv => lhs; simp only [List.drop_succ_cons, List.drop_zero, List.take_succ_cons, List.take_zero])) (by first | rfl | assumption | (refine (ints_len _).trans ?_; assumption) | (simp [*]; (first | done | fail))))) (Ent.nil _) ⟨rfl, rfl, rfl⟩
  have hc0 : checkP pr = 0 := by omega
  have hw := check_w hc0
  have hi := hp0.i
  obtain ⟨hz1, hz2⟩ := prT_le hw hi
  have hok := (check_valid hc0).1
  have elet : (⟨#[108, 101, 116, 32]⟩ : ByteArray) = kwLet ++ sp1 := by decide
  refine enterA1 Tryd.func13 rfl rfl rfl ?_
  refine zS (zR ?_)
  refine XOA.wr0 rfl WrA.bx ?_
  rintro _ _ _ ⟨g1, rfl, rfl, rfl⟩
  refine zO rfl Rd.asg ?_
  refine XOA.wr0 rfl (WrA.alloc (tyrow rfl)) ?_
  rintro _ _ _ ⟨g3, rfl, rfl, rfl⟩
  refine zN (zT (zS (zS (zR (zO rfl (Rd.ldA rfl) ?_)))))
  refine XOA.wr0 rfl (WrA.cE (hchk) rfl) ?_
  rintro _ _ _ ⟨_, ⟨rfl, rfl, rfl⟩, rfl⟩
  refine XOA.cl ?_; refine zO rfl Rd.asg ?_; refine zN (zT (zS (zR (zA rfl ?_)))); refine zO rfl (Rd.neq rfl rfl) ?_; refine zN (zT (XA.condF rfl (by first | rfl | exact decide_eq_false hc) ?_)); refine XA.skip (zT (zS (zR (zV rfl rfl ?_)))); refine zB rfl rfl (tyrow rfl) rfl ?_
  refine zO rfl (Rd.bl (fun _ _ => tyrow) rfl rfl rfl) ?_
  refine XOA.wr0 rfl WrA.bx ?_
  rintro _ _ _ ⟨g19, rfl, rfl, rfl⟩
  refine zO rfl Rd.asg ?_; refine zN (zT (zS (zS (zR (zV rfl rfl ?_))))); refine zB rfl rfl (tyrow rfl) rfl ?_; refine zO rfl (Rd.lenSlice (tyrow rfl) rfl rfl) ?_; refine zA rfl ?_; refine zN (zT (XA.block ?_))
  refine XA.ent (Ent.imp (R := blk g19 [.pointer none, .slice none 0 0, .slice pv pr.vars.length cv] 65) (S := Wri g19 (.slice pv pr.vars.length cv) ByteArray.empty) zL Bld.new (Ent.refl _)) ?_
  refine XA.gen [(1, _), (2, _), (3, _), (5, _), (21, _), (22, _), (23, _)] ⟨(by with_reducible (conv => lhs; whnf)), (by with_reducible (conv => lhs; whnf)), (by with_reducible (conv => lhs; whnf)), (by with_reducible (conv => lhs; whnf)), (by with_reducible (conv => lhs; whnf)), (by with_reducible (conv => lhs; whnf)), (by with_reducible (conv => lhs; whnf)), trivial⟩ (fun δ => ?_)
  dsimp only [List.foldl]
  refine XA.loop [(7, 7), (23, 35)] (fun k : Nat => [(23, i64 k)]) (fun k σ' Γ' => σ = σ' ∧ k ≤ pr.vars.length ∧ Γ' = [Wri g19 (.slice pv pr.vars.length cv) (varsT (pr.vars.take k)), blk g3 [i64 0, i64 0] 30, blk g1 [.slice pv pr.vars.length cv, .slice pb pr.body.length cb] 25]) (fun k => pr.vars.length - k) 0 (by exact ⟨rfl, trivial⟩) (Δ0 := _) ?_ (⟨rfl, Nat.zero_le _, by rw [List.take_zero, varsT]⟩) ?_
  · exact zE
  rintro k δ _ _ ⟨rfl, hk, rfl⟩
  dsimp only [ovr, List.foldl]
  have hk : k ≤ pr.vars.length := hk
  by_cases hlt : k < pr.vars.length
  · obtain ⟨w, hw'⟩ : ∃ w, pr.vars[k]? = some w := ⟨_, List.getElem?_eq_getElem hlt⟩
    obtain ⟨gg, o, row, rfl, ⟨rfl, -, -⟩, -, hrow⟩ := hv.at hw'
    obtain ⟨n1, n2, n3⟩ := hw.names w (List.mem_of_getElem? hw')
    have hcut := varsT_cut hw'
    have hsn := varsT_step hw'
    have evar : (⟨#[108, 101, 116, 32]⟩ : ByteArray) ++ (w.name ++ ((⟨#[32]⟩ : ByteArray) ++ (itoaS w.size ++ (⟨#[10]⟩ : ByteArray)))) = varT w := by rw [elet, varT, ByteArray.append_assoc]; rfl
    have hput := fun g => put5 σ g19 (.slice (some ⟨gg, o, none⟩) pr.vars.length cv) (varsT (pr.vars.take k)) g 5 (⟨#[108, 101, 116, 32]⟩ : ByteArray) w.name (⟨#[32]⟩ : ByteArray) (itoaS w.size) (⟨#[10]⟩ : ByteArray) (by rw [evar]; omega)
    rw [evar, ← hsn] at hput
    refine zS (zR (zO rfl (Rd.lss rfl rfl) ?_)); refine zN (zT (zS (XA.condT rfl (by first | rfl | exact decide_eq_true (by omega)) ?_))); refine XA.skip (zT (zS (XA.block (zS (zR (zO rfl (Rd.ixS rfl rfl) ?_)))))); refine zO rfl (Rd.ldA rfl) ?_
    refine XOA.wr0 rfl (WrA.alloc (tyrow rfl)) ?_
    rintro _ _ _ ⟨g7, rfl, rfl, rfl⟩
    refine XOA.wr0 rfl (WrA.st (tyrow rfl) rfl) ?_
    rintro _ _ _ ⟨rfl, rfl, rfl⟩
    refine zN (zT ?_)
    refine XA.draw (by kernel_rfl) _ _ [6, 7] [(0, .pu), (1, .pu), (2, .rd), (3, .pu), (4, .rd), (5, .wr), (6, .wr), (7, .wr)] (by kernel_rfl) (PH.sub.refl _) (Ent.sel (R := blk g7 _ _) zL (Ent.nil _)) ?_
    refine XPA.pu rfl rfl Gd.free Rd.mv ?_; refine XPA.pu rfl rfl Gd.free (Rd.fA rfl) ?_; refine XPA.rd rfl rfl Gd.free (Rd.ldC rfl (tyrow rfl) rfl) ?_; refine XPA.pu rfl rfl Gd.free (Rd.fA rfl) ?_; refine XPA.rd rfl rfl Gd.free (Rd.ldC rfl (tyrow rfl) rfl) ?_
    refine XPA.wr0 rfl rfl Gd.free (WrA.cE (itoa_i σ w.size (by omega) (by omega) hT) rfl) ?_
    rintro _ _ _ ⟨_, ⟨rfl, rfl, rfl⟩, rfl⟩
    refine stays (XPA.cl ?_)
    refine XPA.wrZ0 rfl rfl Gd.free (by kernel_rfl) (WrA.bs (fun _ _ => tyrow) rfl rfl rfl rfl rfl) ?_
    rintro _ _ _ ⟨g33, rfl, rfl, rfl⟩
    refine XPA.wrZ0 rfl rfl Gd.free (by kernel_rfl) (WrA.cE (hput g33) rfl) ?_
    rintro _ _ _ ⟨_, ⟨rfl, rfl, rfl⟩, rfl⟩
    refine XPA.cl ?_; refine XPA.nil ?_; refine DA.inb_normal (zT (zR (zO rfl zI ?_))); refine zA rfl ?_; refine zN (zT ?_)
    refine ⟨(Keep.upd (Keep.upd (Keep.updO (Keep.updO (Keep.updO (Keep.upd (Keep.upd (Keep.upd (Keep.upd (Keep.upd (Keep.updN (Keep.updO (Keep.upd (Keep.upd (Keep.upd (Keep.upd (Keep.hav (Keep.hav (Keep.refl _ _) rfl) rfl) rfl) rfl) rfl) rfl) rfl)) rfl) rfl) rfl) rfl) rfl) rfl) rfl) rfl) rfl) rfl), k + 1, _, zM, ?_, ⟨rfl, hlt, rfl⟩, (by omega)⟩
    · exact zE
  have e : pr.vars.take k = pr.vars := List.take_of_length_le (by omega)
  rw [e]
  refine zS (zR (zO rfl (Rd.lss rfl rfl) ?_)); refine zN (zT (zS (XA.condF rfl (by first | rfl | exact decide_eq_false (by omega)) ?_))); refine XA.exit (DA.thn_exit (DA.thn_exit (DA.inb_same (zT (zS (zS (zR (zV rfl rfl ?_)))))))); refine zB rfl rfl (tyrow rfl) rfl ?_
  refine zO rfl (Rd.lenSlice (tyrow rfl) rfl rfl) ?_; refine zA rfl ?_; refine zN (zT (XA.block ?_))
  refine XA.gen [(2, _), (3, _), (5, _), (37, _), (38, _), (39, _)] ⟨(by with_reducible (conv => lhs; whnf)), (by with_reducible (conv => lhs; whnf)), (by with_reducible (conv => lhs; whnf)), (by with_reducible (conv => lhs; whnf)), (by with_reducible (conv => lhs; whnf)), (by with_reducible (conv => lhs; whnf)), trivial⟩ (fun δ => ?_)
  dsimp only [List.foldl]
  refine XA.loop [(9, 9), (39, 49)] (fun k : Nat => [(39, i64 k)]) (fun k σ' Γ' => σ = σ' ∧ k ≤ pr.body.length ∧ Γ' = [Wri g19 (.slice pv pr.vars.length cv) (varsT pr.vars ++ bodyT pr.vars (pr.body.take k)), blk g3 [i64 0, i64 0] 30]) (fun k => pr.body.length - k) 0 (by exact ⟨rfl, trivial⟩) (Δ0 := _) ?_ (⟨rfl, Nat.zero_le _, by rw [List.take_zero, bodyT, ByteArray.append_empty]⟩) ?_
  · exact zE
  rintro k δ _ _ ⟨rfl, hk, rfl⟩
  dsimp only [ovr, List.foldl]
  have hk : k ≤ pr.body.length := hk
  by_cases hlt : k < pr.body.length
  · obtain ⟨x', hx'⟩ : ∃ x', pr.body[k]? = some x' := ⟨_, List.getElem?_eq_getElem hlt⟩
    obtain ⟨gg, o, row, rfl, hrx, hrl, hrow⟩ := hb.at hx'
    have hone := hrx.ones
    have hcut := bodyT_cut pr.vars hx'
    have hsn := bodyT_step pr.vars hx'
    have hm := List.mem_of_getElem? hx'
    have hrec := pst_w x' σ row g19 pv cv pr.vars (varsT pr.vars ++ bodyT pr.vars (pr.body.take k)) hrx hv (hok.mem x' hm) hT (by rw [ByteArray.size_append]; omega)
    have hput := fun g => put1 σ g19 (.slice pv pr.vars.length cv) (varsT pr.vars ++ bodyT pr.vars (pr.body.take k) ++ stT pr.vars x') g 1 nl1 (by simp only [ByteArray.size_append, show nl1.size = 1 from rfl]; omega)
    have e3 : varsT pr.vars ++ bodyT pr.vars (pr.body.take k) ++ stT pr.vars x' ++ nl1 = varsT pr.vars ++ bodyT pr.vars (pr.body.take (k + 1)) := by rw [hsn]; simp only [ByteArray.append_assoc]
    rw [e3] at hput
    refine zS (zR (zO rfl (Rd.lss rfl rfl) ?_)); refine zN (zT (zS (XA.condT rfl (by first | rfl | exact decide_eq_true (by omega)) ?_))); refine XA.skip (zT (zS (XA.block (zS (zR (zO rfl (Rd.ixS rfl rfl) ?_)))))); refine zO rfl (Rd.ldA rfl) ?_
    refine XOA.wr0 rfl (WrA.alloc (tyrow rfl)) ?_
    rintro _ _ _ ⟨g9, rfl, rfl, rfl⟩
    refine XOA.wr0 rfl (WrA.st (tyrow rfl) rfl) ?_
    rintro _ _ _ ⟨rfl, rfl, rfl⟩
    refine zN (zT (zS (zR (zA rfl ?_)))); refine zO rfl (Rd.ldA rfl) ?_
    refine XOA.wr0 rfl (WrA.cE (hrec) rfl) ?_
    rintro _ _ _ ⟨_, ⟨rfl, rfl, rfl⟩, rfl⟩
    refine XOA.cl ?_; refine zN (zT (zR (zA rfl ?_)))
    refine XOA.wr0 rfl (WrA.bs1 (tyrow rfl) rfl (tyrow rfl)) ?_
    rintro _ _ _ ⟨g47, rfl, rfl, rfl⟩
    refine XOA.wr0 rfl (WrA.cE (hput g47) rfl) ?_
    rintro _ _ _ ⟨_, ⟨rfl, rfl, rfl⟩, rfl⟩
    refine XOA.cl ?_; refine zN (DA.inb_normal (zT (zR (zO rfl zI ?_)))); refine zA rfl ?_; refine zN (zT ?_)
    refine ⟨(Keep.upd (Keep.upd (Keep.updO (Keep.updO (Keep.upd (Keep.updO (Keep.upd (Keep.upd (Keep.updN (Keep.updO (Keep.upd (Keep.upd (Keep.upd (Keep.upd (Keep.hav (Keep.hav (Keep.refl _ _) rfl) rfl) rfl) rfl) rfl) rfl) rfl)) rfl) rfl) rfl) rfl) rfl) rfl) rfl) rfl), k + 1, _, zM, ?_, ⟨rfl, hlt, rfl⟩, (by omega)⟩
    · exact zE
  have e : pr.body.take k = pr.body := List.take_of_length_le (by omega)
  rw [e]
  have hT2 : varsT pr.vars ++ bodyT pr.vars pr.body = prT pr := rfl
  rw [hT2]
  refine zS (zR (zO rfl (Rd.lss rfl rfl) ?_)); refine zN (zT (zS (XA.condF rfl (by first | rfl | exact decide_eq_false (by omega)) ?_))); refine XA.exit (DA.thn_exit (DA.thn_exit (DA.inb_same (zT (zS (zS (zR (zA rfl ?_)))))))); refine zO rfl (Rd.nilCheck rfl) ?_; refine zV rfl rfl ?_
  refine XOA.wr0 rfl (WrA.cE (len_b σ 65 g19 _ (prT pr)) rfl) ?_
  rintro _ _ _ ⟨_, ⟨rfl, rfl, rfl⟩, rfl⟩
  refine XOA.cl ?_; refine zO rfl (Rd.gtr rfl rfl) ?_; refine zN (zT ?_)
  by_cases h6 : 6000 < (prT pr).size
  · have e : printP pr = .error (3, -1) := by rw [printP, if_neg hc, if_pos h6]
    rw [e]
    refine XA.condT rfl (by first | rfl | exact decide_eq_true (by omega)) ?_; refine zS (zR ?_)
    refine zO rfl (Rd.bl (fun _ _ => tyrow) rfl rfl rfl) ?_
    refine zO rfl Rd.asg ?_
    refine XOA.wr0 rfl (WrA.st (tyrow rfl) rfl) ?_
    rintro _ _ _ ⟨rfl, rfl, rfl⟩
    refine zN (zT (XA.ret (DA.thn_ret ?_)))
    exact bodyA.ret (ResA.tcT rfl rfl rfl (Ld.atBlk (tyrow rfl) rfl zL rfl (by first | exact take0 (by first | rfl | assumption | (refine (ints_len _).trans ?_; assumption) | (simp [*]; (first | done | fail))) | assumption | exact take_app (by first | rfl | assumption | (refine (ints_len _).trans ?_; assumption) | (simp [*]; (first | done | fail))) | (conv => lhs; simp only [List.drop_succ_cons, List.drop_zero, List.take_succ_cons, List.take_zero])) (by first | rfl | assumption | (refine (ints_len _).trans ?_; assumption) | (simp [*]; (first | done | fail))))) (Ent.nil _) ⟨rfl, rfl, rfl⟩
  · have e : printP pr = .ok (prT pr) := by rw [printP, if_neg hc, if_neg h6]
    rw [e]
    refine XA.condF rfl (by first | rfl | exact decide_eq_false (by omega)) ?_; refine XA.skip (zT (zS (zR (zA rfl ?_)))); refine zO rfl (Rd.nilCheck rfl) ?_; refine zV rfl rfl ?_
    refine XOA.wr0 rfl (WrA.cE (string_b σ 65 g19 _ (prT pr)) rfl) ?_
    rintro _ _ _ ⟨_, ⟨rfl, rfl, q, sl, rfl⟩, rfl⟩
    refine XOA.cl ?_
    refine zO rfl (Rd.bl (fun _ _ => tyrow) rfl rfl rfl) ?_
    refine zO rfl Rd.asg ?_
    refine XOA.wr0 rfl (WrA.st (tyrow rfl) rfl) ?_
    rintro _ _ _ ⟨rfl, rfl, rfl⟩
    refine zN (zT (XA.ret ?_))
    exact bodyA.ret (ResA.tcT rfl rfl rfl (Ld.atBlk (tyrow rfl) rfl zL rfl (by first | exact take0 (by first | rfl | assumption | (refine (ints_len _).trans ?_; assumption) | (simp [*]; (first | done | fail))) | assumption | exact take_app (by first | rfl | assumption | (refine (ints_len _).trans ?_; assumption) | (simp [*]; (first | done | fail))) | (conv => lhs; simp only [List.drop_succ_cons, List.drop_zero, List.take_succ_cons, List.take_zero])) (by first | rfl | assumption | (refine (ints_len _).trans ?_; assumption) | (simp [*]; (first | done | fail))))) (Ent.nil _) ⟨rfl, rfl, rfl⟩
end Go.Proofs.YthefnnkmpcgcmaaDoor

namespace Go.Proofs.YthefnnkmpcgcmaaDoor
open Go X
set_option maxHeartbeats 1000000
theorem toks_z (vl : List Va) (z : ByteArray) (x : Ex) : toks (exPc vl z x) = toks (exPc vl noB x) := by cases x; rfl
theorem toks_zs (vl : List Va) (z : ByteArray) (x : St) : toks (stPc vl z x) = toks (stPc vl noB x) := by cases x; rfl
theorem toks_cons (p : ByteArray × Tk) (r : Pc) : toks (p :: r) = p.2 :: toks r := rfl
theorem toks_nil : toks [] = [] := rfl
theorem isT_tkW (w v : ByteArray) (r : List Tk) : isT w (tkW v :: r) = decide (v = w) := by
  show (!false && decide (v = w)) = _; simp
theorem pick_word {op : Int} (h : 1 ≤ op ∧ op ≤ 8) (r : List Tk) : pickT wordOf 8 (tkW (wordOf op) :: r) = some op.toNat := by
  have hop : op = 1 ∨ op = 2 ∨ op = 3 ∨ op = 4 ∨ op = 5 ∨ op = 6 ∨ op = 7 ∨ op = 8 := by omega
  rcases hop with rfl | rfl | rfl | rfl | rfl | rfl | rfl | rfl <;> rfl
theorem pick_verb {op : Int} (h : 1 ≤ op ∧ op ≤ 7) (r : List Tk) : pickT verbOf 7 (tkW (verbOf op) :: r) = some op.toNat := by
  have hop : op = 1 ∨ op = 2 ∨ op = 3 ∨ op = 4 ∨ op = 5 ∨ op = 6 ∨ op = 7 := by omega
  rcases hop with rfl | rfl | rfl | rfl | rfl | rfl | rfl <;> rfl
/-- The names are found again. -/
def Found (vl : List Va) : Prop := ∀ v : Int, 0 ≤ v → v < vl.length → nameOk (nameAt vl v) = true ∧ idxG (nameAt vl v) vl 0 = some v.toNat
theorem idxG_at {s : ByteArray} : ∀ (l : List Va) (k j : Nat) (w : Va), l[k]? = some w → w.name = s → (∀ i x, i < k → l[i]? = some x → x.name ≠ s) → idxG s l j = some (j + k)
  | [], k, j, w, h, _, _ => by simp at h
  | v :: l, 0, j, w, h, hs, _ => by
    simp only [List.getElem?_cons_zero, Option.some.injEq] at h
    subst h
    rw [idxG, if_pos hs]; rfl
  | v :: l, k + 1, j, w, h, hs, hne => by
    have h0 := hne 0 v (by omega) rfl
    rw [idxG, if_neg h0, idxG_at l k (j + 1) w (by simpa using h) hs (fun i x hi hx => hne (i + 1) x (by omega) (by simpa using hx))]
    congr 1; omega
theorem found_of {p : Pr} (h : PrW p) : Found p.vars := fun v h0 h1 => by
  have hk : v.toNat < p.vars.length := by omega
  have hg : p.vars[v.toNat]? = some p.vars[v.toNat] := List.getElem?_eq_getElem hk
  have hn : nameAt p.vars v = p.vars[v.toNat].name := by rw [nameAt, hg]; rfl
  rw [hn]
  refine ⟨(h.names _ (List.getElem_mem hk)).1, ?_⟩
  rw [idxG_at p.vars v.toNat 0 _ hg rfl (fun i x hi hx => ?_), Nat.zero_add]
  have hi' : i < p.vars.length := by omega
  rw [List.getElem?_eq_getElem hi'] at hx
  cases hx
  exact List.pairwise_iff_getElem.1 h.apart i v.toNat hi' hk hi
theorem varP_at {vl : List Va} (hf : Found vl) {e v : Int} (h0 : 0 ≤ v) (h1 : v < vl.length) (R : List Tk) : varP vl e (tkW (nameAt vl v) :: R) = .ok (v, R) := by
  obtain ⟨a, b⟩ := hf v h0 h1
  rw [varP]
  rw [show (tkW (nameAt vl v)).text = nameAt vl v from rfl, if_pos a, b]
  simp only
  rw [Int.toNat_of_nonneg h0]
theorem headP_at {vl : List Va} (hf : Found vl) {e op v n : Int} (hop : 1 ≤ op ∧ op ≤ 8) (hv : op = 2 ∨ op = 3 → 0 ≤ v ∧ v < vl.length) (hv0 : ¬ (op = 2 ∨ op = 3) → v = 0) (hn : n ≠ 0 → op = 1) (R : List Tk) : headP vl e op.toNat (toks (headPc vl op v n) ++ R) = .ok ((v, n), R) := by
  rw [headP, headPc]
  by_cases h1 : op = 1
  · rw [if_pos (by omega), if_pos h1, hv0 (by omega)]; rfl
  · have hn0 : n = 0 := Decidable.byContradiction fun q => h1 (hn q)
    rw [if_neg (by omega), if_neg h1]
    by_cases h2 : op = 2 ∨ op = 3
    · obtain ⟨a, b⟩ := hv h2
      rw [if_pos (by omega), if_pos h2, toks_cons, toks_nil, List.singleton_append, varP_at hf a b, hn0]
    · rw [if_neg (by omega), if_neg h2, hv0 h2, hn0]; rfl
theorem subsA_at {vl : List Va} {E : List Tk → PR Ex} : ∀ (l : List Ex) (acc : List Ex) (R : List Tk), (∀ x ∈ l, ∀ R, E (toks (exPc vl noB x) ++ R) = .ok (x, R)) → subsA E l.length (toks (exsPc vl l) ++ R) acc = .ok (acc ++ l, R)
  | [], acc, R, _ => by rw [exsPc, toks_nil, List.nil_append, List.append_nil]; rfl
  | x :: l, acc, R, h => by
    rw [exsPc, toks_app, toks_z, List.append_assoc, List.length_cons, subsA, h x (by simp)]
    simp only
    rw [subsA_at l _ R (fun y hy => h y (by simp [hy])), List.append_assoc]; rfl
theorem closeP_at {α : Type} {e : Int} (x : α) (R : List Tk) : closeP e x (tkW rpar :: R) = .ok (x, R) := by
  rw [closeP, isT_tkW, decide_eq_true rfl, if_pos rfl]; rfl
theorem exprP_at {vl : List Va} (hf : Found vl) {e : Int} (x : Ex) : ∀ (deep : Int) (f : Nat), (f : Int) + deep = 13 → ExW vl.length deep x → ∀ R, exprP vl e f (toks (exPc vl noB x) ++ R) = .ok (x, R) := by
  refine Ex.ind (P := fun x => ∀ (deep : Int) (f : Nat), (f : Int) + deep = 13 → ExW vl.length deep x → ∀ R, exprP vl e f (toks (exPc vl noB x) ++ R) = .ok (x, R)) ?_ x
  intro op v n l ih deep f hf13 hw R
  rw [ExW] at hw
  obtain ⟨h1, h2, h3, h4, h5, h6, h7⟩ := hw
  obtain ⟨g, rfl⟩ : ∃ g, f = g + 1 := ⟨f - 1, by omega⟩
  have hto : ((op.toNat : Nat) : Int) = op := by omega
  rw [exPc, toks_cons, toks_cons, toks_app, toks_app, toks_cons, toks_nil]
  simp only [List.cons_append, List.append_assoc, List.nil_append]
  rw [exprP, isT_tkW, decide_eq_true rfl, if_pos rfl, List.tail_cons, pick_word h2]
  simp only
  rw [List.tail_cons, headP_at hf h2 h4 h5 h6]
  simp only
  have hp : (partsOf ((op.toNat : Nat) : Int)).toNat = l.length := by rw [hto, ← h3]; rfl
  rw [hp, subsA_at l [] _ (fun x hx R => ih x hx (deep + 1) g (by omega) (h7.mem x hx) R)]
  simp only
  rw [closeP_at, hto]; rfl
theorem optP_at {α : Type} {b : Bool} {z x : α} {a : List Tk → PR α} {q : Pc} {R : List Tk} (h1 : b = true → a (toks q ++ R) = .ok (x, R)) (h2 : b = false → x = z) : optP b z a (toks (optPc b q) ++ R) = .ok (x, R) := by
  cases b with
  | true => exact h1 rfl
  | false => rw [h2 rfl]; rfl
theorem stPc_head (vl : List Va) (z : ByteArray) (x : St) : ∃ r, toks (stPc vl z x) = tkW lpar :: r := by cases x; exact ⟨_, rfl⟩
theorem listG_at {vl : List Va} {S : List Tk → PR St} : ∀ (l : List St) (z : ByteArray) (g : Nat) (acc : List St) (R : List Tk), l.length < g → (∀ x ∈ l, ∀ R, S (toks (stPc vl noB x) ++ R) = .ok (x, R)) → listG S g (toks (stsPc vl z l) ++ tkW rpar :: R) acc = .ok (acc ++ l, R)
  | [], z, g, acc, R, hg, _ => by
    obtain ⟨g, rfl⟩ : ∃ k, g = k + 1 := ⟨g - 1, by omega⟩
    rw [stsPc, toks_nil, List.nil_append, listG, isT_tkW, decide_eq_true rfl, if_pos rfl, List.append_nil]; rfl
  | x :: l, z, g, acc, R, hg, h => by
    obtain ⟨g, rfl⟩ : ∃ k, g = k + 1 := ⟨g - 1, by omega⟩
    simp only [List.length_cons] at hg
    obtain ⟨r, hr⟩ := stPc_head vl noB x
    have hx := h x (by simp) (toks (stsPc vl sp1 l) ++ tkW rpar :: R)
    rw [stsPc, toks_app, toks_zs, List.append_assoc]
    rw [hr] at hx ⊢
    rw [listG, List.cons_append, isT_tkW, if_neg (by decide), ← List.cons_append, hx]
    simp only
    rw [listG_at l sp1 g _ R (by omega) (fun y hy => h y (by simp [hy])), List.append_assoc]; rfl
theorem stsPc_len (vl : List Va) : ∀ (l : List St) (z : ByteArray), l.length ≤ (toks (stsPc vl z l)).length
  | [], z => Nat.zero_le _
  | x :: l, z => by
    obtain ⟨r, hr⟩ := stPc_head vl z x
    have := stsPc_len vl l sp1
    rw [stsPc, toks_app, hr, List.length_append, List.length_cons, List.length_cons]; omega
theorem listP_at {vl : List Va} {S : List Tk → PR St} {e : Int} (l : List St) (R : List Tk) (h : ∀ x ∈ l, ∀ R, S (toks (stPc vl noB x) ++ R) = .ok (x, R)) : listP S e (toks ((sp1, tkW lpar) :: (stsPc vl noB l ++ [(noB, tkW rpar)])) ++ R) = .ok (l, R) := by
  rw [toks_cons, toks_app, toks_cons, toks_nil]
  simp only [List.cons_append, List.append_assoc, List.nil_append]
  rw [listP, isT_tkW, decide_eq_true rfl, if_pos rfl, List.tail_cons, listG_at l noB _ [] R ?_ h, List.nil_append]
  have := stsPc_len vl l noB
  rw [List.length_append]; omega
theorem stmtP_at {vl : List Va} (hf : Found vl) {e : Int} (x : St) : ∀ (deep : Int) (f : Nat), (f : Int) + deep = 13 → StW vl.length deep x → ∀ R, stmtP vl e f (toks (stPc vl noB x) ++ R) = .ok (x, R) := by
  refine St.ind (P := fun x => ∀ (deep : Int) (f : Nat), (f : Int) + deep = 13 → StW vl.length deep x → ∀ R, stmtP vl e f (toks (stPc vl noB x) ++ R) = .ok (x, R)) ?_ x
  intro op v ex fx body els ih jh deep f hf13 hw R
  rw [StW] at hw
  obtain ⟨h1, h2, h3, h4, h5, h6, h7, h8, h9, h10, h11, h12⟩ := hw
  obtain ⟨g, rfl⟩ : ∃ g, f = g + 1 := ⟨f - 1, by omega⟩
  have hto : ((op.toNat : Nat) : Int) = op := by omega
  rw [stPc, toks_cons, toks_cons, toks_app, toks_app, toks_app, toks_app, toks_app, toks_cons, toks_nil]
  simp only [List.cons_append, List.append_assoc, List.nil_append]
  rw [stmtP, isT_tkW, decide_eq_true rfl, if_pos rfl, List.tail_cons, pick_verb h2]
  simp only
  rw [List.tail_cons, hto]
  rw [optP_at (x := v) (fun q => by rw [toks_cons, toks_nil, List.singleton_append]; exact varP_at hf (h3 q).1 (h3 q).2 _) (fun q => h4 q)]
  rw [bindP, optP_at (x := ex) (fun q => by rw [toks_z]; exact exprP_at hf ex (deep + 1) g (by omega) (h5 q) _) (fun q => h6 q)]
  rw [bindP, optP_at (x := fx) (fun q => by rw [toks_z]; exact exprP_at hf fx (deep + 1) g (by omega) (h7 q) _) (fun q => h8 q)]
  rw [bindP, optP_at (x := body) (fun q => listP_at body _ (fun x hx R => ih x hx (deep + 1) g (by omega) (h11.mem x hx) R)) (fun q => h9 q)]
  rw [bindP, optP_at (x := els) (fun q => listP_at els _ (fun x hx R => jh x hx (deep + 1) g (by omega) (h12.mem x hx) R)) (fun q => h10 q)]
  rw [bindP]
  exact closeP_at _ R
theorem bodyG_at {vl : List Va} {S : List Tk → PR St} : ∀ (l : List St) (z : ByteArray) (g : Nat) (acc : List St), l.length < g → (∀ x ∈ l, ∀ R, S (toks (stPc vl noB x) ++ R) = .ok (x, R)) → bodyG S g (toks (bodyPc vl z l)) acc = .ok (acc ++ l, [])
  | [], z, g, acc, hg, _ => by
    obtain ⟨g, rfl⟩ : ∃ k, g = k + 1 := ⟨g - 1, by omega⟩
    rw [bodyPc, toks_nil, bodyG, if_pos (show ([] : List Tk).length = 0 from rfl), List.append_nil]
  | x :: l, z, g, acc, hg, h => by
    obtain ⟨g, rfl⟩ : ∃ k, g = k + 1 := ⟨g - 1, by omega⟩
    simp only [List.length_cons] at hg
    obtain ⟨r, hr⟩ := stPc_head vl noB x
    have hx := h x (by simp) (toks (bodyPc vl nl1 l))
    rw [bodyPc, toks_app, toks_zs]
    have hne : ¬ (toks (stPc vl noB x) ++ toks (bodyPc vl nl1 l)).length = 0 := by rw [hr, List.cons_append, List.length_cons]; omega
    rw [bodyG, if_neg hne, hx]
    simp only
    rw [bodyG_at l nl1 g _ (by omega) (fun y hy => h y (by simp [hy])), List.append_assoc]; rfl
theorem bodyPc_len (vl : List Va) : ∀ (l : List St) (z : ByteArray), l.length ≤ (toks (bodyPc vl z l)).length
  | [], z => Nat.zero_le _
  | x :: l, z => by
    obtain ⟨r, hr⟩ := stPc_head vl z x
    have := bodyPc_len vl l nl1
    rw [bodyPc, toks_app, hr, List.length_append, List.length_cons, List.length_cons]; omega
theorem letsG_at {e : Int} {R : List Tk} (hR : isT kwLet R = false) : ∀ (l : List Va) (z : ByteArray) (g : Nat) (acc : List Va), l.length < g → (∀ x ∈ l, nameOk x.name = true ∧ 1 ≤ x.size ∧ x.size ≤ 48) → letsG e g (toks (varsPc z l) ++ R) acc = .ok (acc ++ l, R)
  | [], z, g, acc, hg, _ => by
    obtain ⟨g, rfl⟩ : ∃ k, g = k + 1 := ⟨g - 1, by omega⟩
    rw [varsPc, toks_nil, List.nil_append, letsG, hR, List.append_nil]; rfl
  | x :: l, z, g, acc, hg, h => by
    obtain ⟨g, rfl⟩ : ∃ k, g = k + 1 := ⟨g - 1, by omega⟩
    simp only [List.length_cons] at hg
    obtain ⟨n1, n2, n3⟩ := h x (by simp)
    rw [varsPc, toks_app, varPc, toks_cons, toks_cons, toks_cons, toks_nil]
    simp only [List.cons_append, List.nil_append]
    rw [letsG, isT_tkW, decide_eq_true rfl, if_pos rfl, List.tail_cons, nameP]
    rw [show (tkW x.name).text = x.name from rfl, if_pos n1, bindP, numP, if_pos (show (tkN x.size).num = true from rfl), bindP]
    rw [show (tkN x.size).n = x.size from rfl, cutN, if_neg (by omega), letsG_at hR l nl1 g _ (by omega) (fun y hy => h y (by simp [hy])), List.append_assoc]; rfl
theorem varsPc_len : ∀ (l : List Va) (z : ByteArray), l.length ≤ (toks (varsPc z l)).length
  | [], z => Nat.zero_le _
  | x :: l, z => by
    have := varsPc_len l nl1
    rw [varsPc, toks_app, List.length_append, List.length_cons, varPc, toks_cons, List.length_cons]; omega
theorem bodyPc_let (vl : List Va) (l : List St) (z : ByteArray) : isT kwLet (toks (bodyPc vl z l)) = false := by
  cases l with
  | nil => rfl
  | cons x l =>
    obtain ⟨r, hr⟩ := stPc_head vl z x
    rw [bodyPc, toks_app, hr, List.cons_append, isT_tkW]; decide
theorem stmts_at {p : Pr} (h : PrW p) {e : Int} : ∀ x ∈ p.body, ∀ R, stmtP p.vars e 13 (toks (stPc p.vars noB x) ++ R) = .ok (x, R) := fun x hx R => stmtP_at (found_of h) x 0 13 (by decide) (h.body.mem x hx) R
theorem progP_at {p : Pr} (h : PrW p) {e : Int} : progP e (toks (prPc p)) = .ok (p, []) := by
  have hl := bodyPc_let p.vars p.body (endZ noB p.vars)
  have h1 := varsPc_len p.vars noB
  have h2 := bodyPc_len p.vars p.body (endZ noB p.vars)
  rw [progP, prPc, toks_app, letsG_at hl p.vars noB _ [] (by rw [List.length_append]; omega) h.names, bindP, List.nil_append]
  rw [bodyG_at p.body _ _ [] (by omega) (stmts_at h), bindP]
  rfl
/-- THERE AND BACK. -/
theorem print_back {p : Pr} {s : ByteArray} (hi : StsI p.body) (h : printP p = .ok s) : parseP s = .ok p := by
  rw [printP] at h
  split at h
  · cases h
  · split at h
    · cases h
    · rename_i hc h6
      cases h
      have hc : checkP p = 0 := Decidable.not_not.1 hc
      have hw := check_w hc
      obtain ⟨m, e1, e2⟩ := scan_print hw hi (by omega)
      obtain ⟨r', e3, -⟩ := progP_leads (e := (prT p).size) (e' := (prT p).size) e2 p [] (progP_at hw)
      rw [parseP, e1]
      simp only
      rw [e3]
      simp only
      rw [if_neg (by rw [hc]; exact fun h => h rfl)]
end Go.Proofs.YthefnnkmpcgcmaaDoor

namespace Go.Proofs.YthefnnkmpcgcmaaDoor
open Go X
set_option maxHeartbeats 4000000
end Go.Proofs.YthefnnkmpcgcmaaDoor

namespace Go.Proofs.YthefnnkmpcgcmaaDoor
open Go X
set_option maxHeartbeats 4000000
end Go.Proofs.YthefnnkmpcgcmaaDoor

namespace Go.Proofs.YthefnnkmpcgcmaaDoor
open Go X
set_option maxHeartbeats 4000000
end Go.Proofs.YthefnnkmpcgcmaaDoor

namespace Go.Proofs.YthefnnkmpcgcmaaDoor
open Go X
set_option maxHeartbeats 1000000
end Go.Proofs.YthefnnkmpcgcmaaDoor

namespace Go.Proofs.YthefnnkmpcgcmaaDoor
open Go X
set_option maxHeartbeats 2000000
def RSameListOK (σ : PH) (l : List St) : Prop := ∀ (sl sm : Value) (m : List St), PSl 12 StAt σ sl l → PSl 12 StAt σ sm m →
  CallsA Tryd.prog 32 #[sl, sm] σ [] (RetA fun v σ' Γ' => ∃ b : Bool, v = .bool b ∧ (b = true ↔ l = m) ∧ σ = σ' ∧ Γ' = [])
theorem rsameList_l (σ : PH) (l : List St) (ih : ∀ x ∈ l, RSameListOK σ x.body ∧ RSameListOK σ x.els) : RSameListOK σ l := by
  intro sl sm m hl hm
  obtain ⟨pl, cl, rfl, hle, hmx⟩ := hl.shape
  obtain ⟨pm, cm, rfl, hle2, hmx2⟩ := hm.shape
  have hlen : l.length ≤ maxLen := by omega
  simp only [maxLen] at hlen
  refine enterA2 Tryd.func32 rfl rfl rfl ?_
  refine zS (zR (zO rfl Rd.asg ?_)); refine zN (zT (zS (zS (zR (zA rfl ?_))))); refine zO rfl (Rd.lenSlice (tyrow rfl) rfl rfl) ?_; refine zA rfl ?_; refine zO rfl (Rd.lenSlice (tyrow rfl) rfl rfl) ?_; refine zO rfl (Rd.neq rfl rfl) ?_; refine zN (zT ?_)
  refine XA.condp rfl (fun hne => ?_) (fun hne => ?_)
  · refine zS ?_
    refine zR (zO rfl Rd.asg ?_); refine zN (zT (XA.ret (DA.thn_ret ?_)))
    exact bodyA.ret (ResA.one rfl rfl) zE ⟨false, rfl, ⟨fun h => (by cases h), fun h => absurd (by rw [h]) hne⟩, rfl, rfl⟩
  have hlm : l.length = m.length := by omega
  refine XA.skip (zT (zS (zS (zR (zO rfl Rd.asg ?_))))); refine zN (zT (XA.block ?_))
  refine XA.gen [(0, _), (1, _), (4, _), (5, _)] ⟨(by with_reducible (conv => lhs; whnf)), (by with_reducible (conv => lhs; whnf)), (by with_reducible (conv => lhs; whnf)), (by with_reducible (conv => lhs; whnf)), trivial⟩ (fun δ => ?_)
  dsimp only [List.foldl]
  refine XA.loop [(4, 5), (11, 96)] (fun k : Nat => [(5, i64 k)]) (fun k σ' Γ' => σ = σ' ∧ k ≤ l.length ∧ l.take k = m.take k ∧ Γ' = []) (fun k => l.length - k) 0 (by exact ⟨rfl, trivial⟩) (Δ0 := _) ?_ (⟨rfl, Nat.zero_le _, rfl, rfl⟩) ?_
  · exact zE
  rintro k δ _ _ ⟨rfl, hk, htk, rfl⟩
  dsimp only [ovr, List.foldl]
  refine zS (zS (zR (zA rfl ?_))); refine zA rfl ?_; refine zO rfl (Rd.lenSlice (tyrow rfl) rfl rfl) ?_; refine zO rfl (Rd.lss rfl rfl) ?_; refine zN (zT ?_)
  refine XA.condp rfl (fun hlt => ?_) (fun hlt => ?_)
  · have hlt : k < l.length := by omega
    obtain ⟨x, hx⟩ : ∃ x, l[k]? = some x := ⟨_, List.getElem?_eq_getElem hlt⟩
    obtain ⟨y, hy⟩ : ∃ y, m[k]? = some y := ⟨_, List.getElem?_eq_getElem (by omega)⟩
    obtain ⟨ihb, ihe⟩ := ih x (List.mem_of_getElem? hx)
    obtain ⟨g, o, row, rfl, hrx, hrl, hrow⟩ := hl.at hx
    obtain ⟨g', o', row', rfl, hry, hrl', hrow'⟩ := hm.at hy
    have hout : x ≠ y → ¬ l = m := fun h1 h2 => by
      subst h2
      rw [hx] at hy; simp only [Option.some.injEq] at hy
      exact h1 hy
    obtain ⟨op, v, ex, fx, body, els⟩ := x
    obtain ⟨op', v', ex', fx', body', els'⟩ := y
    obtain ⟨pe, de, pf, df, pb, cb, pl', cl', rfl, -, -, hxe, hxf, hxb, hxl⟩ := hrx.inv12
    obtain ⟨pe2, de2, pf2, df2, pb2, cb2, pl2, cl2, rfl, -, -, hye, hyf, hyb, hyl⟩ := hry.inv12
    simp only [St.op, St.v, St.e, St.f, St.body, St.els] at hxe hxf hxb hxl hrow hye hyf hyb hyl hrow' ihb ihe
    clear hrx hry hrl hrl'
    have r0 : PRow σ g (o + k * 12) [i64 op] := hrow.sub (j := 0) rfl
    have r1 : PRow σ g (o + k * 12 + 1) [i64 v] := hrow.sub (j := 1) rfl
    have r2 : PRow σ g (o + k * 12 + 2) [i64 ex.op, i64 ex.v, i64 ex.n, .slice pe ex.l.length de] := hrow.sub (j := 2) rfl
    have r6 : PRow σ g (o + k * 12 + 6) [i64 fx.op, i64 fx.v, i64 fx.n, .slice pf fx.l.length df] := hrow.sub (j := 6) rfl
    have r10 : PRow σ g (o + k * 12 + 10) [.slice pb body.length cb] := hrow.sub (j := 10) rfl
    have r11 : PRow σ g (o + k * 12 + 11) [.slice pl' els.length cl'] := hrow.sub (j := 11) rfl
    have s0 : PRow σ g' (o' + k * 12) [i64 op'] := hrow'.sub (j := 0) rfl
    have s1 : PRow σ g' (o' + k * 12 + 1) [i64 v'] := hrow'.sub (j := 1) rfl
    have s2 : PRow σ g' (o' + k * 12 + 2) [i64 ex'.op, i64 ex'.v, i64 ex'.n, .slice pe2 ex'.l.length de2] := hrow'.sub (j := 2) rfl
    have s6 : PRow σ g' (o' + k * 12 + 6) [i64 fx'.op, i64 fx'.v, i64 fx'.n, .slice pf2 fx'.l.length df2] := hrow'.sub (j := 6) rfl
    have s10 : PRow σ g' (o' + k * 12 + 10) [.slice pb2 body'.length cb2] := hrow'.sub (j := 10) rfl
    have s11 : PRow σ g' (o' + k * 12 + 11) [.slice pl2 els'.length cl2] := hrow'.sub (j := 11) rfl
    clear hrow hrow'
    refine XA.skip (zT (zS (XA.block (zS ?_))))
    by_cases h1 : op = op'
    · by_cases h2 : v = v'
      · 
        refine XA.draw (by kernel_rfl) _ _ [] [(0, .pu), (1, .pu), (2, .pu), (3, .pu), (4, .rd), (5, .pu), (6, .pu), (7, .pu), (8, .pu), (9, .rd), (10, .pu), (11, .pu), (12, .pu), (13, .pu), (14, .pu), (15, .pu), (16, .rd), (17, .pu), (18, .pu), (19, .pu), (20, .pu), (21, .rd), (22, .pu), (23, .pu), (24, .pu), (25, .pu), (26, .pu), (27, .pu), (28, .pu), (29, .rd), (30, .pu), (31, .pu), (32, .pu), (33, .pu), (34, .rd), (35, .wr), (36, .pu), (37, .pu), (38, .pu), (39, .pu), (40, .pu), (41, .pu), (42, .pu), (43, .rd), (44, .pu), (45, .pu), (46, .pu), (47, .pu), (48, .rd), (49, .wr), (50, .pu), (51, .pu), (52, .pu), (53, .pu), (54, .pu), (55, .pu), (56, .pu), (57, .rd), (58, .pu), (59, .pu), (60, .pu), (61, .pu), (62, .rd), (63, .wr), (64, .pu), (65, .pu), (66, .pu), (67, .pu), (68, .pu), (69, .pu), (70, .pu), (71, .rd), (72, .pu), (73, .pu), (74, .pu), (75, .pu), (76, .rd), (77, .wr), (78, .pu), (79, .pu)] (by kernel_rfl) (PH.sub.refl _) (Ent.nil _) ?_
        refine XPA.pu rfl rfl Gd.free Rd.mv ?_; refine XPA.pu rfl rfl Gd.free Rd.mv ?_; refine XPA.pu rfl rfl Gd.free (Rd.ixS rfl rfl) ?_; refine XPA.pu rfl rfl Gd.free (Rd.fA rfl) ?_; refine XPA.rd rfl rfl Gd.free (Rd.ldC rfl (tyrow rfl) rfl) ?_; refine XPA.pu rfl rfl Gd.free Rd.mv ?_
        refine XPA.pu rfl rfl Gd.free Rd.mv ?_; refine XPA.pu rfl rfl Gd.free (Rd.ixS rfl rfl) ?_; refine XPA.pu rfl rfl Gd.free (Rd.fA rfl) ?_; refine XPA.rd rfl rfl Gd.free (Rd.ldC rfl (tyrow rfl) rfl) ?_; refine XPA.pu rfl rfl Gd.free (Rd.neq rfl rfl) ?_; refine XPA.pu rfl rfl Gd.free Rd.mv ?_
        first | refine XPA.puG rfl rfl Rd.mv ?_ | refine XPA.puOffG rfl rfl ?_
        first | refine XPA.puG rfl rfl Rd.mv ?_ | refine XPA.puOffG rfl rfl ?_
        first | refine XPA.puG rfl rfl (Rd.ixS rfl rfl) ?_ | refine XPA.puOffG rfl rfl ?_
        first | refine XPA.puG rfl rfl (Rd.fA rfl) ?_ | refine XPA.puOffG rfl rfl ?_
        first | refine XPA.rdG rfl rfl (Rd.ldC rfl (tyrow rfl) rfl) ?_ | refine XPA.offG rfl rfl ?_
        first | refine XPA.puG rfl rfl Rd.mv ?_ | refine XPA.puOffG rfl rfl ?_
        first | refine XPA.puG rfl rfl Rd.mv ?_ | refine XPA.puOffG rfl rfl ?_
        first | refine XPA.puG rfl rfl (Rd.ixS rfl rfl) ?_ | refine XPA.puOffG rfl rfl ?_
        first | refine XPA.puG rfl rfl (Rd.fA rfl) ?_ | refine XPA.puOffG rfl rfl ?_
        first | refine XPA.rdG rfl rfl (Rd.ldC rfl (tyrow rfl) rfl) ?_ | refine XPA.offG rfl rfl ?_
        first | refine XPA.puG rfl rfl (Rd.neq rfl rfl) ?_ | refine XPA.puOffG rfl rfl ?_
        refine XPA.pu rfl rfl Gd.free zP ?_; refine XPA.pu rfl rfl Gd.free Rd.mv ?_
        first | refine XPA.puG rfl rfl Rd.mv ?_ | refine XPA.puOffG rfl rfl ?_
        first | refine XPA.puG rfl rfl Rd.mv ?_ | refine XPA.puOffG rfl rfl ?_
        first | refine XPA.puG rfl rfl (Rd.ixS rfl rfl) ?_ | refine XPA.puOffG rfl rfl ?_
        first | refine XPA.puG rfl rfl (Rd.fA rfl) ?_ | refine XPA.puOffG rfl rfl ?_
        first | refine XPA.rdG rfl rfl (Rd.ldA rfl) ?_ | refine XPA.offG rfl rfl ?_
        first | refine XPA.puG rfl rfl Rd.mv ?_ | refine XPA.puOffG rfl rfl ?_
        first | refine XPA.puG rfl rfl Rd.mv ?_ | refine XPA.puOffG rfl rfl ?_
        first | refine XPA.puG rfl rfl (Rd.ixS rfl rfl) ?_ | refine XPA.puOffG rfl rfl ?_
        first | refine XPA.puG rfl rfl (Rd.fA rfl) ?_ | refine XPA.puOffG rfl rfl ?_
        first | refine XPA.rdG rfl rfl (Rd.ldA rfl) ?_ | refine XPA.offG rfl rfl ?_
        refine XPA.wr0 rfl rfl (by first | exact Gd.free | exact Gd.isB rfl rfl rfl | (apply Gd.isQ; rfl; rfl; exact (by first | exact (rfl : decide _ = true) | exact (rfl : decide _ = false) | (refine decide_eq_true ?_; assumption) | (refine decide_eq_false ?_; assumption) | (refine decide_eq_true ?_; omega) | (refine decide_eq_false ?_; omega)); rfl)) (WrA.cE (rsameExpr_a σ ex _ _ ex' hxe hye) rfl) ?_
        rintro _ _ _ ⟨_, ⟨b1, rfl, hb1, rfl, rfl⟩, rfl⟩
        refine stays (XPA.cl ?_)
        cases b1 with
        | false =>
          have hn := hout (fun h => absurd (hb1.2 (by injection h)) (by decide))
          first | refine XPA.puG rfl rfl zJ ?_ | refine XPA.puOffG rfl rfl ?_
          refine XPA.pu rfl rfl Gd.free zP ?_; refine XPA.pu rfl rfl Gd.free Rd.mv ?_
          first | refine XPA.puG rfl rfl Rd.mv ?_ | refine XPA.puOffG rfl rfl ?_
          first | refine XPA.puG rfl rfl Rd.mv ?_ | refine XPA.puOffG rfl rfl ?_
          first | refine XPA.puG rfl rfl (Rd.ixS rfl rfl) ?_ | refine XPA.puOffG rfl rfl ?_
          first | refine XPA.puG rfl rfl (Rd.fA rfl) ?_ | refine XPA.puOffG rfl rfl ?_
          first | refine XPA.rdG rfl rfl (Rd.ldA rfl) ?_ | refine XPA.offG rfl rfl ?_
          first | refine XPA.puG rfl rfl Rd.mv ?_ | refine XPA.puOffG rfl rfl ?_
          first | refine XPA.puG rfl rfl Rd.mv ?_ | refine XPA.puOffG rfl rfl ?_
          first | refine XPA.puG rfl rfl (Rd.ixS rfl rfl) ?_ | refine XPA.puOffG rfl rfl ?_
          first | refine XPA.puG rfl rfl (Rd.fA rfl) ?_ | refine XPA.puOffG rfl rfl ?_
          first | refine XPA.rdG rfl rfl (Rd.ldA rfl) ?_ | refine XPA.offG rfl rfl ?_
          first | refine XPA.off rfl rfl (by first | exact Gd.isB rfl rfl rfl | exact Gd.un rfl rfl | (apply Gd.isQ; rfl; rfl; exact (by first | exact (rfl : decide _ = true) | exact (rfl : decide _ = false) | (refine decide_eq_true ?_; assumption) | (refine decide_eq_false ?_; assumption) | (refine decide_eq_true ?_; omega) | (refine decide_eq_false ?_; omega)); rfl)) ?_ | refine XPA.puOff rfl rfl (by first | exact Gd.isB rfl rfl rfl | exact Gd.un rfl rfl | (apply Gd.isQ; rfl; rfl; exact (by first | exact (rfl : decide _ = true) | exact (rfl : decide _ = false) | (refine decide_eq_true ?_; assumption) | (refine decide_eq_false ?_; assumption) | (refine decide_eq_true ?_; omega) | (refine decide_eq_false ?_; omega)); rfl)) ?_ | refine XPA.offW rfl rfl (by first | exact Gd.isB rfl rfl rfl | exact Gd.un rfl rfl | (apply Gd.isQ; rfl; rfl; exact (by first | exact (rfl : decide _ = true) | exact (rfl : decide _ = false) | (refine decide_eq_true ?_; assumption) | (refine decide_eq_false ?_; assumption) | (refine decide_eq_true ?_; omega) | (refine decide_eq_false ?_; omega)); rfl)) ?_
          first | refine XPA.puG rfl rfl zJ ?_ | refine XPA.puOffG rfl rfl ?_
          refine XPA.pu rfl rfl Gd.free zP ?_; refine XPA.pu rfl rfl Gd.free Rd.mv ?_
          first | refine XPA.puG rfl rfl Rd.mv ?_ | refine XPA.puOffG rfl rfl ?_
          first | refine XPA.puG rfl rfl Rd.mv ?_ | refine XPA.puOffG rfl rfl ?_
          first | refine XPA.puG rfl rfl (Rd.ixS rfl rfl) ?_ | refine XPA.puOffG rfl rfl ?_
          first | refine XPA.puG rfl rfl (Rd.fA rfl) ?_ | refine XPA.puOffG rfl rfl ?_
          first | refine XPA.rdG rfl rfl (Rd.ldC rfl (tyrow rfl) rfl) ?_ | refine XPA.offG rfl rfl ?_
          first | refine XPA.puG rfl rfl Rd.mv ?_ | refine XPA.puOffG rfl rfl ?_
          first | refine XPA.puG rfl rfl Rd.mv ?_ | refine XPA.puOffG rfl rfl ?_
          first | refine XPA.puG rfl rfl (Rd.ixS rfl rfl) ?_ | refine XPA.puOffG rfl rfl ?_
          first | refine XPA.puG rfl rfl (Rd.fA rfl) ?_ | refine XPA.puOffG rfl rfl ?_
          first | refine XPA.rdG rfl rfl (Rd.ldC rfl (tyrow rfl) rfl) ?_ | refine XPA.offG rfl rfl ?_
          first | refine XPA.off rfl rfl (by first | exact Gd.isB rfl rfl rfl | exact Gd.un rfl rfl | (apply Gd.isQ; rfl; rfl; exact (by first | exact (rfl : decide _ = true) | exact (rfl : decide _ = false) | (refine decide_eq_true ?_; assumption) | (refine decide_eq_false ?_; assumption) | (refine decide_eq_true ?_; omega) | (refine decide_eq_false ?_; omega)); rfl)) ?_ | refine XPA.puOff rfl rfl (by first | exact Gd.isB rfl rfl rfl | exact Gd.un rfl rfl | (apply Gd.isQ; rfl; rfl; exact (by first | exact (rfl : decide _ = true) | exact (rfl : decide _ = false) | (refine decide_eq_true ?_; assumption) | (refine decide_eq_false ?_; assumption) | (refine decide_eq_true ?_; omega) | (refine decide_eq_false ?_; omega)); rfl)) ?_ | refine XPA.offW rfl rfl (by first | exact Gd.isB rfl rfl rfl | exact Gd.un rfl rfl | (apply Gd.isQ; rfl; rfl; exact (by first | exact (rfl : decide _ = true) | exact (rfl : decide _ = false) | (refine decide_eq_true ?_; assumption) | (refine decide_eq_false ?_; assumption) | (refine decide_eq_true ?_; omega) | (refine decide_eq_false ?_; omega)); rfl)) ?_
          first | refine XPA.puG rfl rfl zJ ?_ | refine XPA.puOffG rfl rfl ?_
          refine XPA.pu rfl rfl Gd.free zP ?_; refine XPA.pu rfl rfl Gd.free Rd.mv ?_
          first | refine XPA.puG rfl rfl Rd.mv ?_ | refine XPA.puOffG rfl rfl ?_
          first | refine XPA.puG rfl rfl Rd.mv ?_ | refine XPA.puOffG rfl rfl ?_
          first | refine XPA.puG rfl rfl (Rd.ixS rfl rfl) ?_ | refine XPA.puOffG rfl rfl ?_
          first | refine XPA.puG rfl rfl (Rd.fA rfl) ?_ | refine XPA.puOffG rfl rfl ?_
          first | refine XPA.rdG rfl rfl (Rd.ldC rfl (tyrow rfl) rfl) ?_ | refine XPA.offG rfl rfl ?_
          first | refine XPA.puG rfl rfl Rd.mv ?_ | refine XPA.puOffG rfl rfl ?_
          first | refine XPA.puG rfl rfl Rd.mv ?_ | refine XPA.puOffG rfl rfl ?_
          first | refine XPA.puG rfl rfl (Rd.ixS rfl rfl) ?_ | refine XPA.puOffG rfl rfl ?_
          first | refine XPA.puG rfl rfl (Rd.fA rfl) ?_ | refine XPA.puOffG rfl rfl ?_
          first | refine XPA.rdG rfl rfl (Rd.ldC rfl (tyrow rfl) rfl) ?_ | refine XPA.offG rfl rfl ?_
          first | refine XPA.off rfl rfl (by first | exact Gd.isB rfl rfl rfl | exact Gd.un rfl rfl | (apply Gd.isQ; rfl; rfl; exact (by first | exact (rfl : decide _ = true) | exact (rfl : decide _ = false) | (refine decide_eq_true ?_; assumption) | (refine decide_eq_false ?_; assumption) | (refine decide_eq_true ?_; omega) | (refine decide_eq_false ?_; omega)); rfl)) ?_ | refine XPA.puOff rfl rfl (by first | exact Gd.isB rfl rfl rfl | exact Gd.un rfl rfl | (apply Gd.isQ; rfl; rfl; exact (by first | exact (rfl : decide _ = true) | exact (rfl : decide _ = false) | (refine decide_eq_true ?_; assumption) | (refine decide_eq_false ?_; assumption) | (refine decide_eq_true ?_; omega) | (refine decide_eq_false ?_; omega)); rfl)) ?_ | refine XPA.offW rfl rfl (by first | exact Gd.isB rfl rfl rfl | exact Gd.un rfl rfl | (apply Gd.isQ; rfl; rfl; exact (by first | exact (rfl : decide _ = true) | exact (rfl : decide _ = false) | (refine decide_eq_true ?_; assumption) | (refine decide_eq_false ?_; assumption) | (refine decide_eq_true ?_; omega) | (refine decide_eq_false ?_; omega)); rfl)) ?_
          first | refine XPA.puG rfl rfl zJ ?_ | refine XPA.puOffG rfl rfl ?_
          refine XPA.pu rfl rfl Gd.free zP ?_; refine XPA.nil ?_; refine zT (XA.condT rfl rfl (zS (zR (zO rfl Rd.asg ?_)))); refine zN (zT (XA.ret (DA.inb_ret (DA.thn_ret (DA.thn_ret (DA.inb_ret (DA.thn_ret ?_)))))))
          exact bodyA.ret (ResA.one rfl rfl) (Ent.nil _) ⟨false, rfl, ⟨fun h => (by cases h), fun h => absurd h hn⟩, rfl, rfl⟩
        | true =>
          first | refine XPA.puG rfl rfl zJ ?_ | refine XPA.puOffG rfl rfl ?_
          refine XPA.pu rfl rfl Gd.free zP ?_; refine XPA.pu rfl rfl Gd.free Rd.mv ?_
          first | refine XPA.puG rfl rfl Rd.mv ?_ | refine XPA.puOffG rfl rfl ?_
          first | refine XPA.puG rfl rfl Rd.mv ?_ | refine XPA.puOffG rfl rfl ?_
          first | refine XPA.puG rfl rfl (Rd.ixS rfl rfl) ?_ | refine XPA.puOffG rfl rfl ?_
          first | refine XPA.puG rfl rfl (Rd.fA rfl) ?_ | refine XPA.puOffG rfl rfl ?_
          first | refine XPA.rdG rfl rfl (Rd.ldA rfl) ?_ | refine XPA.offG rfl rfl ?_
          first | refine XPA.puG rfl rfl Rd.mv ?_ | refine XPA.puOffG rfl rfl ?_
          first | refine XPA.puG rfl rfl Rd.mv ?_ | refine XPA.puOffG rfl rfl ?_
          first | refine XPA.puG rfl rfl (Rd.ixS rfl rfl) ?_ | refine XPA.puOffG rfl rfl ?_
          first | refine XPA.puG rfl rfl (Rd.fA rfl) ?_ | refine XPA.puOffG rfl rfl ?_
          first | refine XPA.rdG rfl rfl (Rd.ldA rfl) ?_ | refine XPA.offG rfl rfl ?_
          refine XPA.wr0 rfl rfl (by first | exact Gd.free | exact Gd.isB rfl rfl rfl | (apply Gd.isQ; rfl; rfl; exact (by first | exact (rfl : decide _ = true) | exact (rfl : decide _ = false) | (refine decide_eq_true ?_; assumption) | (refine decide_eq_false ?_; assumption) | (refine decide_eq_true ?_; omega) | (refine decide_eq_false ?_; omega)); rfl)) (WrA.cE (rsameExpr_a σ fx _ _ fx' hxf hyf) rfl) ?_
          rintro _ _ _ ⟨_, ⟨b2, rfl, hb2, rfl, rfl⟩, rfl⟩
          refine stays (XPA.cl ?_)
          cases b2 with
          | false =>
            have hn := hout (fun h => absurd (hb2.2 (by injection h)) (by decide))
            first | refine XPA.puG rfl rfl zJ ?_ | refine XPA.puOffG rfl rfl ?_
            refine XPA.pu rfl rfl Gd.free zP ?_; refine XPA.pu rfl rfl Gd.free Rd.mv ?_
            first | refine XPA.puG rfl rfl Rd.mv ?_ | refine XPA.puOffG rfl rfl ?_
            first | refine XPA.puG rfl rfl Rd.mv ?_ | refine XPA.puOffG rfl rfl ?_
            first | refine XPA.puG rfl rfl (Rd.ixS rfl rfl) ?_ | refine XPA.puOffG rfl rfl ?_
            first | refine XPA.puG rfl rfl (Rd.fA rfl) ?_ | refine XPA.puOffG rfl rfl ?_
            first | refine XPA.rdG rfl rfl (Rd.ldC rfl (tyrow rfl) rfl) ?_ | refine XPA.offG rfl rfl ?_
            first | refine XPA.puG rfl rfl Rd.mv ?_ | refine XPA.puOffG rfl rfl ?_
            first | refine XPA.puG rfl rfl Rd.mv ?_ | refine XPA.puOffG rfl rfl ?_
            first | refine XPA.puG rfl rfl (Rd.ixS rfl rfl) ?_ | refine XPA.puOffG rfl rfl ?_
            first | refine XPA.puG rfl rfl (Rd.fA rfl) ?_ | refine XPA.puOffG rfl rfl ?_
            first | refine XPA.rdG rfl rfl (Rd.ldC rfl (tyrow rfl) rfl) ?_ | refine XPA.offG rfl rfl ?_
            first | refine XPA.off rfl rfl (by first | exact Gd.isB rfl rfl rfl | exact Gd.un rfl rfl | (apply Gd.isQ; rfl; rfl; exact (by first | exact (rfl : decide _ = true) | exact (rfl : decide _ = false) | (refine decide_eq_true ?_; assumption) | (refine decide_eq_false ?_; assumption) | (refine decide_eq_true ?_; omega) | (refine decide_eq_false ?_; omega)); rfl)) ?_ | refine XPA.puOff rfl rfl (by first | exact Gd.isB rfl rfl rfl | exact Gd.un rfl rfl | (apply Gd.isQ; rfl; rfl; exact (by first | exact (rfl : decide _ = true) | exact (rfl : decide _ = false) | (refine decide_eq_true ?_; assumption) | (refine decide_eq_false ?_; assumption) | (refine decide_eq_true ?_; omega) | (refine decide_eq_false ?_; omega)); rfl)) ?_ | refine XPA.offW rfl rfl (by first | exact Gd.isB rfl rfl rfl | exact Gd.un rfl rfl | (apply Gd.isQ; rfl; rfl; exact (by first | exact (rfl : decide _ = true) | exact (rfl : decide _ = false) | (refine decide_eq_true ?_; assumption) | (refine decide_eq_false ?_; assumption) | (refine decide_eq_true ?_; omega) | (refine decide_eq_false ?_; omega)); rfl)) ?_
            first | refine XPA.puG rfl rfl zJ ?_ | refine XPA.puOffG rfl rfl ?_
            refine XPA.pu rfl rfl Gd.free zP ?_; refine XPA.pu rfl rfl Gd.free Rd.mv ?_
            first | refine XPA.puG rfl rfl Rd.mv ?_ | refine XPA.puOffG rfl rfl ?_
            first | refine XPA.puG rfl rfl Rd.mv ?_ | refine XPA.puOffG rfl rfl ?_
            first | refine XPA.puG rfl rfl (Rd.ixS rfl rfl) ?_ | refine XPA.puOffG rfl rfl ?_
            first | refine XPA.puG rfl rfl (Rd.fA rfl) ?_ | refine XPA.puOffG rfl rfl ?_
            first | refine XPA.rdG rfl rfl (Rd.ldC rfl (tyrow rfl) rfl) ?_ | refine XPA.offG rfl rfl ?_
            first | refine XPA.puG rfl rfl Rd.mv ?_ | refine XPA.puOffG rfl rfl ?_
            first | refine XPA.puG rfl rfl Rd.mv ?_ | refine XPA.puOffG rfl rfl ?_
            first | refine XPA.puG rfl rfl (Rd.ixS rfl rfl) ?_ | refine XPA.puOffG rfl rfl ?_
            first | refine XPA.puG rfl rfl (Rd.fA rfl) ?_ | refine XPA.puOffG rfl rfl ?_
            first | refine XPA.rdG rfl rfl (Rd.ldC rfl (tyrow rfl) rfl) ?_ | refine XPA.offG rfl rfl ?_
            first | refine XPA.off rfl rfl (by first | exact Gd.isB rfl rfl rfl | exact Gd.un rfl rfl | (apply Gd.isQ; rfl; rfl; exact (by first | exact (rfl : decide _ = true) | exact (rfl : decide _ = false) | (refine decide_eq_true ?_; assumption) | (refine decide_eq_false ?_; assumption) | (refine decide_eq_true ?_; omega) | (refine decide_eq_false ?_; omega)); rfl)) ?_ | refine XPA.puOff rfl rfl (by first | exact Gd.isB rfl rfl rfl | exact Gd.un rfl rfl | (apply Gd.isQ; rfl; rfl; exact (by first | exact (rfl : decide _ = true) | exact (rfl : decide _ = false) | (refine decide_eq_true ?_; assumption) | (refine decide_eq_false ?_; assumption) | (refine decide_eq_true ?_; omega) | (refine decide_eq_false ?_; omega)); rfl)) ?_ | refine XPA.offW rfl rfl (by first | exact Gd.isB rfl rfl rfl | exact Gd.un rfl rfl | (apply Gd.isQ; rfl; rfl; exact (by first | exact (rfl : decide _ = true) | exact (rfl : decide _ = false) | (refine decide_eq_true ?_; assumption) | (refine decide_eq_false ?_; assumption) | (refine decide_eq_true ?_; omega) | (refine decide_eq_false ?_; omega)); rfl)) ?_
            first | refine XPA.puG rfl rfl zJ ?_ | refine XPA.puOffG rfl rfl ?_
            refine XPA.pu rfl rfl Gd.free zP ?_; refine XPA.nil ?_; refine zT (XA.condT rfl rfl (zS (zR (zO rfl Rd.asg ?_)))); refine zN (zT (XA.ret (DA.inb_ret (DA.thn_ret (DA.thn_ret (DA.inb_ret (DA.thn_ret ?_)))))))
            exact bodyA.ret (ResA.one rfl rfl) (Ent.nil _) ⟨false, rfl, ⟨fun h => (by cases h), fun h => absurd h hn⟩, rfl, rfl⟩
          | true =>
            first | refine XPA.puG rfl rfl zJ ?_ | refine XPA.puOffG rfl rfl ?_
            refine XPA.pu rfl rfl Gd.free zP ?_; refine XPA.pu rfl rfl Gd.free Rd.mv ?_
            first | refine XPA.puG rfl rfl Rd.mv ?_ | refine XPA.puOffG rfl rfl ?_
            first | refine XPA.puG rfl rfl Rd.mv ?_ | refine XPA.puOffG rfl rfl ?_
            first | refine XPA.puG rfl rfl (Rd.ixS rfl rfl) ?_ | refine XPA.puOffG rfl rfl ?_
            first | refine XPA.puG rfl rfl (Rd.fA rfl) ?_ | refine XPA.puOffG rfl rfl ?_
            first | refine XPA.rdG rfl rfl (Rd.ldC rfl (tyrow rfl) rfl) ?_ | refine XPA.offG rfl rfl ?_
            first | refine XPA.puG rfl rfl Rd.mv ?_ | refine XPA.puOffG rfl rfl ?_
            first | refine XPA.puG rfl rfl Rd.mv ?_ | refine XPA.puOffG rfl rfl ?_
            first | refine XPA.puG rfl rfl (Rd.ixS rfl rfl) ?_ | refine XPA.puOffG rfl rfl ?_
            first | refine XPA.puG rfl rfl (Rd.fA rfl) ?_ | refine XPA.puOffG rfl rfl ?_
            first | refine XPA.rdG rfl rfl (Rd.ldC rfl (tyrow rfl) rfl) ?_ | refine XPA.offG rfl rfl ?_
            refine XPA.wr0 rfl rfl (by first | exact Gd.free | exact Gd.isB rfl rfl rfl | (apply Gd.isQ; rfl; rfl; exact (by first | exact (rfl : decide _ = true) | exact (rfl : decide _ = false) | (refine decide_eq_true ?_; assumption) | (refine decide_eq_false ?_; assumption) | (refine decide_eq_true ?_; omega) | (refine decide_eq_false ?_; omega)); rfl)) (WrA.cE (ihb _ _ body' hxb hyb) rfl) ?_
            rintro _ _ _ ⟨_, ⟨b3, rfl, hb3, rfl, rfl⟩, rfl⟩
            refine stays (XPA.cl ?_)
            cases b3 with
            | false =>
              have hn := hout (fun h => absurd (hb3.2 (by injection h)) (by decide))
              first | refine XPA.puG rfl rfl zJ ?_ | refine XPA.puOffG rfl rfl ?_
              refine XPA.pu rfl rfl Gd.free zP ?_; refine XPA.pu rfl rfl Gd.free Rd.mv ?_
              first | refine XPA.puG rfl rfl Rd.mv ?_ | refine XPA.puOffG rfl rfl ?_
              first | refine XPA.puG rfl rfl Rd.mv ?_ | refine XPA.puOffG rfl rfl ?_
              first | refine XPA.puG rfl rfl (Rd.ixS rfl rfl) ?_ | refine XPA.puOffG rfl rfl ?_
              first | refine XPA.puG rfl rfl (Rd.fA rfl) ?_ | refine XPA.puOffG rfl rfl ?_
              first | refine XPA.rdG rfl rfl (Rd.ldC rfl (tyrow rfl) rfl) ?_ | refine XPA.offG rfl rfl ?_
              first | refine XPA.puG rfl rfl Rd.mv ?_ | refine XPA.puOffG rfl rfl ?_
              first | refine XPA.puG rfl rfl Rd.mv ?_ | refine XPA.puOffG rfl rfl ?_
              first | refine XPA.puG rfl rfl (Rd.ixS rfl rfl) ?_ | refine XPA.puOffG rfl rfl ?_
              first | refine XPA.puG rfl rfl (Rd.fA rfl) ?_ | refine XPA.puOffG rfl rfl ?_
              first | refine XPA.rdG rfl rfl (Rd.ldC rfl (tyrow rfl) rfl) ?_ | refine XPA.offG rfl rfl ?_
              first | refine XPA.off rfl rfl (by first | exact Gd.isB rfl rfl rfl | exact Gd.un rfl rfl | (apply Gd.isQ; rfl; rfl; exact (by first | exact (rfl : decide _ = true) | exact (rfl : decide _ = false) | (refine decide_eq_true ?_; assumption) | (refine decide_eq_false ?_; assumption) | (refine decide_eq_true ?_; omega) | (refine decide_eq_false ?_; omega)); rfl)) ?_ | refine XPA.puOff rfl rfl (by first | exact Gd.isB rfl rfl rfl | exact Gd.un rfl rfl | (apply Gd.isQ; rfl; rfl; exact (by first | exact (rfl : decide _ = true) | exact (rfl : decide _ = false) | (refine decide_eq_true ?_; assumption) | (refine decide_eq_false ?_; assumption) | (refine decide_eq_true ?_; omega) | (refine decide_eq_false ?_; omega)); rfl)) ?_ | refine XPA.offW rfl rfl (by first | exact Gd.isB rfl rfl rfl | exact Gd.un rfl rfl | (apply Gd.isQ; rfl; rfl; exact (by first | exact (rfl : decide _ = true) | exact (rfl : decide _ = false) | (refine decide_eq_true ?_; assumption) | (refine decide_eq_false ?_; assumption) | (refine decide_eq_true ?_; omega) | (refine decide_eq_false ?_; omega)); rfl)) ?_
              first | refine XPA.puG rfl rfl zJ ?_ | refine XPA.puOffG rfl rfl ?_
              refine XPA.pu rfl rfl Gd.free zP ?_; refine XPA.nil ?_; refine zT (XA.condT rfl rfl (zS (zR (zO rfl Rd.asg ?_)))); refine zN (zT (XA.ret (DA.inb_ret (DA.thn_ret (DA.thn_ret (DA.inb_ret (DA.thn_ret ?_)))))))
              exact bodyA.ret (ResA.one rfl rfl) (Ent.nil _) ⟨false, rfl, ⟨fun h => (by cases h), fun h => absurd h hn⟩, rfl, rfl⟩
            | true =>
              first | refine XPA.puG rfl rfl zJ ?_ | refine XPA.puOffG rfl rfl ?_
              refine XPA.pu rfl rfl Gd.free zP ?_; refine XPA.pu rfl rfl Gd.free Rd.mv ?_
              first | refine XPA.puG rfl rfl Rd.mv ?_ | refine XPA.puOffG rfl rfl ?_
              first | refine XPA.puG rfl rfl Rd.mv ?_ | refine XPA.puOffG rfl rfl ?_
              first | refine XPA.puG rfl rfl (Rd.ixS rfl rfl) ?_ | refine XPA.puOffG rfl rfl ?_
              first | refine XPA.puG rfl rfl (Rd.fA rfl) ?_ | refine XPA.puOffG rfl rfl ?_
              first | refine XPA.rdG rfl rfl (Rd.ldC rfl (tyrow rfl) rfl) ?_ | refine XPA.offG rfl rfl ?_
              first | refine XPA.puG rfl rfl Rd.mv ?_ | refine XPA.puOffG rfl rfl ?_
              first | refine XPA.puG rfl rfl Rd.mv ?_ | refine XPA.puOffG rfl rfl ?_
              first | refine XPA.puG rfl rfl (Rd.ixS rfl rfl) ?_ | refine XPA.puOffG rfl rfl ?_
              first | refine XPA.puG rfl rfl (Rd.fA rfl) ?_ | refine XPA.puOffG rfl rfl ?_
              first | refine XPA.rdG rfl rfl (Rd.ldC rfl (tyrow rfl) rfl) ?_ | refine XPA.offG rfl rfl ?_
              refine XPA.wr0 rfl rfl (by first | exact Gd.free | exact Gd.isB rfl rfl rfl | (apply Gd.isQ; rfl; rfl; exact (by first | exact (rfl : decide _ = true) | exact (rfl : decide _ = false) | (refine decide_eq_true ?_; assumption) | (refine decide_eq_false ?_; assumption) | (refine decide_eq_true ?_; omega) | (refine decide_eq_false ?_; omega)); rfl)) (WrA.cE (ihe _ _ els' hxl hyl) rfl) ?_
              rintro _ _ _ ⟨_, ⟨b4, rfl, hb4, rfl, rfl⟩, rfl⟩
              refine stays (XPA.cl ?_)
              cases b4 with
              | false =>
                have hn := hout (fun h => absurd (hb4.2 (by injection h)) (by decide))
                first | refine XPA.puG rfl rfl zJ ?_ | refine XPA.puOffG rfl rfl ?_
                refine XPA.pu rfl rfl Gd.free zP ?_; refine XPA.nil ?_; refine zT (XA.condT rfl rfl (zS (zR (zO rfl Rd.asg ?_)))); refine zN (zT (XA.ret (DA.inb_ret (DA.thn_ret (DA.thn_ret (DA.inb_ret (DA.thn_ret ?_)))))))
                exact bodyA.ret (ResA.one rfl rfl) (Ent.nil _) ⟨false, rfl, ⟨fun h => (by cases h), fun h => absurd h hn⟩, rfl, rfl⟩
              | true =>
                have hxy : St.mk op v ex fx body els = St.mk op' v' ex' fx' body' els' := by rw [h1, h2, hb1.1 rfl, hb2.1 rfl, hb3.1 rfl, hb4.1 rfl]
                first | refine XPA.puG rfl rfl zJ ?_ | refine XPA.puOffG rfl rfl ?_
                refine XPA.pu rfl rfl Gd.free zP ?_; refine XPA.nil ?_; refine zT (XA.condF rfl rfl (XA.skip (DA.inb_normal (zT (zR (zA rfl ?_)))))); refine zO rfl zI ?_; refine zO rfl Rd.asg ?_; refine zN (zT ?_)
                refine ⟨(Keep.upd (Keep.upd (Keep.upd (Keep.upd (Keep.upd (Keep.updO (Keep.upd (Keep.upd (Keep.upd (Keep.upd (Keep.upd (Keep.upd (Keep.upd (Keep.upd (Keep.upd (Keep.upd (Keep.upd (Keep.upd (Keep.upd (Keep.updO (Keep.upd (Keep.upd (Keep.upd (Keep.upd (Keep.upd (Keep.upd (Keep.upd (Keep.upd (Keep.upd (Keep.upd (Keep.upd (Keep.upd (Keep.upd (Keep.updO (Keep.upd (Keep.upd (Keep.upd (Keep.upd (Keep.upd (Keep.upd (Keep.upd (Keep.upd (Keep.upd (Keep.upd (Keep.upd (Keep.upd (Keep.upd (Keep.updO (Keep.upd (Keep.upd (Keep.upd (Keep.upd (Keep.upd (Keep.upd (Keep.upd (Keep.upd (Keep.upd (Keep.upd (Keep.upd (Keep.upd (Keep.upd (Keep.upd (Keep.upd (Keep.upd (Keep.upd (Keep.upd (Keep.upd (Keep.upd (Keep.upd (Keep.upd (Keep.upd (Keep.upd (Keep.upd (Keep.upd (Keep.upd (Keep.upd (Keep.upd (Keep.upd (Keep.upd (Keep.upd (Keep.upd (Keep.upd (Keep.upd (Keep.upd (Keep.upd (Keep.upd (Keep.upd (Keep.upd (Keep.hav (Keep.hav (Keep.refl _ _) rfl) rfl) rfl) rfl) rfl) rfl) rfl) rfl) rfl) rfl) rfl) rfl) rfl) rfl) rfl) rfl) rfl) rfl) rfl) rfl) rfl) rfl) rfl) rfl) rfl) rfl) rfl) rfl) rfl) rfl) rfl) rfl) rfl) rfl) rfl) rfl) rfl) rfl) rfl) rfl) rfl) rfl) rfl) rfl) rfl) rfl) rfl) rfl) rfl) rfl) rfl) rfl) rfl) rfl) rfl) rfl) rfl) rfl) rfl) rfl) rfl) rfl) rfl) rfl) rfl) rfl) rfl) rfl) rfl) rfl) rfl) rfl) rfl) rfl) rfl) rfl) rfl) rfl) rfl) rfl) rfl) rfl) rfl) rfl) rfl) rfl) rfl) rfl) rfl) rfl), k + 1, [], zM, ?_, ⟨rfl, hlt, take_eq_succ hx hy htk hxy, rfl⟩, (by omega)⟩
                · exact zE
      · have hn := hout (fun h => h2 (by injection h))
        refine XA.draw (by kernel_rfl) _ _ [] [(0, .pu), (1, .pu), (2, .pu), (3, .pu), (4, .rd), (5, .pu), (6, .pu), (7, .pu), (8, .pu), (9, .rd), (10, .pu), (11, .pu), (12, .pu), (13, .pu), (14, .pu), (15, .pu), (16, .rd), (17, .pu), (18, .pu), (19, .pu), (20, .pu), (21, .rd), (22, .pu), (23, .pu), (24, .pu), (25, .pu), (26, .pu), (27, .pu), (28, .pu), (29, .rd), (30, .pu), (31, .pu), (32, .pu), (33, .pu), (34, .rd), (35, .wr), (36, .pu), (37, .pu), (38, .pu), (39, .pu), (40, .pu), (41, .pu), (42, .pu), (43, .rd), (44, .pu), (45, .pu), (46, .pu), (47, .pu), (48, .rd), (49, .wr), (50, .pu), (51, .pu), (52, .pu), (53, .pu), (54, .pu), (55, .pu), (56, .pu), (57, .rd), (58, .pu), (59, .pu), (60, .pu), (61, .pu), (62, .rd), (63, .wr), (64, .pu), (65, .pu), (66, .pu), (67, .pu), (68, .pu), (69, .pu), (70, .pu), (71, .rd), (72, .pu), (73, .pu), (74, .pu), (75, .pu), (76, .rd), (77, .wr), (78, .pu), (79, .pu)] (by kernel_rfl) (PH.sub.refl _) (Ent.nil _) ?_
        refine XPA.pu rfl rfl Gd.free Rd.mv ?_; refine XPA.pu rfl rfl Gd.free Rd.mv ?_; refine XPA.pu rfl rfl Gd.free (Rd.ixS rfl rfl) ?_; refine XPA.pu rfl rfl Gd.free (Rd.fA rfl) ?_; refine XPA.rd rfl rfl Gd.free (Rd.ldC rfl (tyrow rfl) rfl) ?_; refine XPA.pu rfl rfl Gd.free Rd.mv ?_
        refine XPA.pu rfl rfl Gd.free Rd.mv ?_; refine XPA.pu rfl rfl Gd.free (Rd.ixS rfl rfl) ?_; refine XPA.pu rfl rfl Gd.free (Rd.fA rfl) ?_; refine XPA.rd rfl rfl Gd.free (Rd.ldC rfl (tyrow rfl) rfl) ?_; refine XPA.pu rfl rfl Gd.free (Rd.neq rfl rfl) ?_; refine XPA.pu rfl rfl Gd.free Rd.mv ?_
        first | refine XPA.puG rfl rfl Rd.mv ?_ | refine XPA.puOffG rfl rfl ?_
        first | refine XPA.puG rfl rfl Rd.mv ?_ | refine XPA.puOffG rfl rfl ?_
        first | refine XPA.puG rfl rfl (Rd.ixS rfl rfl) ?_ | refine XPA.puOffG rfl rfl ?_
        first | refine XPA.puG rfl rfl (Rd.fA rfl) ?_ | refine XPA.puOffG rfl rfl ?_
        first | refine XPA.rdG rfl rfl (Rd.ldC rfl (tyrow rfl) rfl) ?_ | refine XPA.offG rfl rfl ?_
        first | refine XPA.puG rfl rfl Rd.mv ?_ | refine XPA.puOffG rfl rfl ?_
        first | refine XPA.puG rfl rfl Rd.mv ?_ | refine XPA.puOffG rfl rfl ?_
        first | refine XPA.puG rfl rfl (Rd.ixS rfl rfl) ?_ | refine XPA.puOffG rfl rfl ?_
        first | refine XPA.puG rfl rfl (Rd.fA rfl) ?_ | refine XPA.puOffG rfl rfl ?_
        first | refine XPA.rdG rfl rfl (Rd.ldC rfl (tyrow rfl) rfl) ?_ | refine XPA.offG rfl rfl ?_
        first | refine XPA.puG rfl rfl (Rd.neq rfl rfl) ?_ | refine XPA.puOffG rfl rfl ?_
        refine XPA.pu rfl rfl Gd.free zP ?_; refine XPA.pu rfl rfl Gd.free Rd.mv ?_
        first | refine XPA.puG rfl rfl Rd.mv ?_ | refine XPA.puOffG rfl rfl ?_
        first | refine XPA.puG rfl rfl Rd.mv ?_ | refine XPA.puOffG rfl rfl ?_
        first | refine XPA.puG rfl rfl (Rd.ixS rfl rfl) ?_ | refine XPA.puOffG rfl rfl ?_
        first | refine XPA.puG rfl rfl (Rd.fA rfl) ?_ | refine XPA.puOffG rfl rfl ?_
        first | refine XPA.rdG rfl rfl (Rd.ldA rfl) ?_ | refine XPA.offG rfl rfl ?_
        first | refine XPA.puG rfl rfl Rd.mv ?_ | refine XPA.puOffG rfl rfl ?_
        first | refine XPA.puG rfl rfl Rd.mv ?_ | refine XPA.puOffG rfl rfl ?_
        first | refine XPA.puG rfl rfl (Rd.ixS rfl rfl) ?_ | refine XPA.puOffG rfl rfl ?_
        first | refine XPA.puG rfl rfl (Rd.fA rfl) ?_ | refine XPA.puOffG rfl rfl ?_
        first | refine XPA.rdG rfl rfl (Rd.ldA rfl) ?_ | refine XPA.offG rfl rfl ?_
        first | refine XPA.off rfl rfl (by first | exact Gd.isB rfl rfl rfl | exact Gd.un rfl rfl | (apply Gd.isQ; rfl; rfl; exact (by first | exact (rfl : decide _ = true) | exact (rfl : decide _ = false) | (refine decide_eq_true ?_; assumption) | (refine decide_eq_false ?_; assumption) | (refine decide_eq_true ?_; omega) | (refine decide_eq_false ?_; omega)); rfl)) ?_ | refine XPA.puOff rfl rfl (by first | exact Gd.isB rfl rfl rfl | exact Gd.un rfl rfl | (apply Gd.isQ; rfl; rfl; exact (by first | exact (rfl : decide _ = true) | exact (rfl : decide _ = false) | (refine decide_eq_true ?_; assumption) | (refine decide_eq_false ?_; assumption) | (refine decide_eq_true ?_; omega) | (refine decide_eq_false ?_; omega)); rfl)) ?_ | refine XPA.offW rfl rfl (by first | exact Gd.isB rfl rfl rfl | exact Gd.un rfl rfl | (apply Gd.isQ; rfl; rfl; exact (by first | exact (rfl : decide _ = true) | exact (rfl : decide _ = false) | (refine decide_eq_true ?_; assumption) | (refine decide_eq_false ?_; assumption) | (refine decide_eq_true ?_; omega) | (refine decide_eq_false ?_; omega)); rfl)) ?_
        first | refine XPA.puG rfl rfl zJ ?_ | refine XPA.puOffG rfl rfl ?_
        refine XPA.pu rfl rfl Gd.free zP ?_; refine XPA.pu rfl rfl Gd.free Rd.mv ?_
        first | refine XPA.puG rfl rfl Rd.mv ?_ | refine XPA.puOffG rfl rfl ?_
        first | refine XPA.puG rfl rfl Rd.mv ?_ | refine XPA.puOffG rfl rfl ?_
        first | refine XPA.puG rfl rfl (Rd.ixS rfl rfl) ?_ | refine XPA.puOffG rfl rfl ?_
        first | refine XPA.puG rfl rfl (Rd.fA rfl) ?_ | refine XPA.puOffG rfl rfl ?_
        first | refine XPA.rdG rfl rfl (Rd.ldA rfl) ?_ | refine XPA.offG rfl rfl ?_
        first | refine XPA.puG rfl rfl Rd.mv ?_ | refine XPA.puOffG rfl rfl ?_
        first | refine XPA.puG rfl rfl Rd.mv ?_ | refine XPA.puOffG rfl rfl ?_
        first | refine XPA.puG rfl rfl (Rd.ixS rfl rfl) ?_ | refine XPA.puOffG rfl rfl ?_
        first | refine XPA.puG rfl rfl (Rd.fA rfl) ?_ | refine XPA.puOffG rfl rfl ?_
        first | refine XPA.rdG rfl rfl (Rd.ldA rfl) ?_ | refine XPA.offG rfl rfl ?_
        first | refine XPA.off rfl rfl (by first | exact Gd.isB rfl rfl rfl | exact Gd.un rfl rfl | (apply Gd.isQ; rfl; rfl; exact (by first | exact (rfl : decide _ = true) | exact (rfl : decide _ = false) | (refine decide_eq_true ?_; assumption) | (refine decide_eq_false ?_; assumption) | (refine decide_eq_true ?_; omega) | (refine decide_eq_false ?_; omega)); rfl)) ?_ | refine XPA.puOff rfl rfl (by first | exact Gd.isB rfl rfl rfl | exact Gd.un rfl rfl | (apply Gd.isQ; rfl; rfl; exact (by first | exact (rfl : decide _ = true) | exact (rfl : decide _ = false) | (refine decide_eq_true ?_; assumption) | (refine decide_eq_false ?_; assumption) | (refine decide_eq_true ?_; omega) | (refine decide_eq_false ?_; omega)); rfl)) ?_ | refine XPA.offW rfl rfl (by first | exact Gd.isB rfl rfl rfl | exact Gd.un rfl rfl | (apply Gd.isQ; rfl; rfl; exact (by first | exact (rfl : decide _ = true) | exact (rfl : decide _ = false) | (refine decide_eq_true ?_; assumption) | (refine decide_eq_false ?_; assumption) | (refine decide_eq_true ?_; omega) | (refine decide_eq_false ?_; omega)); rfl)) ?_
        first | refine XPA.puG rfl rfl zJ ?_ | refine XPA.puOffG rfl rfl ?_
        refine XPA.pu rfl rfl Gd.free zP ?_; refine XPA.pu rfl rfl Gd.free Rd.mv ?_
        first | refine XPA.puG rfl rfl Rd.mv ?_ | refine XPA.puOffG rfl rfl ?_
        first | refine XPA.puG rfl rfl Rd.mv ?_ | refine XPA.puOffG rfl rfl ?_
        first | refine XPA.puG rfl rfl (Rd.ixS rfl rfl) ?_ | refine XPA.puOffG rfl rfl ?_
        first | refine XPA.puG rfl rfl (Rd.fA rfl) ?_ | refine XPA.puOffG rfl rfl ?_
        first | refine XPA.rdG rfl rfl (Rd.ldC rfl (tyrow rfl) rfl) ?_ | refine XPA.offG rfl rfl ?_
        first | refine XPA.puG rfl rfl Rd.mv ?_ | refine XPA.puOffG rfl rfl ?_
        first | refine XPA.puG rfl rfl Rd.mv ?_ | refine XPA.puOffG rfl rfl ?_
        first | refine XPA.puG rfl rfl (Rd.ixS rfl rfl) ?_ | refine XPA.puOffG rfl rfl ?_
        first | refine XPA.puG rfl rfl (Rd.fA rfl) ?_ | refine XPA.puOffG rfl rfl ?_
        first | refine XPA.rdG rfl rfl (Rd.ldC rfl (tyrow rfl) rfl) ?_ | refine XPA.offG rfl rfl ?_
        first | refine XPA.off rfl rfl (by first | exact Gd.isB rfl rfl rfl | exact Gd.un rfl rfl | (apply Gd.isQ; rfl; rfl; exact (by first | exact (rfl : decide _ = true) | exact (rfl : decide _ = false) | (refine decide_eq_true ?_; assumption) | (refine decide_eq_false ?_; assumption) | (refine decide_eq_true ?_; omega) | (refine decide_eq_false ?_; omega)); rfl)) ?_ | refine XPA.puOff rfl rfl (by first | exact Gd.isB rfl rfl rfl | exact Gd.un rfl rfl | (apply Gd.isQ; rfl; rfl; exact (by first | exact (rfl : decide _ = true) | exact (rfl : decide _ = false) | (refine decide_eq_true ?_; assumption) | (refine decide_eq_false ?_; assumption) | (refine decide_eq_true ?_; omega) | (refine decide_eq_false ?_; omega)); rfl)) ?_ | refine XPA.offW rfl rfl (by first | exact Gd.isB rfl rfl rfl | exact Gd.un rfl rfl | (apply Gd.isQ; rfl; rfl; exact (by first | exact (rfl : decide _ = true) | exact (rfl : decide _ = false) | (refine decide_eq_true ?_; assumption) | (refine decide_eq_false ?_; assumption) | (refine decide_eq_true ?_; omega) | (refine decide_eq_false ?_; omega)); rfl)) ?_
        first | refine XPA.puG rfl rfl zJ ?_ | refine XPA.puOffG rfl rfl ?_
        refine XPA.pu rfl rfl Gd.free zP ?_; refine XPA.pu rfl rfl Gd.free Rd.mv ?_
        first | refine XPA.puG rfl rfl Rd.mv ?_ | refine XPA.puOffG rfl rfl ?_
        first | refine XPA.puG rfl rfl Rd.mv ?_ | refine XPA.puOffG rfl rfl ?_
        first | refine XPA.puG rfl rfl (Rd.ixS rfl rfl) ?_ | refine XPA.puOffG rfl rfl ?_
        first | refine XPA.puG rfl rfl (Rd.fA rfl) ?_ | refine XPA.puOffG rfl rfl ?_
        first | refine XPA.rdG rfl rfl (Rd.ldC rfl (tyrow rfl) rfl) ?_ | refine XPA.offG rfl rfl ?_
        first | refine XPA.puG rfl rfl Rd.mv ?_ | refine XPA.puOffG rfl rfl ?_
        first | refine XPA.puG rfl rfl Rd.mv ?_ | refine XPA.puOffG rfl rfl ?_
        first | refine XPA.puG rfl rfl (Rd.ixS rfl rfl) ?_ | refine XPA.puOffG rfl rfl ?_
        first | refine XPA.puG rfl rfl (Rd.fA rfl) ?_ | refine XPA.puOffG rfl rfl ?_
        first | refine XPA.rdG rfl rfl (Rd.ldC rfl (tyrow rfl) rfl) ?_ | refine XPA.offG rfl rfl ?_
        first | refine XPA.off rfl rfl (by first | exact Gd.isB rfl rfl rfl | exact Gd.un rfl rfl | (apply Gd.isQ; rfl; rfl; exact (by first | exact (rfl : decide _ = true) | exact (rfl : decide _ = false) | (refine decide_eq_true ?_; assumption) | (refine decide_eq_false ?_; assumption) | (refine decide_eq_true ?_; omega) | (refine decide_eq_false ?_; omega)); rfl)) ?_ | refine XPA.puOff rfl rfl (by first | exact Gd.isB rfl rfl rfl | exact Gd.un rfl rfl | (apply Gd.isQ; rfl; rfl; exact (by first | exact (rfl : decide _ = true) | exact (rfl : decide _ = false) | (refine decide_eq_true ?_; assumption) | (refine decide_eq_false ?_; assumption) | (refine decide_eq_true ?_; omega) | (refine decide_eq_false ?_; omega)); rfl)) ?_ | refine XPA.offW rfl rfl (by first | exact Gd.isB rfl rfl rfl | exact Gd.un rfl rfl | (apply Gd.isQ; rfl; rfl; exact (by first | exact (rfl : decide _ = true) | exact (rfl : decide _ = false) | (refine decide_eq_true ?_; assumption) | (refine decide_eq_false ?_; assumption) | (refine decide_eq_true ?_; omega) | (refine decide_eq_false ?_; omega)); rfl)) ?_
        first | refine XPA.puG rfl rfl zJ ?_ | refine XPA.puOffG rfl rfl ?_
        refine XPA.pu rfl rfl Gd.free zP ?_; refine XPA.nil ?_; refine zT (XA.condT rfl zY ?_); refine zS (zR (zO rfl Rd.asg ?_)); refine zN (zT (XA.ret (DA.inb_ret (DA.thn_ret (DA.thn_ret (DA.inb_ret (DA.thn_ret ?_)))))))
        exact bodyA.ret (ResA.one rfl rfl) (Ent.nil _) ⟨false, rfl, ⟨fun h => (by cases h), fun h => absurd h hn⟩, rfl, rfl⟩
    · have hn := hout (fun h => h1 (by injection h))
      refine XA.draw (by kernel_rfl) _ _ [] [(0, .pu), (1, .pu), (2, .pu), (3, .pu), (4, .rd), (5, .pu), (6, .pu), (7, .pu), (8, .pu), (9, .rd), (10, .pu), (11, .pu), (12, .pu), (13, .pu), (14, .pu), (15, .pu), (16, .rd), (17, .pu), (18, .pu), (19, .pu), (20, .pu), (21, .rd), (22, .pu), (23, .pu), (24, .pu), (25, .pu), (26, .pu), (27, .pu), (28, .pu), (29, .rd), (30, .pu), (31, .pu), (32, .pu), (33, .pu), (34, .rd), (35, .wr), (36, .pu), (37, .pu), (38, .pu), (39, .pu), (40, .pu), (41, .pu), (42, .pu), (43, .rd), (44, .pu), (45, .pu), (46, .pu), (47, .pu), (48, .rd), (49, .wr), (50, .pu), (51, .pu), (52, .pu), (53, .pu), (54, .pu), (55, .pu), (56, .pu), (57, .rd), (58, .pu), (59, .pu), (60, .pu), (61, .pu), (62, .rd), (63, .wr), (64, .pu), (65, .pu), (66, .pu), (67, .pu), (68, .pu), (69, .pu), (70, .pu), (71, .rd), (72, .pu), (73, .pu), (74, .pu), (75, .pu), (76, .rd), (77, .wr), (78, .pu), (79, .pu)] (by kernel_rfl) (PH.sub.refl _) (Ent.nil _) ?_
      refine XPA.pu rfl rfl Gd.free Rd.mv ?_; refine XPA.pu rfl rfl Gd.free Rd.mv ?_; refine XPA.pu rfl rfl Gd.free (Rd.ixS rfl rfl) ?_; refine XPA.pu rfl rfl Gd.free (Rd.fA rfl) ?_; refine XPA.rd rfl rfl Gd.free (Rd.ldC rfl (tyrow rfl) rfl) ?_; refine XPA.pu rfl rfl Gd.free Rd.mv ?_
      refine XPA.pu rfl rfl Gd.free Rd.mv ?_; refine XPA.pu rfl rfl Gd.free (Rd.ixS rfl rfl) ?_; refine XPA.pu rfl rfl Gd.free (Rd.fA rfl) ?_; refine XPA.rd rfl rfl Gd.free (Rd.ldC rfl (tyrow rfl) rfl) ?_; refine XPA.pu rfl rfl Gd.free (Rd.neq rfl rfl) ?_; refine XPA.pu rfl rfl Gd.free Rd.mv ?_
      first | refine XPA.puG rfl rfl Rd.mv ?_ | refine XPA.puOffG rfl rfl ?_
      first | refine XPA.puG rfl rfl Rd.mv ?_ | refine XPA.puOffG rfl rfl ?_
      first | refine XPA.puG rfl rfl (Rd.ixS rfl rfl) ?_ | refine XPA.puOffG rfl rfl ?_
      first | refine XPA.puG rfl rfl (Rd.fA rfl) ?_ | refine XPA.puOffG rfl rfl ?_
      first | refine XPA.rdG rfl rfl (Rd.ldC rfl (tyrow rfl) rfl) ?_ | refine XPA.offG rfl rfl ?_
      first | refine XPA.puG rfl rfl Rd.mv ?_ | refine XPA.puOffG rfl rfl ?_
      first | refine XPA.puG rfl rfl Rd.mv ?_ | refine XPA.puOffG rfl rfl ?_
      first | refine XPA.puG rfl rfl (Rd.ixS rfl rfl) ?_ | refine XPA.puOffG rfl rfl ?_
      first | refine XPA.puG rfl rfl (Rd.fA rfl) ?_ | refine XPA.puOffG rfl rfl ?_
      first | refine XPA.rdG rfl rfl (Rd.ldC rfl (tyrow rfl) rfl) ?_ | refine XPA.offG rfl rfl ?_
      first | refine XPA.puG rfl rfl (Rd.neq rfl rfl) ?_ | refine XPA.puOffG rfl rfl ?_
      refine XPA.pu rfl rfl Gd.free zP ?_; refine XPA.pu rfl rfl Gd.free Rd.mv ?_
      first | refine XPA.puG rfl rfl Rd.mv ?_ | refine XPA.puOffG rfl rfl ?_
      first | refine XPA.puG rfl rfl Rd.mv ?_ | refine XPA.puOffG rfl rfl ?_
      first | refine XPA.puG rfl rfl (Rd.ixS rfl rfl) ?_ | refine XPA.puOffG rfl rfl ?_
      first | refine XPA.puG rfl rfl (Rd.fA rfl) ?_ | refine XPA.puOffG rfl rfl ?_
      first | refine XPA.rdG rfl rfl (Rd.ldA rfl) ?_ | refine XPA.offG rfl rfl ?_
      first | refine XPA.puG rfl rfl Rd.mv ?_ | refine XPA.puOffG rfl rfl ?_
      first | refine XPA.puG rfl rfl Rd.mv ?_ | refine XPA.puOffG rfl rfl ?_
      first | refine XPA.puG rfl rfl (Rd.ixS rfl rfl) ?_ | refine XPA.puOffG rfl rfl ?_
      first | refine XPA.puG rfl rfl (Rd.fA rfl) ?_ | refine XPA.puOffG rfl rfl ?_
      first | refine XPA.rdG rfl rfl (Rd.ldA rfl) ?_ | refine XPA.offG rfl rfl ?_
      first | refine XPA.off rfl rfl (by first | exact Gd.isB rfl rfl rfl | exact Gd.un rfl rfl | (apply Gd.isQ; rfl; rfl; exact (by first | exact (rfl : decide _ = true) | exact (rfl : decide _ = false) | (refine decide_eq_true ?_; assumption) | (refine decide_eq_false ?_; assumption) | (refine decide_eq_true ?_; omega) | (refine decide_eq_false ?_; omega)); rfl)) ?_ | refine XPA.puOff rfl rfl (by first | exact Gd.isB rfl rfl rfl | exact Gd.un rfl rfl | (apply Gd.isQ; rfl; rfl; exact (by first | exact (rfl : decide _ = true) | exact (rfl : decide _ = false) | (refine decide_eq_true ?_; assumption) | (refine decide_eq_false ?_; assumption) | (refine decide_eq_true ?_; omega) | (refine decide_eq_false ?_; omega)); rfl)) ?_ | refine XPA.offW rfl rfl (by first | exact Gd.isB rfl rfl rfl | exact Gd.un rfl rfl | (apply Gd.isQ; rfl; rfl; exact (by first | exact (rfl : decide _ = true) | exact (rfl : decide _ = false) | (refine decide_eq_true ?_; assumption) | (refine decide_eq_false ?_; assumption) | (refine decide_eq_true ?_; omega) | (refine decide_eq_false ?_; omega)); rfl)) ?_
      first | refine XPA.puG rfl rfl zJ ?_ | refine XPA.puOffG rfl rfl ?_
      refine XPA.pu rfl rfl Gd.free zP ?_; refine XPA.pu rfl rfl Gd.free Rd.mv ?_
      first | refine XPA.puG rfl rfl Rd.mv ?_ | refine XPA.puOffG rfl rfl ?_
      first | refine XPA.puG rfl rfl Rd.mv ?_ | refine XPA.puOffG rfl rfl ?_
      first | refine XPA.puG rfl rfl (Rd.ixS rfl rfl) ?_ | refine XPA.puOffG rfl rfl ?_
      first | refine XPA.puG rfl rfl (Rd.fA rfl) ?_ | refine XPA.puOffG rfl rfl ?_
      first | refine XPA.rdG rfl rfl (Rd.ldA rfl) ?_ | refine XPA.offG rfl rfl ?_
      first | refine XPA.puG rfl rfl Rd.mv ?_ | refine XPA.puOffG rfl rfl ?_
      first | refine XPA.puG rfl rfl Rd.mv ?_ | refine XPA.puOffG rfl rfl ?_
      first | refine XPA.puG rfl rfl (Rd.ixS rfl rfl) ?_ | refine XPA.puOffG rfl rfl ?_
      first | refine XPA.puG rfl rfl (Rd.fA rfl) ?_ | refine XPA.puOffG rfl rfl ?_
      first | refine XPA.rdG rfl rfl (Rd.ldA rfl) ?_ | refine XPA.offG rfl rfl ?_
      first | refine XPA.off rfl rfl (by first | exact Gd.isB rfl rfl rfl | exact Gd.un rfl rfl | (apply Gd.isQ; rfl; rfl; exact (by first | exact (rfl : decide _ = true) | exact (rfl : decide _ = false) | (refine decide_eq_true ?_; assumption) | (refine decide_eq_false ?_; assumption) | (refine decide_eq_true ?_; omega) | (refine decide_eq_false ?_; omega)); rfl)) ?_ | refine XPA.puOff rfl rfl (by first | exact Gd.isB rfl rfl rfl | exact Gd.un rfl rfl | (apply Gd.isQ; rfl; rfl; exact (by first | exact (rfl : decide _ = true) | exact (rfl : decide _ = false) | (refine decide_eq_true ?_; assumption) | (refine decide_eq_false ?_; assumption) | (refine decide_eq_true ?_; omega) | (refine decide_eq_false ?_; omega)); rfl)) ?_ | refine XPA.offW rfl rfl (by first | exact Gd.isB rfl rfl rfl | exact Gd.un rfl rfl | (apply Gd.isQ; rfl; rfl; exact (by first | exact (rfl : decide _ = true) | exact (rfl : decide _ = false) | (refine decide_eq_true ?_; assumption) | (refine decide_eq_false ?_; assumption) | (refine decide_eq_true ?_; omega) | (refine decide_eq_false ?_; omega)); rfl)) ?_
      first | refine XPA.puG rfl rfl zJ ?_ | refine XPA.puOffG rfl rfl ?_
      refine XPA.pu rfl rfl Gd.free zP ?_; refine XPA.pu rfl rfl Gd.free Rd.mv ?_
      first | refine XPA.puG rfl rfl Rd.mv ?_ | refine XPA.puOffG rfl rfl ?_
      first | refine XPA.puG rfl rfl Rd.mv ?_ | refine XPA.puOffG rfl rfl ?_
      first | refine XPA.puG rfl rfl (Rd.ixS rfl rfl) ?_ | refine XPA.puOffG rfl rfl ?_
      first | refine XPA.puG rfl rfl (Rd.fA rfl) ?_ | refine XPA.puOffG rfl rfl ?_
      first | refine XPA.rdG rfl rfl (Rd.ldC rfl (tyrow rfl) rfl) ?_ | refine XPA.offG rfl rfl ?_
      first | refine XPA.puG rfl rfl Rd.mv ?_ | refine XPA.puOffG rfl rfl ?_
      first | refine XPA.puG rfl rfl Rd.mv ?_ | refine XPA.puOffG rfl rfl ?_
      first | refine XPA.puG rfl rfl (Rd.ixS rfl rfl) ?_ | refine XPA.puOffG rfl rfl ?_
      first | refine XPA.puG rfl rfl (Rd.fA rfl) ?_ | refine XPA.puOffG rfl rfl ?_
      first | refine XPA.rdG rfl rfl (Rd.ldC rfl (tyrow rfl) rfl) ?_ | refine XPA.offG rfl rfl ?_
      first | refine XPA.off rfl rfl (by first | exact Gd.isB rfl rfl rfl | exact Gd.un rfl rfl | (apply Gd.isQ; rfl; rfl; exact (by first | exact (rfl : decide _ = true) | exact (rfl : decide _ = false) | (refine decide_eq_true ?_; assumption) | (refine decide_eq_false ?_; assumption) | (refine decide_eq_true ?_; omega) | (refine decide_eq_false ?_; omega)); rfl)) ?_ | refine XPA.puOff rfl rfl (by first | exact Gd.isB rfl rfl rfl | exact Gd.un rfl rfl | (apply Gd.isQ; rfl; rfl; exact (by first | exact (rfl : decide _ = true) | exact (rfl : decide _ = false) | (refine decide_eq_true ?_; assumption) | (refine decide_eq_false ?_; assumption) | (refine decide_eq_true ?_; omega) | (refine decide_eq_false ?_; omega)); rfl)) ?_ | refine XPA.offW rfl rfl (by first | exact Gd.isB rfl rfl rfl | exact Gd.un rfl rfl | (apply Gd.isQ; rfl; rfl; exact (by first | exact (rfl : decide _ = true) | exact (rfl : decide _ = false) | (refine decide_eq_true ?_; assumption) | (refine decide_eq_false ?_; assumption) | (refine decide_eq_true ?_; omega) | (refine decide_eq_false ?_; omega)); rfl)) ?_
      first | refine XPA.puG rfl rfl zJ ?_ | refine XPA.puOffG rfl rfl ?_
      refine XPA.pu rfl rfl Gd.free zP ?_; refine XPA.pu rfl rfl Gd.free Rd.mv ?_
      first | refine XPA.puG rfl rfl Rd.mv ?_ | refine XPA.puOffG rfl rfl ?_
      first | refine XPA.puG rfl rfl Rd.mv ?_ | refine XPA.puOffG rfl rfl ?_
      first | refine XPA.puG rfl rfl (Rd.ixS rfl rfl) ?_ | refine XPA.puOffG rfl rfl ?_
      first | refine XPA.puG rfl rfl (Rd.fA rfl) ?_ | refine XPA.puOffG rfl rfl ?_
      first | refine XPA.rdG rfl rfl (Rd.ldC rfl (tyrow rfl) rfl) ?_ | refine XPA.offG rfl rfl ?_
      first | refine XPA.puG rfl rfl Rd.mv ?_ | refine XPA.puOffG rfl rfl ?_
      first | refine XPA.puG rfl rfl Rd.mv ?_ | refine XPA.puOffG rfl rfl ?_
      first | refine XPA.puG rfl rfl (Rd.ixS rfl rfl) ?_ | refine XPA.puOffG rfl rfl ?_
      first | refine XPA.puG rfl rfl (Rd.fA rfl) ?_ | refine XPA.puOffG rfl rfl ?_
      first | refine XPA.rdG rfl rfl (Rd.ldC rfl (tyrow rfl) rfl) ?_ | refine XPA.offG rfl rfl ?_
      first | refine XPA.off rfl rfl (by first | exact Gd.isB rfl rfl rfl | exact Gd.un rfl rfl | (apply Gd.isQ; rfl; rfl; exact (by first | exact (rfl : decide _ = true) | exact (rfl : decide _ = false) | (refine decide_eq_true ?_; assumption) | (refine decide_eq_false ?_; assumption) | (refine decide_eq_true ?_; omega) | (refine decide_eq_false ?_; omega)); rfl)) ?_ | refine XPA.puOff rfl rfl (by first | exact Gd.isB rfl rfl rfl | exact Gd.un rfl rfl | (apply Gd.isQ; rfl; rfl; exact (by first | exact (rfl : decide _ = true) | exact (rfl : decide _ = false) | (refine decide_eq_true ?_; assumption) | (refine decide_eq_false ?_; assumption) | (refine decide_eq_true ?_; omega) | (refine decide_eq_false ?_; omega)); rfl)) ?_ | refine XPA.offW rfl rfl (by first | exact Gd.isB rfl rfl rfl | exact Gd.un rfl rfl | (apply Gd.isQ; rfl; rfl; exact (by first | exact (rfl : decide _ = true) | exact (rfl : decide _ = false) | (refine decide_eq_true ?_; assumption) | (refine decide_eq_false ?_; assumption) | (refine decide_eq_true ?_; omega) | (refine decide_eq_false ?_; omega)); rfl)) ?_
      first | refine XPA.puG rfl rfl zJ ?_ | refine XPA.puOffG rfl rfl ?_
      refine XPA.pu rfl rfl Gd.free zP ?_; refine XPA.nil ?_; refine zT (XA.condT rfl zY ?_); refine zS (zR (zO rfl Rd.asg ?_)); refine zN (zT (XA.ret (DA.inb_ret (DA.thn_ret (DA.thn_ret (DA.inb_ret (DA.thn_ret ?_)))))))
      exact bodyA.ret (ResA.one rfl rfl) (Ent.nil _) ⟨false, rfl, ⟨fun h => (by cases h), fun h => absurd h hn⟩, rfl, rfl⟩
  have hkn : k = l.length := by omega
  subst hkn
  rw [List.take_length, hlm, List.take_length] at htk
  refine XA.exit (DA.thn_exit (DA.thn_exit (DA.inb_same (zT (zS (zR (zO rfl Rd.asg ?_))))))); refine zN (zT (XA.ret ?_))
  exact bodyA.ret (ResA.one rfl rfl) (Ent.nil _) ⟨true, rfl, ⟨fun _ => htk, fun _ => rfl⟩, rfl, rfl⟩
theorem rsl_x (σ : PH) (x : St) : RSameListOK σ x.body ∧ RSameListOK σ x.els := by
  refine St.ind (P := fun x => RSameListOK σ x.body ∧ RSameListOK σ x.els) ?_ x
  intro op v e f body els ih jh
  exact ⟨rsameList_l σ body ih, rsameList_l σ els jh⟩
theorem rsameList_a (σ : PH) (l : List St) : RSameListOK σ l := rsameList_l σ l (fun x _ => rsl_x σ x)
theorem rsame_a (σ : PH) (cs cs' : List Value) (p q : Pr) (hp : PrAt σ cs p) (hq : PrAt σ cs' q) :
    CallsA Tryd.prog 15 #[.agg cs.toArray, .agg cs'.toArray] σ [] (RetA fun v σ' Γ' => ∃ b : Bool, v = .bool b ∧ (b = true ↔ p = q) ∧ σ = σ' ∧ Γ' = []) := by
  obtain ⟨vs, bs, rfl, hv, hb⟩ := hp
  obtain ⟨vs', bs', rfl, hv', hb'⟩ := hq
  obtain ⟨l, pb⟩ := p
  obtain ⟨m, qb⟩ := q
  simp only at hv hb hv' hb'
  obtain ⟨pl, cl, rfl, hle, hmx⟩ := hv.shape
  obtain ⟨pm, cm, rfl, hle2, hmx2⟩ := hv'.shape
  have hlen : l.length ≤ maxLen := by omega
  simp only [maxLen] at hlen
  have hno : ∀ (q : Prop), (Pr.mk l pb = Pr.mk m qb → q) → ¬ q → (false = true ↔ Pr.mk l pb = Pr.mk m qb) := fun q h1 h2 => ⟨fun h => (by cases h), fun h => absurd (h1 h) h2⟩
  by_cases hlm : l.length = m.length
  · 
    refine enterA2 Tryd.func15 rfl rfl rfl ?_
    refine zS (zR ?_)
    refine XOA.wr0 rfl WrA.bx ?_
    rintro _ _ _ ⟨g2, rfl, rfl, rfl⟩
    refine XOA.wr0 rfl WrA.bx ?_
    rintro _ _ _ ⟨g3, rfl, rfl, rfl⟩
    refine zO rfl Rd.asg ?_; refine zN (zT (zS (zS (zR (zV rfl rfl ?_))))); refine zB rfl rfl (tyrow rfl) rfl ?_; refine zO rfl (Rd.lenSlice (tyrow rfl) rfl rfl) ?_; refine zV rfl rfl ?_; refine zB rfl rfl (tyrow rfl) rfl ?_; refine zO rfl (Rd.lenSlice (tyrow rfl) rfl rfl) ?_
    refine zO rfl (Rd.neq rfl rfl) ?_; refine zA rfl ?_
    first | (refine zG ?_; refine zV rfl rfl ?_) | refine zH ?_
    first | (refine zG ?_; refine zB rfl rfl (tyrow rfl) rfl ?_) | refine zH ?_
    first | (refine zG ?_; refine zV rfl rfl ?_) | refine zH ?_
    first | (refine zG ?_; refine zB rfl rfl (tyrow rfl) rfl ?_) | refine zH ?_
    first | refine XOA.wanted rfl rfl ?_ | refine XOA.wq rfl rfl ?_
    refine XOA.wr0 rfl (WrA.cE (rsameList_a σ pb _ _ qb hb hb') rfl) ?_
    rintro _ _ _ ⟨_, ⟨b1, rfl, hb1, rfl, rfl⟩, rfl⟩
    refine XOA.cl ?_
    cases b1 with
    | false =>
      first | (refine zG ?_; refine zO rfl zJ ?_) | refine zH ?_
      refine zO rfl zP ?_; refine zN (zT (XA.condT rfl rfl (zS (zR (zO rfl Rd.asg ?_))))); refine zN (zT (XA.ret (DA.thn_ret ?_)))
      exact bodyA.ret (ResA.one rfl rfl) (Ent.nil _) ⟨false, rfl, hno (pb = qb) (fun h => by injection h) (fun h => absurd (hb1.2 h) (by decide)), rfl, rfl⟩
    | true =>
      first | (refine zG ?_; refine zO rfl zJ ?_) | refine zH ?_
      refine zO rfl zP ?_; refine zN (zT (XA.condF rfl rfl (XA.skip (zT (zS (zS (zR (zO rfl Rd.asg ?_)))))))); refine zN (zT (XA.block ?_))
      refine XA.gen [(2, _), (3, _), (4, _), (5, _)] ⟨(by with_reducible (conv => lhs; whnf)), (by with_reducible (conv => lhs; whnf)), (by with_reducible (conv => lhs; whnf)), (by with_reducible (conv => lhs; whnf)), trivial⟩ (fun δ => ?_)
      dsimp only [List.foldl]
      refine XA.loop [(4, 5), (21, 38)] (fun k : Nat => [(5, i64 k)]) (fun k σ' Γ' => σ = σ' ∧ k ≤ l.length ∧ l.take k = m.take k ∧ Γ' = [blk g2 [.slice pl l.length cl, bs] 25, blk g3 [.slice pm m.length cm, bs'] 25]) (fun k => l.length - k) 0 (by exact ⟨rfl, trivial⟩) (Δ0 := _) ?_ (⟨rfl, Nat.zero_le _, rfl, rfl⟩) ?_
      · exact zE
      rintro k δ _ _ ⟨rfl, hk, htk, rfl⟩
      dsimp only [ovr, List.foldl]
      refine zS (zS (zR (zA rfl ?_))); refine zV rfl rfl ?_; refine zB rfl rfl (tyrow rfl) rfl ?_; refine zO rfl (Rd.lenSlice (tyrow rfl) rfl rfl) ?_; refine zO rfl (Rd.lss rfl rfl) ?_; refine zN (zT ?_)
      refine XA.condp rfl (fun hlt => ?_) (fun hlt => ?_)
      · have hlt : k < l.length := by omega
        obtain ⟨x, hx⟩ : ∃ x, l[k]? = some x := ⟨_, List.getElem?_eq_getElem hlt⟩
        obtain ⟨y, hy⟩ : ∃ y, m[k]? = some y := ⟨_, List.getElem?_eq_getElem (by omega)⟩
        obtain ⟨g, o, row, rfl, ⟨rfl, -⟩, hrl, hrow⟩ := hv.at hx
        obtain ⟨g', o', row', rfl, ⟨rfl, -⟩, hrl', hrow'⟩ := hv'.at hy
        refine XA.skip (zT (zS (XA.block (zS ?_))))
        refine XA.draw (by kernel_rfl) _ _ [] [(0, .pu), (1, .rd), (2, .pu), (3, .pu), (4, .rd), (5, .pu), (6, .rd), (7, .pu), (8, .pu), (9, .rd), (10, .pu)] (by kernel_rfl) (PH.sub.refl _) (Ent.sel (R := blk g2 _ _) zL (Ent.sel (R := blk g3 _ _) zL (Ent.nil _))) ?_
        refine XPA.pu rfl rfl Gd.free (Rd.fA rfl) ?_; refine XPA.rd rfl rfl Gd.free (Rd.ldC rfl (tyrow rfl) rfl) ?_; refine XPA.pu rfl rfl Gd.free Rd.mv ?_; refine XPA.pu rfl rfl Gd.free (Rd.ixS rfl rfl) ?_; refine XPA.rd rfl rfl Gd.free (Rd.ldA rfl) ?_; refine XPA.pu rfl rfl Gd.free (Rd.fA rfl) ?_
        refine XPA.rd rfl rfl Gd.free (Rd.ldC rfl (tyrow rfl) rfl) ?_; refine XPA.pu rfl rfl Gd.free Rd.mv ?_; refine XPA.pu rfl rfl Gd.free (Rd.ixS rfl rfl) ?_; refine XPA.rd rfl rfl Gd.free (Rd.ldA rfl) ?_; refine XPA.pu rfl rfl Gd.free (Rd.neqVar (a := x) (b := y) rfl rfl) ?_; refine XPA.nil ?_
        refine zT ?_
        refine XA.condp rfl (fun hxy => ?_) (fun hxy => ?_)
        · refine zS ?_
          refine zR (zO rfl Rd.asg ?_); refine zN (zT (XA.ret (DA.inb_ret (DA.thn_ret (DA.thn_ret (DA.inb_ret (DA.thn_ret ?_)))))))
          refine bodyA.ret (ResA.one rfl rfl) (Ent.nil _) ⟨false, rfl, hno (l = m) (fun h => by injection h) (fun h => ?_), rfl, rfl⟩
          subst h
          rw [hx] at hy; simp only [Option.some.injEq] at hy
          exact absurd hy hxy
        have hxy : x = y := Decidable.not_not.1 hxy
        refine XA.skip (DA.inb_normal (zT (zR (zA rfl ?_)))); refine zO rfl zI ?_; refine zO rfl Rd.asg ?_; refine zN (zT ?_)
        refine ⟨(Keep.upd (Keep.upd (Keep.upd (Keep.upd (Keep.upd (Keep.upd (Keep.upd (Keep.upd (Keep.upd (Keep.upd (Keep.upd (Keep.upd (Keep.upd (Keep.upd (Keep.upd (Keep.upd (Keep.upd (Keep.upd (Keep.upd (Keep.upd (Keep.hav (Keep.hav (Keep.refl _ _) rfl) rfl) rfl) rfl) rfl) rfl) rfl) rfl) rfl) rfl) rfl) rfl) rfl) rfl) rfl) rfl) rfl) rfl) rfl) rfl) rfl) rfl), k + 1, _, zM, ?_, ⟨rfl, hlt, take_eq_succ hx hy htk hxy, rfl⟩, (by omega)⟩
        · exact zE
      have hkn : k = l.length := by omega
      subst hkn
      rw [List.take_length, hlm, List.take_length] at htk
      refine XA.exit (DA.thn_exit (DA.thn_exit (DA.inb_same (zT (zS (zR (zO rfl Rd.asg ?_))))))); refine zN (zT (XA.ret ?_))
      exact bodyA.ret (ResA.one rfl rfl) (Ent.nil _) ⟨true, rfl, ⟨fun _ => by rw [htk, hb1.1 rfl], fun _ => rfl⟩, rfl, rfl⟩
  · 
    refine enterA2 Tryd.func15 rfl rfl rfl ?_
    refine zS (zR ?_)
    refine XOA.wr0 rfl WrA.bx ?_
    rintro _ _ _ ⟨g2, rfl, rfl, rfl⟩
    refine XOA.wr0 rfl WrA.bx ?_
    rintro _ _ _ ⟨g3, rfl, rfl, rfl⟩
    refine zO rfl Rd.asg ?_; refine zN (zT (zS (zS (zR (zV rfl rfl ?_))))); refine zB rfl rfl (tyrow rfl) rfl ?_; refine zO rfl (Rd.lenSlice (tyrow rfl) rfl rfl) ?_; refine zV rfl rfl ?_; refine zB rfl rfl (tyrow rfl) rfl ?_; refine zO rfl (Rd.lenSlice (tyrow rfl) rfl rfl) ?_
    refine zO rfl (Rd.neq rfl rfl) ?_; refine zA rfl ?_
    first | (refine zG ?_; refine zV rfl rfl ?_) | refine zH ?_
    first | (refine zG ?_; refine zB rfl rfl (tyrow rfl) rfl ?_) | refine zH ?_
    first | (refine zG ?_; refine zV rfl rfl ?_) | refine zH ?_
    first | (refine zG ?_; refine zB rfl rfl (tyrow rfl) rfl ?_) | refine zH ?_
    first | refine zH ?_
    first | (refine zG ?_; refine zO rfl zJ ?_) | refine zH ?_
    refine zO rfl zP ?_; refine zN (zT (XA.condT rfl zY ?_)); refine zS (zR (zO rfl Rd.asg ?_)); refine zN (zT (XA.ret (DA.thn_ret ?_)))
    exact bodyA.ret (ResA.one rfl rfl) (Ent.nil _) ⟨false, rfl, hno (l = m) (fun h => by injection h) (fun h => hlm (by rw [h])), rfl, rfl⟩
end Go.Proofs.YthefnnkmpcgcmaaDoor

namespace Go.Proofs.YthefnnkmpcgcmaaDoor
open Go X
set_option maxHeartbeats 2000000
end Go.Proofs.YthefnnkmpcgcmaaDoor

namespace Go.Proofs.YthefnnkmpcgcmaaDoor
open Go X
set_option maxHeartbeats 4000000
theorem itoa2 : itoaS 2 = ⟨#[50]⟩ := by
  rw [itoaS, Lib.itoa, if_neg (by decide), Lib.decDigits, dif_pos (by decide)]; decide
def prR : Pr := ⟨[⟨⟨#[97]⟩, 2⟩], [.mk 3 0 (.mk 2 0 0 []) zeroX [] [], .mk 7 0 zeroX zeroX [] []]⟩
def litR : ByteArray := ⟨#[108, 101, 116, 32, 97, 32, 50, 10, 40, 112, 114, 105, 110, 116, 32, 40, 118, 97, 114, 32, 97, 41, 41, 10, 40, 99, 111, 109, 109, 105, 116, 41, 10]⟩
theorem prT_R : prT prR = litR := by
  rw [prT, prR, varsT, varsT, varT]
  simp only
  rw [itoa2]
  kernel_rfl
theorem printR : printP prR = .ok litR := by
  rw [printP, if_neg (by decide +kernel), prT_R, if_neg (by decide)]
theorem rbegun_a (σ : PH) (hT : Tab σ) : CallsA Tryd.prog 10 #[] σ [] (RetA fun v σ' Γ' => v = .bool true ∧ σ.sub σ' ∧ Γ' = []) := by
  refine enterA0 Tryd.func10 rfl rfl rfl ?_
  refine zS (zR (zO rfl Rd.asg ?_)); refine zN (zT (zS (zR ?_)))
  refine zO rfl (Rd.bl (fun _ _ => tyrow) rfl rfl rfl) ?_
  refine XOA.wr0 rfl (WrA.bs1 (tyrow rfl) rfl (tyrow rfl)) ?_
  rintro _ _ _ ⟨g5, rfl, rfl, rfl⟩
  refine zO rfl (Rd.bl (fun _ _ => tyrow) rfl rfl rfl) ?_
  refine zO rfl (Rd.bl (fun _ _ => tyrow) rfl rfl rfl) ?_
  refine zO rfl (Rd.bl (fun _ _ => tyrow) rfl rfl rfl) ?_
  refine XOA.wr0 rfl (WrA.bs (fun _ _ => tyrow) rfl rfl rfl rfl rfl) ?_
  rintro _ _ _ ⟨g9, rfl, rfl, rfl⟩
  refine zO rfl (Rd.bl (fun _ _ => tyrow) rfl rfl rfl) ?_
  refine XOA.frz (R := blk g5 _ 51) zL blk_frz blk_frz_mono ?_
  rintro σ1 ⟨⟩ r5 s1
  refine XOA.frz (R := blk g9 _ 56) zL blk_frz blk_frz_mono ?_
  rintro σ2 ⟨⟩ r9 s2
  have r5 := r5.mono s2
  have nilE : ∀ σ, PSl 4 ExAt σ (.slice none 0 0) [] := fun σ => PSl.nil 4 ExAt σ
  have nilS : ∀ σ, PSl 12 StAt σ (.slice none 0 0) [] := fun σ => PSl.nil 12 StAt σ
  have okz : ∀ n : Int, -1000 ≤ n → n ≤ 1000 → i64ok n := fun n h1 h2 => ⟨by omega, by omega⟩
  have leaf : ∀ a : Int, -1000 ≤ a → a ≤ 1000 → ExAt σ2 [i64 a, i64 0, i64 0, .slice none 0 0] (.mk a 0 0 []) := fun a h1 h2 => ExAt.of (okz _ h1 h2) (okz _ (by decide) (by decide)) (okz _ (by decide) (by decide)) (nilE σ2)
  have hV : ExAt σ2 [i64 2, i64 0, i64 0, .slice none 0 0] (.mk 2 0 0 []) := leaf 2 (by decide) (by decide)
  have hZ : ExAt σ2 [i64 0, i64 0, i64 0, .slice none 0 0] zeroX := leaf 0 (by decide) (by decide)
  have t1 : StAt σ2 [i64 3, i64 0, i64 2, i64 0, i64 0, .slice none 0 0, i64 0, i64 0, i64 0, .slice none 0 0, .slice none 0 0, .slice none 0 0] (.mk 3 0 (.mk 2 0 0 []) zeroX [] []) := StAt.of (okz _ (by decide) (by decide)) (okz _ (by decide) (by decide)) hV hZ (nilS σ2) (nilS σ2)
  have t2 : StAt σ2 [i64 7, i64 0, i64 0, i64 0, i64 0, .slice none 0 0, i64 0, i64 0, i64 0, .slice none 0 0, .slice none 0 0, .slice none 0 0] (.mk 7 0 zeroX zeroX [] []) := StAt.of (okz _ (by decide) (by decide)) (okz _ (by decide) (by decide)) hZ hZ (nilS σ2) (nilS σ2)
  have hbs : PSl 12 StAt σ2 (.slice (some ⟨g9, 0, none⟩) 2 2) prR.body := Rows_.psl (((Rows_.nil 12 StAt σ2).snoc rfl t1).snoc rfl t2) rfl ⟨Nat.le_refl _, by simp [maxLen], rfl, fun _ => ⟨g9, 0, rfl, r9⟩⟩
  have hvs : PSl 2 rVa σ2 (.slice (some ⟨g5, 0, none⟩) 1 1) prR.vars := by
    refine Rows_.psl (rows := [[.string ⟨#[97]⟩, i64 2]]) ⟨rfl, by simp, fun i row x a b => ?_⟩ rfl ⟨Nat.le_refl _, by simp [maxLen], rfl, fun _ => ⟨g5, 0, rfl, r5⟩⟩
    match i with
    | 0 => simp [prR] at a b; subst a; subst b; exact ⟨rfl, okz _ (by decide) (by decide), by simp [maxLen, ByteArray.size]⟩
    | i + 1 => simp at a
  have hp0 : PrAt σ2 [.slice (some ⟨g5, 0, none⟩) 1 1, .slice (some ⟨g9, 0, none⟩) 2 2] prR := ⟨_, _, rfl, hvs, hbs⟩
  have hpr := print_w σ2 _ prR hp0 (hT.mono (s1.trans s2))
  rw [printR] at hpr
  dsimp only [okB, errC, errA] at hpr
  refine XOA.wr0 rfl (WrA.cE (hpr) rfl) ?_
  rintro _ _ _ ⟨_, ⟨rfl, rfl, rfl⟩, rfl⟩
  refine XOA.cl ?_; refine zA rfl ?_; refine zO rfl (Rd.extract rfl rfl) ?_; refine zO rfl (Rd.extract rfl rfl) ?_
  refine XOA.wr0 rfl (WrA.alloc (tyrow rfl)) ?_
  rintro _ _ _ ⟨g2, rfl, rfl, rfl⟩
  refine zO rfl Rd.asg ?_
  refine XOA.wr0 rfl (WrA.st (tyrow rfl) rfl) ?_
  rintro _ _ _ ⟨rfl, rfl, rfl⟩
  refine zN (zT (zS (zR (zV rfl rfl ?_)))); refine zB rfl rfl (tyrow rfl) rfl ?_; refine zO rfl (Rd.eql rfl rfl) ?_; refine zA rfl ?_
  first | (refine zG ?_; refine zA rfl ?_) | refine zH ?_
  first | (refine zG ?_; refine zO rfl (Rd.eqls rfl rfl) ?_) | refine zH ?_
  refine zO rfl zP ?_; refine zO rfl Rd.asg ?_; refine zN (zT (XA.ret ?_))
  exact bodyA.ret (ResA.one rfl rfl) (Ent.nil _) ⟨rfl, s1.trans s2, rfl⟩
end Go.Proofs.YthefnnkmpcgcmaaDoor

namespace Go.Proofs.YthefnnkmpcgcmaaDoor
open Go X
set_option maxHeartbeats 4000000
end Go.Proofs.YthefnnkmpcgcmaaDoor

namespace Go.Proofs.YthefnnkmpcgcmaaDoor
open Go X
set_option maxHeartbeats 4000000
theorem parse_ok (σ : PH) {s : ByteArray} {pr : Pr} (hs : s.size ≤ 100000000) (hT : Tab σ) (hE : Errs σ) (h : parseP s = .ok pr) : CallsA Tryd.prog 20 #[.string s] σ [] (RetA fun v σ' Γ' => ∃ pv cv pb cb, v = .tuple #[.agg #[.slice pv pr.vars.length cv, .slice pb pr.body.length cb], .agg #[i64 0, i64 0]] ∧ PrAt σ' [.slice pv pr.vars.length cv, .slice pb pr.body.length cb] pr ∧ σ.sub σ' ∧ Γ' = []) := by
  refine (parse_p σ s hs hT hE).mono fun e σ' Γ' hh => ?_
  cases e with
  | returned v =>
    obtain ⟨cs, rfl, hp, hs, rfl⟩ := hh
    rw [h] at hp
    have hp0 := hp
    obtain ⟨vs, bs, rfl, hv, hb⟩ := hp
    obtain ⟨pv, cv, rfl, -, -⟩ := hv.shape
    obtain ⟨pb, cb, rfl, -, -⟩ := hb.shape
    exact ⟨pv, cv, pb, cb, by rw [h]; rfl, hp0, hs, rfl⟩
  | _ => exact False.elim hh
end Go.Proofs.YthefnnkmpcgcmaaDoor

namespace Go.Proofs.YthefnnkmpcgcmaaDoor
open Go X
set_option maxHeartbeats 4000000
theorem printP_err {p : Pr} {x : Int × Int} (h : printP p = .error x) : x.1 ≠ 0 := by
  rw [printP] at h
  split at h
  · rename_i hc; cases h; exact hc
  · split at h
    · cases h; show (3 : Int) ≠ 0; decide
    · cases h
theorem printP_size {p : Pr} {s : ByteArray} (h : printP p = .ok s) : s.size ≤ 6000 ∧ checkP p = 0 := by
  rw [printP] at h
  split at h
  · cases h
  · split at h
    · cases h
    · cases h; exact ⟨by omega, by omega⟩
theorem print_ok (σ : PH) (cs : List Value) (p : Pr) (hp : PrAt σ cs p) (hT : Tab σ) {s : ByteArray} (h : printP p = .ok s) : CallsA Tryd.prog 13 #[.agg cs.toArray] σ [] (RetA fun v σ' Γ' => v = .tuple #[.string s, .agg #[i64 0, i64 0]] ∧ σ = σ' ∧ Γ' = []) := by
  have := print_w σ cs p hp hT
  rw [h] at this
  exact this
theorem print_no (σ : PH) (cs : List Value) (p : Pr) (hp : PrAt σ cs p) (hT : Tab σ) {x1 x2 : Int} (h : printP p = .error (x1, x2)) : CallsA Tryd.prog 13 #[.agg cs.toArray] σ [] (RetA fun v σ' Γ' => v = .tuple #[.string ByteArray.empty, .agg #[i64 x1, i64 x2]] ∧ σ = σ' ∧ Γ' = []) := by
  have := print_w σ cs p hp hT
  rw [h] at this
  exact this
theorem rback_law (σ : PH) (cs : List Value) (p : Pr) (hp : PrAt σ cs p) (hT : Tab σ) (hE : Errs σ) : CallsA Tryd.prog 9 #[.agg cs.toArray] σ [] (RetA fun r σ' _ => r = .bool true ∧ σ.sub σ') := by
  have hp0 := hp
  obtain ⟨vs, bs, rfl, hv, hb⟩ := hp
  refine enterA1 Tryd.func9 rfl rfl rfl ?_
  refine zS (zR ?_)
  refine XOA.wr0 rfl WrA.bx ?_
  rintro _ _ _ ⟨g1, rfl, rfl, rfl⟩
  refine zO rfl Rd.asg ?_; refine zN (zT (zS (zS (zR ?_))))
  refine XOA.wr0 rfl (WrA.cE (rbegun_a σ hT) rfl) ?_
  rintro _ σ1 _ ⟨_, ⟨rfl, hs1, rfl⟩, rfl⟩
  refine XOA.cl ?_
  have hT1 := hT.mono hs1
  have hE1 := hE.mono hs1
  have hp1 := hp0.mono hs1
  refine zO rfl zJ ?_; refine zN (zT (XA.condF rfl rfl (XA.skip (zT (zS (zS (zR (zO rfl (Rd.ldA rfl) ?_))))))))
  refine XOA.wr0 rfl (WrA.cE (great_a σ1 _ p hp1) rfl) ?_
  rintro _ _ _ ⟨_, ⟨b1, rfl, hsm1, rfl, rfl⟩, rfl⟩
  refine XOA.cl ?_; refine zN (zT ?_)
  refine XA.cond rfl (fun hq => ?_) (fun hq => ?_)
  · refine zS ?_
    refine zR (zO rfl Rd.asg ?_); refine zN (zT (XA.ret (DA.thn_ret ?_)))
    exact bodyA.ret (ResA.one rfl rfl) (Ent.nil _) ⟨rfl, hs1⟩
  refine XA.skip (zT (zS (zR (zO rfl (Rd.ldA rfl) ?_))))
  cases hP : printP p with
  | error x =>
    obtain ⟨x1, x2⟩ := x
    have hx : x1 ≠ 0 := printP_err hP
    refine XOA.wr0 rfl (WrA.cE (print_no σ1 _ p hp1 hT1 hP) rfl) ?_
    rintro _ _ _ ⟨_, ⟨rfl, rfl, rfl⟩, rfl⟩
    refine XOA.cl ?_; refine zA rfl ?_; refine zO rfl (Rd.extract rfl rfl) ?_; refine zO rfl (Rd.extract rfl rfl) ?_
    refine XOA.wr0 rfl (WrA.alloc (tyrow rfl)) ?_
    rintro _ _ _ ⟨g4, rfl, rfl, rfl⟩
    refine zO rfl Rd.asg ?_
    refine XOA.wr0 rfl (WrA.st (tyrow rfl) rfl) ?_
    rintro _ _ _ ⟨rfl, rfl, rfl⟩
    refine zN (zT (zS (zS (zR (zV rfl rfl ?_))))); refine zB rfl rfl (tyrow rfl) rfl ?_; refine zO rfl (Rd.neq rfl rfl) ?_; refine zN (zT (XA.condT rfl (by first | rfl | exact decide_eq_true hx) ?_)); refine zS (zR (zA rfl ?_)); refine zO rfl (Rd.eqls rfl rfl) ?_; refine zO rfl Rd.asg ?_
    refine zN (zT (XA.ret (DA.thn_ret ?_)))
    exact bodyA.ret (ResA.one rfl rfl) (Ent.nil _) ⟨rfl, hs1⟩
  | ok s =>
    obtain ⟨h6, hc⟩ := printP_size hP
    have hback := print_back hp0.i hP
    have hself : s = s := rfl
    refine XOA.wr0 rfl (WrA.cE (print_ok σ1 _ p hp1 hT1 hP) rfl) ?_
    rintro _ _ _ ⟨_, ⟨rfl, rfl, rfl⟩, rfl⟩
    refine XOA.cl ?_; refine zA rfl ?_; refine zO rfl (Rd.extract rfl rfl) ?_; refine zO rfl (Rd.extract rfl rfl) ?_
    refine XOA.wr0 rfl (WrA.alloc (tyrow rfl)) ?_
    rintro _ _ _ ⟨g4, rfl, rfl, rfl⟩
    refine zO rfl Rd.asg ?_
    refine XOA.wr0 rfl (WrA.st (tyrow rfl) rfl) ?_
    rintro _ _ _ ⟨rfl, rfl, rfl⟩
    refine zN (zT (zS (zS (zR (zV rfl rfl ?_))))); refine zB rfl rfl (tyrow rfl) rfl ?_; refine zO rfl (Rd.neq rfl rfl) ?_; refine zN (zT ?_)
    refine XA.condF rfl (by first | rfl | exact decide_eq_false (fun h => h rfl)) ?_
    refine XA.skip (zT (zS (zR (zA rfl ?_))))
    refine XOA.wr0 rfl (WrA.cE (parse_ok σ1 (by omega) hT1 hE1 hback) rfl) ?_
    rintro _ σ2 _ ⟨_, ⟨pv, cv, pb, cb, rfl, hp2, hs2, rfl⟩, rfl⟩
    refine XOA.cl ?_
    have hp12 := hp1.mono hs2
    refine zA rfl ?_; refine zO rfl (Rd.extract rfl rfl) ?_; refine zO rfl (Rd.extract rfl rfl) ?_
    refine XOA.wr0 rfl (WrA.alloc (tyrow rfl)) ?_
    rintro _ _ _ ⟨g5, rfl, rfl, rfl⟩
    refine XOA.wr0 rfl (WrA.alloc (tyrow rfl)) ?_
    rintro _ _ _ ⟨g6, rfl, rfl, rfl⟩
    refine XOA.wr0 rfl (WrA.st (tyrow rfl) rfl) ?_
    rintro _ _ _ ⟨rfl, rfl, rfl⟩
    refine XOA.wr0 rfl (WrA.st (tyrow rfl) rfl) ?_
    rintro _ _ _ ⟨rfl, rfl, rfl⟩
    refine zN (zT (zS (zR (zO rfl (Rd.ldA rfl) ?_))))
    refine XOA.wr0 rfl (WrA.cE (print_ok σ2 _ p hp2 (hT1.mono hs2) hP) rfl) ?_
    rintro _ _ _ ⟨_, ⟨rfl, rfl, rfl⟩, rfl⟩
    refine XOA.cl ?_; refine zA rfl ?_; refine zO rfl (Rd.extract rfl rfl) ?_; refine zO rfl (Rd.extract rfl rfl) ?_
    refine XOA.wr0 rfl (WrA.alloc (tyrow rfl)) ?_
    rintro _ _ _ ⟨g8, rfl, rfl, rfl⟩
    refine zO rfl Rd.asg ?_
    refine XOA.wr0 rfl (WrA.st (tyrow rfl) rfl) ?_
    rintro _ _ _ ⟨rfl, rfl, rfl⟩
    refine zN (zT (zS (zR (zV rfl rfl ?_)))); refine zB rfl rfl (tyrow rfl) rfl ?_; refine zO rfl (Rd.eql rfl rfl) ?_; refine zA rfl ?_
    first | (refine zG ?_; refine zV rfl rfl ?_) | refine zH ?_
    first | (refine zG ?_; refine zB rfl rfl (tyrow rfl) rfl ?_) | refine zH ?_
    first | (refine zG ?_; refine zO rfl (Rd.eql rfl rfl) ?_) | refine zH ?_
    refine zO rfl zP ?_; refine zA rfl ?_
    first | (refine zG ?_; refine zA rfl ?_) | refine zH ?_
    first | (refine zG ?_; refine zA rfl ?_) | refine zH ?_
    first | (refine zG ?_; refine zO rfl (Rd.eqls rfl rfl) ?_) | refine zH ?_
    refine zO rfl zP ?_; refine zA rfl ?_
    first | (refine zG ?_; refine zO rfl (Rd.ldA rfl) ?_) | refine zH ?_
    first | (refine zG ?_; refine zO rfl (Rd.ldA rfl) ?_) | refine zH ?_
    first | refine XOA.wanted rfl rfl ?_ | refine XOA.wq rfl rfl ?_
    refine XOA.wr0 rfl (WrA.cE (rsame_a σ2 _ _ p p hp12 hp2) rfl) ?_
    rintro _ _ _ ⟨_, ⟨b, rfl, hb1, rfl, rfl⟩, rfl⟩
    refine XOA.cl ?_
    obtain rfl : b = true := hb1.2 rfl
    refine zO rfl zP ?_; refine zO rfl Rd.asg ?_; refine zN (zT (XA.ret ?_))
    exact bodyA.ret (ResA.one rfl rfl) (Ent.nil _) ⟨rfl, hs1.trans hs2⟩
end Go.Proofs.YthefnnkmpcgcmaaDoor

namespace Go.Proofs.YthefnnkmpcgcmaaDoor
open Go X Go.RowKit
set_option maxHeartbeats 1000000
abbrev laid5 : List (String × DataW Unit) := [("math/bits.deBruijn32tab", Rows.laid_math_bits_deBruijn32tab), ("math/bits.deBruijn64tab", Rows.laid_math_bits_deBruijn64tab), ("internal/strconv.uint64pow10", Rows.laid_internal_strconv_uint64pow10), ("strconv.ErrRange", Rows.laid_strconv_ErrRange), ("strconv.ErrSyntax", Rows.laid_strconv_ErrSyntax)]
theorem star : "*" ++ "errors.errorString" = "*errors.errorString" := by decide
theorem errRow (u : TypeId) (h : Tryd.prog.typeName? 3 u = some "*errors.errorString") : u = 158 :=
  typeName_ptr_named (nm := "errors.errorString") (by rw [star]; kernel_rfl) (by kernel_rfl) (by decide) u (by rw [star]; exact h)
theorem var_le {W w : World} {n : String} {cs : Array Value} (hw : (ofHeap W.heap).le w.heap) (h : W.var? Tryd.prog n = some cs) : w.var? Tryd.prog n = some cs := by
  unfold World.var? at h ⊢
  cases hg : Tryd.prog.globalNamed n with
  | none => simp [hg] at h
  | some g =>
    simp only [hg, Option.bind_some] at h ⊢
    cases ho : W.heap[g]? with
    | none => simp [ho] at h
    | some o =>
      have := hw g o ho
      rw [this]
      rw [ho] at h
      exact h
theorem var_row {W : World} {n : String} {g : Nat} {cs : Array Value} (hg : Tryd.prog.globalNamed n = some g) (h : W.var? Tryd.prog n = some cs) : PRow (ofHeap W.heap) g 0 cs.toList := by
  unfold World.var? at h
  simp only [hg, Option.bind_some] at h
  split at h
  · rename_i cs' T fr he
    cases h
    exact ⟨_, _, _, he, by rw [List.drop_zero]; exact List.take_of_length_le (Nat.le_refl _)⟩
  · cases h
theorem list1 {α : Type} {l : List α} (h : l.length = 1) : ∃ a, l = [a] := by
  match l, h with
  | [a], _ => exact ⟨a, rfl⟩
theorem errField : ∃ f : Field, Tryd.prog.underlying 160 = some (.struct #[f]) ∧ f.type = 9 ∧ f.offset = 0 := by
  have hu : Tryd.prog.underlying 160 = some (.struct (Tryd.prog.fieldsOf 160)) := by kernel_rfl
  have hf : (Tryd.prog.fieldsOf 160).toList.map (fun f => (f.type, f.offset)) = [(9, 0)] := by kernel_rfl
  obtain ⟨f, hl⟩ := list1 (l := (Tryd.prog.fieldsOf 160).toList) (by simpa using congrArg List.length hf)
  rw [hl] at hf
  simp only [List.map_cons, List.map_nil, List.cons.injEq, Prod.mk.injEq, and_true] at hf
  refine ⟨f, ?_, hf.1, hf.2⟩
  rw [hu, ← Array.toArray_toList (xs := Tryd.prog.fieldsOf 160), hl]
theorem laid_facts {W : World} (h : laidMet Tryd.prog laid5 W) : Tab (ofHeap W.heap) ∧ Errs (ofHeap W.heap) := by
  have ht := Lib.tabIs_of_head (P := Tryd.prog) (W := W) (k := .u64) (zs := Lib.pow10Tab) (g := 0) (t := 148) (e := 136) (n := 20) (by kernel_rfl) (by kernel_rfl) (by kernel_rfl) (by kernel_rfl) (by kernel_rfl) (by kernel_rfl) h.tail.tail
  obtain ⟨f, hf1, hf2, hf3⟩ := errField
  obtain ⟨a1, s1, hv1, -, -, -⟩ := laid_sentinel h.tail.tail.tail (g := 2) (by kernel_rfl) (ti := 97) (by kernel_rfl) err_if.choose_spec errRow (te := 160) (by kernel_rfl) hf1 hf2 hf3 (by kernel_rfl) (by kernel_rfl) (by kernel_rfl)
  obtain ⟨a2, s2, hv2, -, -, -⟩ := laid_sentinel h.tail.tail.tail.tail (g := 1) (by kernel_rfl) (ti := 97) (by kernel_rfl) err_if.choose_spec errRow (te := 160) (by kernel_rfl) hf1 hf2 hf3 (by kernel_rfl) (by kernel_rfl) (by kernel_rfl)
  refine ⟨fun w hw => ?_, _, _, var_row (by kernel_rfl) hv2, .inr ⟨_, _, rfl⟩, var_row (by kernel_rfl) hv1, .inr ⟨_, _, rfl⟩⟩
  unfold Lib.TabIs at ht ⊢
  exact var_le hw ht
abbrev synS : ByteArray := { data := #[105, 110, 118, 97, 108, 105, 100, 32, 115, 121, 110, 116, 97, 120] }
abbrev rngS : ByteArray := { data := #[118, 97, 108, 117, 101, 32, 111, 117, 116, 32, 111, 102, 32, 114, 97, 110, 103, 101] }
noncomputable def low : Nat := (World.holding Tryd.prog default ⟨#[], #[], []⟩).heap.size
def setCells (cs : Array Value) : Obj → Obj
  | .cells _ t frozen => .cells cs t frozen
  | o => o
def tabOf (d : DataW Unit) : Array Value := match d with
  | .agg l => (l.map fun d => match d with | .lit (.int k z) => Value.int k z | _ => undef).toArray
  | _ => #[]
/-- The settled world with the listed variables as their initialisers lay them. -/
noncomputable def laidWorld (os : Os) : World :=
  let w0 := World.holding Tryd.prog os ⟨#[.cells #[.string synS] 160, .cells #[.string rngS] 160], #[], []⟩
  { w0 with heap := ((((w0.heap.modify 1 (setCells #[.iface 158 (.pointer (some ⟨low, 0, none⟩))])).modify 2 (setCells #[.iface 158 (.pointer (some ⟨low + 1, 0, none⟩))])).modify 0 (setCells (tabOf Rows.laid_internal_strconv_uint64pow10))).modify
      3 (setCells (tabOf Rows.laid_math_bits_deBruijn32tab))).modify 4 (setCells (tabOf Rows.laid_math_bits_deBruijn64tab)) }
set_option maxRecDepth 100000 in
theorem laidWorld_met (os : Os) (args : Array Value) : laidMet Tryd.prog laid5 ((laidWorld os).forCall (fun _ _ => 0) ⟨#[], args, []⟩).memory :=
  laidMet_of_run' 8 (by kernel_rfl) (by kernel_rfl)
end Go.Proofs.YthefnnkmpcgcmaaDoor

namespace Go.Proofs.YthefnnkmpcgcmaaDoor
open Go X Go.ChangeShapes Go.WideShapes Go.ChangeAt Go.RowKit
set_option maxRecDepth 100000 in
theorem renderBack_lifted (os : Os) (started : os.Started) (H : Type) (enc : TypeId × Value → H) :
    ReturnsInHanded {} Tryd.checked os 9 .any (fun w args => (Rows.renderBackSpec.pre enc Tryd.prog Tryd.f9 Rows.renderBackRow.domain false w args ∧ laidMet Tryd.prog laid5 w) ∧ sizedMet enc Tryd.prog Tryd.f9 (OpenSpec.ofChange Rows.renderBackSpec) false w args)
      (Rows.renderBackSpec.post enc Tryd.prog Tryd.f9 false true false false) := by
  refine returnsInHanded_of_change_and (C := Tryd.checked) (X := fun w _ => laidMet Tryd.prog laid5 w) (fun _ _ _ hh h => h.of_heap hh) Tryd.own started (by kernel_rfl) Tryd.func9
    (ChangeSpec.witness_at (enc := enc) (C := Tryd.checked) (os := os) (X := fun w _ => laidMet Tryd.prog laid5 w) false (laidWorld os) #[.agg #[.slice none 0 0, .slice none 0 0]] 8 rfl (by kernel_rfl) (by kernel_rfl) (by kernel_rfl) (by kernel_rfl) (by kernel_rfl) (laidWorld_met os _)) ?_
  intro W base args ds gs before hval0 hW _ _ hL _
  have hval : ∀ (j : Nat) t v, Tryd.f9.params[j]? = some t → args[j]? = some v → Value.okWide Tryd.prog W .any base t v := hval0
  have hW' := hW
  obtain ⟨p, q, hA0, hV, rfl, hfz, hnd⟩ := hW
  have hA : DataW.TrodAll enc Tryd.prog W 0 (fun _ => true) true [25] args.toList ds p := hA0
  obtain ⟨v0, d0, rfl, rfl, h0⟩ := trodAll_one hA
  have hb : Tryd.prog.underlying 4 = some .bool := by kernel_rfl
  refine post_true (fid := 9) (tb := 4) Tryd.laidOut (by kernel_rfl) rfl rfl hb ?_ hW' (callsX_true ?_)
  · obtain ⟨rfl, rfl⟩ := trodVars_none hV; rfl
  · obtain ⟨pr, cs, rfl, hp⟩ := Dec.agg dec_pr (tyrow rfl) rfl (hval 0 _ v0 rfl rfl) h0
    obtain ⟨hT, hE⟩ := laid_facts hL
    exact rback_law _ cs pr hp hT hE
theorem renderBack_row : Rows.RenderBackSaid :=
  OpenClaim.holds_of_wide 9 Tryd.f9 rfl rfl rfl rfl rfl rfl rfl ⟨rfl, rfl, rfl, rfl, rfl⟩ rfl rfl rfl rfl rfl (by kernel_rfl) Tryd.func9 (by kernel_rfl)
    (of_decide_eq_true (by kernel_rfl)) (by unfold Func.isWrapper; first | (rw [if_pos (by decide +kernel)]; kernel_rfl) | (rw [if_neg (by decide +kernel)]; exact ⟨rfl, rfl⟩))
    (fun os started H enc _ => renderBack_lifted os started H enc)
theorem renderBack_holds : Rows.RenderBackCardSaid :=
  Claim7.holds_tied_plain_at .later [] [.data, .data, .data, .sentinel, .sentinel] true (true, "9fbee17c67760fa0909904053e84e62a0a224b532630f95ef45ea5d0c49ecdd4") true
    renderBack_row (fun _ h => by cases h) (by kernel_rfl) (fun _ h => by cases h) renderBack_row_tie rfl ⟨rfl, rfl⟩ (by kernel_rfl) rfl
    (fun f fn hf hfn => by
      obtain rfl : f = 9 := Option.some.inj ((show Tryd.prog.funcNamed "overwinter/overwinterlaw.RenderBack" = some 9 by kernel_rfl).symm.trans hf) |>.symm
      obtain rfl : fn = Tryd.f9 := (Option.some.inj (Tryd.func9.symm.trans hfn)).symm
      exact ⟨by kernel_rfl, fun j t ht => by
        have hm : t ∈ [25] := by simpa using Array.mem_of_getElem? ht
        have hall : ([25].all fun u => !Tryd.prog.wantsStandIn u) = true := by kernel_rfl
        exact (show Tryd.prog.wantsStandIn t = false by simpa using List.all_eq_true.1 hall t hm)⟩)
    (by kernel_rfl)
end Go.Proofs.YthefnnkmpcgcmaaDoor

