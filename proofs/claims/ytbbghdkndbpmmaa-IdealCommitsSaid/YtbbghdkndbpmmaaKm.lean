/- Package compile: Make. -/
import Derived.Test.YtbbghdkndbpmmaaKs
namespace Go.Proofs.Ytbbghdkndbpmmaa
open Go X
set_option maxHeartbeats 1000000
def rIn : RT In := fun _ cs i => cs = inC i
theorem size_le : ∀ {l : List Va}, (∀ x ∈ l, 1 ≤ x.size) → ∀ x ∈ l, x.size ≤ sizes l
  | y :: l, h, x, hx => by
    have h1 := h y (by simp)
    have h2 := sizes_nonneg (l := l) (fun z hz => h z (by simp [hz]))
    rw [sizes_cons]
    rcases List.mem_cons.1 hx with rfl | hx
    · omega
    · have := size_le (l := l) (fun z hz => h z (by simp [hz])) x hx; omega
theorem check_small {p : Pr} (h : checkP p = 0) : (∀ x ∈ p.vars, 0 ≤ x.size ∧ x.size ≤ 1000) ∧ p.vars.length ≤ 1000 := by
  obtain ⟨-, h1, h2, h3⟩ := check_valid h
  exact ⟨fun x hx => by have a := h2 x hx; have b := size_le h2 x hx; omega, by omega⟩
theorem rows_in (σ : PH) (l : List In) : Rows_ 4 rIn σ (l.map inC) l :=
  ⟨by simp, fun r hr => by obtain ⟨i, -, rfl⟩ := List.mem_map.1 hr; rfl, fun k r x hr hx => by rw [List.getElem?_map, hx] at hr; simpa [rIn] using hr.symm⟩
theorem codeOf_len (p : Pr) : (codeOf p).length ≤ stsN p.body + 1 := by rw [codeOf, List.length_append]; have := stsCode_len p.vars p.body 0; simp; omega
theorem make_a (σ : PH) (cs : List Value) (p : Pr) (hp : PrAt σ cs p) (hN : stsN p.body ≤ 10000) :
    CallsA Try.prog 30 #[.agg cs.toArray] σ [] (RetA fun v σ' Γ' => ∃ sl, v = .tuple #[sl, i64 (checkP p)] ∧ PSl 4 rIn σ' sl (if checkP p = 0 then codeOf p else []) ∧ σ.sub σ' ∧ Γ' = []) := by
  have hp0 := hp
  obtain ⟨vs, bs, rfl, hv, hb⟩ := hp
  obtain ⟨pv, cv, rfl, hvl, hvm⟩ := hv.shape
  refine enterA1 Try.func30 rfl rfl rfl ?_
  refine zS ?_; refine zR ?_
  refine XOA.wr0 rfl WrA.bx ?_
  rintro _ _ _ ⟨g1, rfl, rfl, rfl⟩
  refine zO rfl Rd.asg ?_; refine zO rfl Rd.asg ?_; refine zN ?_; refine zT ?_; refine zS ?_; refine zS ?_; refine zR ?_; refine zO rfl (Rd.ldA rfl) ?_
  refine XOA.wr0 rfl (WrA.cE (check_a σ _ p hp0) rfl) ?_
  rintro _ _ _ ⟨_, ⟨rfl, rfl, rfl⟩, rfl⟩
  refine XOA.cl ?_
  refine zO rfl Rd.asg ?_; refine zN ?_; refine zT ?_; refine zS ?_; refine zR ?_; refine zO rfl Rd.mv ?_
  refine zO rfl (Rd.neq rfl rfl) ?_
  refine zN ?_; refine zT ?_
  refine XA.condp rfl (fun hc => ?_) (fun hc => ?_)
  · refine zS ?_
    refine zR ?_; refine zO rfl Rd.mv ?_; refine zO rfl Rd.asg ?_; refine zO rfl Rd.asg ?_; refine zN ?_; refine zT ?_
    refine XA.ret ?_
    refine DA.thn_ret ?_
    rw [if_neg hc]
    exact bodyA.ret (ResA.two rfl rfl rfl) (Ent.nil _) ⟨_, rfl, PSl.nil _ _ _, .refl _, rfl⟩
  have hc : checkP p = 0 := by omega
  obtain ⟨hz, hl⟩ := check_small hc
  obtain ⟨hV, -, -, -⟩ := check_valid hc
  refine XA.skip ?_
  refine zT ?_; refine zS ?_; refine zR ?_; refine zO rfl (Rd.ldA rfl) ?_
  refine zO rfl (Rd.bl (fun _ _ => tyrow) rfl rfl rfl) ?_
  refine XOA.wr0 rfl WrA.bx ?_
  rintro _ _ _ ⟨g13, rfl, rfl, rfl⟩
  refine zO rfl Rd.asg ?_; refine zN ?_; refine zT ?_; refine zS ?_; refine zR ?_; refine zO rfl Rd.mv ?_; refine zO rfl (Rd.fA rfl) ?_; refine zO rfl (Rd.ldC rfl (tyrow rfl) rfl) ?_
  have hls := fun b => list_i σ p p.body (fun x _ => stmt_i σ p hz hl x) bs b pv cv bs none 0 [] hp0 hb hV (by simp only [List.length_nil]; omega)
  simp only [List.nil_append, List.length_nil, show insC [] = [] from rfl] at hls
  refine XOA.wr0 rfl (WrA.cE (hls _) rfl) ?_
  rintro _ _ _ ⟨_, ⟨p7, c7, rfl, rfl, rfl⟩, rfl⟩
  refine XOA.cl ?_
  have hln := stsCode_len p.vars p.body 0
  refine zN ?_; refine zT ?_; refine zS ?_; refine zR ?_; refine zO rfl Rd.mv ?_
  refine zO rfl (Rd.bl (fun _ _ => tyrow) rfl rfl rfl) ?_
  refine XOA.wr0 rfl (WrA.cE (put_i σ _ _ _ _ _ (stsCode p.vars p.body 0) ⟨16, 0, 0, 0⟩ (by omega)) rfl) ?_
  rintro _ _ _ ⟨_, ⟨p8, c8, rfl, rfl, rfl⟩, rfl⟩
  refine XOA.cl ?_
  refine zN ?_; refine zT ?_; refine zS ?_; refine zR ?_; refine zO rfl Rd.mv ?_; refine zO rfl (Rd.nilCheck rfl) ?_; refine zO rfl (Rd.fA rfl) ?_; refine zO rfl (Rd.ldC rfl (tyrow rfl) rfl) ?_; refine zO rfl Rd.asg ?_; refine zO rfl Rd.asg ?_; refine zN ?_; refine zT ?_
  refine XA.ret ?_
  refine DA.frz (R := lst 55 4 _ _ _) (by ((repeat (first | with_reducible exact Sel.head | apply Sel.tail)); (first | done | fail))) lst_frz lst_frz_mono ?_
  rintro σ3 ⟨⟩ hf hs3
  rw [if_pos hc, hc]
  exact bodyA.ret (ResA.two rfl rfl rfl) (Ent.nil _) ⟨_, rfl, (rows_in σ3 (codeOf p)).psl rfl hf, hs3, rfl⟩
end Go.Proofs.Ytbbghdkndbpmmaa
