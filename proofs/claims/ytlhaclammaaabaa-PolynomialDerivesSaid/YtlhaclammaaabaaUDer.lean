import Derived.Test.YtlhaclammaaabaaB42
import Derived.Test.YtlhaclammaaabaaB47
import Derived.Test.YtlhaclammaaabaaUMul
/-! Derivatives of polynomials. -/
namespace Go.Proofs.Ytlhaclammaaabaa.Pg
open Go.RowKit Go.Proofs.YtlhaclammaaabaaW.PrintWords Go.Proofs.YtlhaclammaaabaaW.PrintLast Go.Proofs.YtlhaclammaaabaaW.PrintMore
open Go.Proofs.Ytlhaclammaaabaa.Alg (CF card pw Ser Bd sadd pmul tl sh ns der)
set_option linter.unusedVariables false
set_option linter.unusedSimpArgs false
section
variable {c s p : Int} (M : Model c s p)
include M in
theorem char_pos : ∃ q : Nat, c = q ∧ 2 ≤ q ∧ q ≤ 4096 := by
  rcases M.good with ⟨h, _⟩ | ⟨_, q, h1, _, h3, h4, _⟩
  · exact ⟨2, h, by omega, by omega⟩
  · exact ⟨q, h1, by omega, h4⟩
theorem v_ns {q : Nat} (hq : c = q) (n : Nat) : M.v (ns n (1 : M.K)) = ((n % q : Nat) : Int) := by
  by_cases h2 : c = 2
  · have : q = 2 := by omega
    subst this
    induction n with
    | zero => exact M.zero
    | succ n ih =>
      show M.v (ns n 1 + 1) = _
      rw [← M.xadd h2, ih, M.one, show (1 : Int) = ((1 : Nat) : Int) from rfl, bxor (by omega) (by omega)]
      have : n % 2 = 0 ∨ n % 2 = 1 := by omega
      rcases this with h | h
      · rw [h, show (n + 1) % 2 = 1 from by omega]; rfl
      · rw [h, show (n + 1) % 2 = 0 from by omega]; rfl
  · obtain ⟨_, q', h1, h3, h4, h5, _⟩ := good_odd h2 M.good
    have hqq : q = q' := by omega
    subst hqq
    induction n with
    | zero => rw [Nat.zero_mod]; exact M.zero
    | succ n ih =>
      show M.v (ns n 1 + 1) = _
      have hlt := Nat.mod_lt n (show 0 < q by omega)
      rw [← M.madd h2, ih, M.one, w64 (by omega) (by omega), h3, show ((n % q : Nat) : Int) + 1 = ((n % q + 1 : Nat) : Int) from rfl, tmod_nat, Nat.mod_add_mod]
theorem ns_one (n : Nat) (a : M.K) : ns n a = a * ns n 1 := by
  have := Alg.ns_mul n a 1
  rwa [Alg.mul_one] at this
theorem ns_char {q : Nat} (hq : c = q) (n : Nat) (a : M.K) : ns (n % q) a = ns n a := by
  rw [ns_one M, ns_one M n]
  congr 1
  apply M.inj
  rw [v_ns M hq, v_ns M hq, Nat.mod_mod]
theorem ev_Derive_l {l : List Int} (hl : inB s l = true) (hll : l.length < 2 ^ 40) (j : Nat) : ∀ i : Nat, i + j = l.length →
    Ev (fun k => polynomial_Derive.l0 k (mk M (der (co M l)) (i - 1)) l (l.length : Int) (i : Int) c s p) (trim (mk M (der (co M l)) (l.length - 1)), 0) := by
  obtain ⟨q, hq, h2, h3⟩ := char_pos M
  induction j with
  | zero =>
    intro i hi
    refine evs ?_
    simp only [polynomial_Derive.l0]
    refine evf (by omega) (Ev.bind (ev_trim ?_) (evn ?_ (Ev.now _)))
    · rw [mk_length]; omega
    · rw [show i = l.length from by omega]
  | succ j ih =>
    intro i hi
    refine evs ?_
    simp only [polynomial_Derive.l0]
    rw [show wrap64 ((i : Int) + 1) = ((i + 1 : Nat) : Int) from w64 (by omega) (by omega)]
    refine evt (by omega) (evt (by omega) (evt (by omega) ?_))
    have hnext := ih (i + 1) (by omega)
    rw [Nat.add_sub_cancel] at hnext
    by_cases h0 : i = 0
    · subst h0
      exact evf (by omega) hnext
    · obtain ⟨m, rfl⟩ : ∃ m, i = m + 1 := ⟨i - 1, by omega⟩
      refine evt (by omega) (evf (by omega) ?_)
      have hmod : Int.tmod ((m + 1 : Nat) : Int) c = M.v (ns (m + 1) 1) := by rw [v_ns M hq (m + 1), hq, tmod_nat]
      rw [rd_co M hl (show m + 1 < l.length by omega), hmod]
      refine Ev.bind (ev_mul M _ _) (evt (by rw [mk_length]; omega) ?_)
      rw [Nat.add_sub_cancel, ← ns_one M]
      rw [mk_succ] at hnext
      exact hnext
theorem ev_Derive {l : List Int} (hv : validB c s p l = true) (hl : inB s l = true) (hll : l.length < 2 ^ 40) : Ev (fun k => polynomial_Derive.f k c s p l) (trim (mk M (der (co M l)) (l.length - 1)), 0) := by
  unfold polynomial_Derive.f
  exact Ev.bind (ev_PValid l) (evt hv (ev_Derive_l M hl hll l.length 0 (by omega)))
theorem rDerive_l {l : List Int} (hl : inB s l = true) (hll : l.length < 2 ^ 40) (j : Nat) : ∀ i : Nat, i + j = l.length - 1 →
    Ev (fun k => barscanref05_Derive.l0 k l (mk M (der (co M l)) i) ((i + 1 : Nat) : Int) c s p) (trim (mk M (der (co M l)) (l.length - 1)), 0) := by
  obtain ⟨q, hq, h2, h3⟩ := char_pos M
  induction j with
  | zero =>
    intro i hi
    refine evs ?_
    simp only [barscanref05_Derive.l0]
    refine evf (by omega) (Ev.bind (rTrim ?_) (evn ?_ (Ev.now _)))
    · rw [mk_length]; omega
    · rw [show i = l.length - 1 from by omega]
  | succ j ih =>
    intro i hi
    refine evs ?_
    simp only [barscanref05_Derive.l0]
    refine evt (by omega) ?_
    have hmod : Int.tmod ((i + 1 : Nat) : Int) c = (((i + 1) % q : Nat) : Int) := by rw [hq, tmod_nat]
    have hlt := Nat.mod_lt (i + 1) (show 0 < q by omega)
    have key : ∀ u t : Nat, t + u = (i + 1) % q → Ev (fun k => barscanref05_Derive.l1 k l (mk M (der (co M l)) i) ((i + 1 : Nat) : Int) (M.v (ns t (co M l (i + 1)))) (t : Int) c s p) (trim (mk M (der (co M l)) (l.length - 1)), 0) := by
      intro u
      induction u with
      | zero =>
        intro t ht
        refine evs ?_
        simp only [barscanref05_Derive.l1]
        rw [hmod]
        refine evf (by omega) (evf (by omega) (evt (by rw [mk_length]; omega) ?_))
        rw [show t = (i + 1) % q from by omega, ns_char M hq, show wrap64 (((i + 1 : Nat) : Int) + 1) = ((i + 1 + 1 : Nat) : Int) from w64 (by omega) (by omega)]
        have := ih (i + 1) (by omega)
        rw [mk_succ] at this
        exact this
      | succ u ihu =>
        intro t ht
        refine evs ?_
        simp only [barscanref05_Derive.l1]
        rw [hmod, rd_co M hl (show i + 1 < l.length by omega)]
        refine evf (by omega) (evt (by omega) (evt (by omega) (evt (by omega) ?_)))
        simp only [rplus_eq M]
        refine Ev.bind (Ev.now _) ?_
        rw [show wrap64 ((t : Int) + 1) = ((t + 1 : Nat) : Int) from w64 (by omega) (by omega)]
        exact ihu (t + 1) (by omega)
    have := key ((i + 1) % q) 0 (by omega)
    rw [show M.v (ns 0 (co M l (i + 1))) = 0 from M.zero] at this
    exact this
theorem rDerive {l : List Int} (hs : s < 2 ^ 63) (hv : validB c s p l = true) (hl : inB s l = true) (hll : l.length < 2 ^ 40) : Ev (fun k => barscanref05_Derive.f k c s p l) (trim (mk M (der (co M l)) (l.length - 1)), 0) := by
  unfold barscanref05_Derive.f
  refine Ev.bind (rPValid hs l) (evt hv ?_)
  have := rDerive_l M hl hll (l.length - 1) 0 (by omega)
  exact this
end
end Go.Proofs.Ytlhaclammaaabaa.Pg
