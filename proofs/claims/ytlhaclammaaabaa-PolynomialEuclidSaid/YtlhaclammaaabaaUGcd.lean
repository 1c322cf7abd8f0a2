import Derived.Test.YtlhaclammaaabaaB4
import Derived.Test.YtlhaclammaaabaaUDiv
/-! The greatest common divisor: Euclid's loop ends, and what it leaves is the one monic divisor that is a combination of both. -/
namespace Go.Proofs.Ytlhaclammaaabaa.Alg
section
variable {K : Type} [CF K]
/-- D divides A. -/
def Dv (D A : Ser K) : Prop := ∃ X m, Bd X m ∧ A = pmul X D
def Monic (D : Ser K) : Prop := D = (fun _ => 0) ∨ ∃ d, Bd D (d + 1) ∧ D d = 1
theorem zero_sadd (F : Ser K) : sadd (fun _ => 0) F = F := by funext i; exact zero_add _
theorem sadd_zero (F : Ser K) : sadd F (fun _ => 0) = F := by funext i; exact add_zero _
theorem pmul_zero_right (F : Ser K) : pmul F (fun _ => 0) = fun _ => 0 := by rw [pmul_comm, pmul_zero_left]
theorem smul_one (F : Ser K) : smul 1 F = F := by funext i; exact one_mul _
theorem Dv.refl (D : Ser K) : Dv D D := ⟨cst 1, 1, bd_cst 1, by rw [pmul_cst_left, smul_one]⟩
theorem Dv.zero (D : Ser K) : Dv D (fun _ => 0) := ⟨fun _ => 0, 0, bd_zero 0, (pmul_zero_left D).symm⟩
theorem Dv.add {D A B : Ser K} (h : Dv D A) (k : Dv D B) : Dv D (sadd A B) := by
  obtain ⟨X, m, hX, rfl⟩ := h
  obtain ⟨Y, n, hY, rfl⟩ := k
  exact ⟨sadd X Y, max m n, (hX.mono (Nat.le_max_left _ _)).sadd (hY.mono (Nat.le_max_right _ _)), by rw [pmul_sadd_left]⟩
theorem Dv.mul {D A : Ser K} (h : Dv D A) {X : Ser K} {m : Nat} (hX : Bd X m) : Dv D (pmul X A) := by
  obtain ⟨Y, n, hY, rfl⟩ := h
  exact ⟨pmul X Y, _, hX.pmul hY, by rw [pmul_assoc]⟩
theorem Dv.trans {D E A : Ser K} (h : Dv D E) (k : Dv E A) : Dv D A := by
  obtain ⟨X, m, hX, rfl⟩ := k
  exact h.mul hX
theorem Dv.scale {D A : Ser K} (h : Dv D A) (k : K) : Dv D (smul k A) := by
  rw [← pmul_cst_left]; exact h.mul (bd_cst k)
theorem Dv.mul_both {D A : Ser K} (h : Dv D A) (C : Ser K) : Dv (pmul D C) (pmul A C) := by
  obtain ⟨X, m, hX, rfl⟩ := h
  exact ⟨X, m, hX, by rw [pmul_assoc]⟩
theorem Dv.of_zero {A : Ser K} (h : Dv (fun _ => 0) A) : A = fun _ => 0 := by
  obtain ⟨X, m, hX, rfl⟩ := h
  exact pmul_zero_right X
/-- Degrees of a divisor. -/
theorem Dv.deg {D A : Ser K} {d a : Nat} (h : Dv D A) (hD : Bd D (d + 1)) (hd : D d ≠ 0) (hA : Bd A (a + 1)) (ha : A a ≠ 0) : d ≤ a := by
  obtain ⟨X, m, hX, rfl⟩ := h
  have hne : X ≠ fun _ => 0 := fun e => by rw [e, pmul_zero_left] at ha; exact ha rfl
  obtain ⟨x, _, hx, hx0⟩ := exists_top hX hne
  have h1 := (pmul_top hx hD).2
  rcases Nat.lt_or_ge a d with h2 | h2
  · rw [hA (x + d) (by omega)] at h1
    exact absurd h1.symm (mul_ne hx0 hd)
  · exact h2
theorem Dv.antisymm {D E : Ser K} (h : Dv D E) (k : Dv E D) (hD : Monic D) (hE : Monic E) : D = E := by
  rcases hD with rfl | ⟨d, hd, hd1⟩
  · exact h.of_zero.symm
  rcases hE with rfl | ⟨e, he, he1⟩
  · exact k.of_zero
  have hd0 : D d ≠ 0 := hd1 ▸ one_ne
  have he0 : E e ≠ 0 := he1 ▸ one_ne
  have h1 := h.deg hd hd0 he he0
  have h2 := k.deg he he0 hd hd0
  obtain rfl : d = e := by omega
  obtain ⟨X, m, hX, rfl⟩ := h
  have hne : X ≠ fun _ => 0 := fun e => by rw [e, pmul_zero_left] at he0; exact he0 rfl
  obtain ⟨x, _, hx, hx0⟩ := exists_top hX hne
  have h3 := (pmul_top hx hd).2
  have hxz : x = 0 := by
    rcases Nat.eq_zero_or_pos x with h4 | h4
    · exact h4
    · rw [he (x + d) (by omega)] at h3
      exact absurd h3.symm (mul_ne hx0 hd0)
  subst hxz
  have hX1 : X = cst (X 0) := by
    funext i
    cases i with
    | zero => rfl
    | succ i => exact hx (i + 1) (by omega)
  rw [Nat.zero_add, he1, hd1, mul_one] at h3
  rw [hX1, ← h3, pmul_cst_left, smul_one]
structure IsG (A B D : Ser K) : Prop where
  comb : ∃ X Y m, Bd X m ∧ Bd Y m ∧ D = sadd (pmul X A) (pmul Y B)
  left : Dv D A
  right : Dv D B
  monic : Monic D
theorem IsG.dv {A B D E : Ser K} (h : IsG A B D) (ha : Dv E A) (hb : Dv E B) : Dv E D := by
  obtain ⟨X, Y, m, hX, hY, rfl⟩ := h.comb
  exact (ha.mul hX).add (hb.mul hY)
theorem IsG.unique {A B D E : Ser K} (h : IsG A B D) (k : IsG A B E) : D = E := Dv.antisymm (k.dv h.left h.right) (h.dv k.left k.right) h.monic k.monic
theorem IsG.step {A B Q R D : Ser K} {m : Nat} (hQ : Bd Q m) (e : A = sadd (pmul Q B) R) (h : IsG B R D) : IsG A B D := by
  refine ⟨?_, e ▸ (h.left.mul hQ).add h.right, h.left, h.monic⟩
  obtain ⟨X, Y, n, hX, hY, rfl⟩ := h.comb
  refine ⟨Y, ssub X (pmul Y Q), max n (n + m - 1), hY.mono (Nat.le_max_left _ _), (hX.mono (Nat.le_max_left _ _)).ssub ((hY.pmul hQ).mono (Nat.le_max_right _ _)), ?_⟩
  rw [e, pmul_sadd_right, pmul_ssub_left, pmul_assoc]
  funext i
  simp only [sadd, ssub]
  generalize pmul Y (pmul Q B) i = u
  generalize pmul Y R i = v
  generalize pmul X B i = t
  rw [sub_def, add_comm u v, add_assoc, add_left_comm u t, add_neg, add_zero, add_comm]
theorem IsG.of_zero {A D : Ser K} {k : K} {d : Nat} (hA : Bd A (d + 1)) (hk : k * A d = 1) (hD : D = smul k A) : IsG A (fun _ => 0) D := by
  subst hD
  refine ⟨⟨cst k, fun _ => 0, 1, bd_cst k, bd_zero 1, by rw [pmul_cst_left, pmul_zero_left, sadd_zero]⟩, ?_, .zero _, .inr ⟨d, hA.smul k, hk⟩⟩
  refine ⟨cst (A d), 1, bd_cst _, ?_⟩
  rw [pmul_cst_left]
  funext i
  simp only [smul]
  rw [← mul_assoc, mul_comm (A d), hk, one_mul]
theorem IsG.zero : IsG (fun _ => (0 : K)) (fun _ => 0) (fun _ => 0) :=
  ⟨⟨fun _ => 0, fun _ => 0, 0, bd_zero 0, bd_zero 0, by rw [pmul_zero_left, sadd_zero]⟩, .zero _, .zero _, .inl rfl⟩
end
end Go.Proofs.Ytlhaclammaaabaa.Alg
namespace Go.Proofs.Ytlhaclammaaabaa.Pg
open Go.RowKit Go.Proofs.YtlhaclammaaabaaW.PrintWords Go.Proofs.YtlhaclammaaabaaW.PrintLast Go.Proofs.YtlhaclammaaabaaW.PrintMore
open Go.Proofs.Ytlhaclammaaabaa.Alg (CF card pw Ser Bd sadd ssub smul pmul tl sh cst Dv Monic IsG)
section
variable {c s p : Int} (M : Model c s p)
theorem ev_monic {a : List Int} {A : Ser M.K} (ha : PL M a A) (hla : a.length < 2 ^ 39) : ∃ d D, PL M d D ∧ IsG A (fun _ => 0) D ∧ d.length ≤ a.length ∧ Ev (fun k => polynomial_monic.f k c s p a) d := by
  unfold polynomial_monic.f
  by_cases h0 : a.length = 0
  · have hA := (ha.zero M).1 h0
    subst hA
    exact ⟨[], _, PL.nil M, IsG.zero, by simp, evt (by omega) (Ev.now _)⟩
  · obtain ⟨n, hn⟩ : ∃ n, a.length = n + 1 := ⟨a.length - 1, by omega⟩
    have hne := ha.top M hn
    have hb : Bd A (n + 1) := hn ▸ ha.bd M
    have hD : (fun i => co M a i * inv M (A n)) = smul (inv M (A n)) A := by
      rw [ha.eq]; funext i; exact Alg.mul_comm _ _
    refine ⟨_, _, PL.nf M (F := smul (inv M (A n)) A) (n := a.length) ((ha.bd M).smul _), IsG.of_zero hb (inv_mul M hne) rfl, nf_len M _ _, evf (by omega) ?_⟩
    rw [show wrap64 ((a.length : Int) - 1) = (n : Int) from by rw [w64 (by omega) (by omega)]; omega, rd_co M ha.inb (show n < a.length by omega), ha.eq]
    have := ev_scaled M ha.inb (by omega) (inv M (A n))
    rw [hD] at this
    exact evt (by omega) (evt (by omega) (Ev.bind (ev_inv M hne) (Ev.bind this (Ev.now _))))
theorem ev_gcd_l (N : Nat) : ∀ (a b : List Int) (A B : Ser M.K), b.length < N → PL M a A → PL M b B → a.length < 2 ^ 39 → b.length < 2 ^ 39 →
    ∃ d D, PL M d D ∧ IsG A B D ∧ d.length ≤ max a.length b.length ∧ Ev (fun k => polynomial_GCD.l0 k a b c s p) (d, 0) := by
  induction N with
  | zero => intro a b A B h; omega
  | succ N ih =>
    intro a b A B hN ha hb hla hlb
    by_cases h0 : b.length = 0
    · have hB := (hb.zero M).1 h0
      subst hB
      obtain ⟨d, D, h1, h2, h3, h4⟩ := ev_monic M ha hla
      refine ⟨d, D, h1, h2, Nat.le_trans h3 (Nat.le_max_left _ _), evs ?_⟩
      simp only [polynomial_GCD.l0]
      exact evf (by omega) (Ev.bind h4 (Ev.now _))
    · obtain ⟨n, hn⟩ : ∃ n, b.length = n + 1 := ⟨b.length - 1, by omega⟩
      obtain ⟨q, r, Q, R, hq, hr, e, hR, _, _, h1⟩ := ev_division M ha hb hla hlb hn
      have hrl := hr.length_le M hR
      obtain ⟨d, D, h2, h3, h4, h5⟩ := ih b r B R (by omega) hb hr hlb (by omega)
      refine ⟨d, D, h2, h3.step (hq.bd M) e, Nat.le_trans h4 (by omega), evs ?_⟩
      simp only [polynomial_GCD.l0]
      exact evt (by omega) (Ev.bind h1 h5)
theorem ev_GCD {a b : List Int} {A B : Ser M.K} (ha : PL M a A) (hb : PL M b B) (hla : a.length ≤ 4097) (hlb : b.length ≤ 4097) :
    ∃ d D, PL M d D ∧ IsG A B D ∧ d.length ≤ max a.length b.length ∧ Ev (fun k => polynomial_GCD.f k c s p a b) (d, 0) := by
  obtain ⟨d, D, h1, h2, h3, h4⟩ := ev_gcd_l M _ a b A B (Nat.lt_succ_self _) ha hb (by omega) (by omega)
  refine ⟨d, D, h1, h2, h3, ?_⟩
  unfold polynomial_GCD.f
  refine Ev.bind (ev_PValid a) (evt (ha.valid M hla) (Ev.bind (ev_PValid b) (evs ?_)))
  rw [hb.valid M hlb]
  simp only [polynomial_GCD.j0]
  exact evf (by simp) h4
end
end Go.Proofs.Ytlhaclammaaabaa.Pg
