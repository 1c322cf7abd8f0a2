import Derived.Test.YtlhaclammaaabaaP10
import Derived.Test.YtlhaclammaaabaaP11
import Derived.Test.YtlhaclammaaabaaP9
import Derived.Test.YtlhaclammaaabaaP7
import Derived.Test.YtlhaclammaaabaaUGal
/-! Which fields the two packages take. -/
namespace Go.Proofs.Ytlhaclammaaabaa.Pg
open Go.RowKit Go.Proofs.YtlhaclammaaabaaW.PrintWords Go.Proofs.YtlhaclammaaabaaW.PrintLast Go.Proofs.YtlhaclammaaabaaW.PrintMore
open Go.Proofs.Ytlhaclammaaabaa.Alg (Deg rem Irr cm Cong deg_of exists_deg rem_eq rem_lt rem_cong cong_shift xor_top Pr deg_unique)
set_option linter.unusedVariables false
set_option linter.unusedSimpArgs false

theorem shl1 {d : Nat} (hd : d ≤ 40) : shl .i64 1 (d : Int) = ((2 ^ d : Nat) : Int) := by
  have l1 : (2 : Nat) ^ d ≤ 2 ^ 40 := Nat.pow_le_pow_right (by omega) (by omega)
  have := shlN (a := 1) (n := d) (by omega) (by omega)
  rw [Nat.one_mul] at this
  exact this
theorem shl2 {d : Nat} (hd : d ≤ 40) : shl .i64 2 (d : Int) = ((2 ^ (d + 1) : Nat) : Int) := by
  have l1 : (2 : Nat) ^ (d + 1) ≤ 2 ^ 41 := Nat.pow_le_pow_right (by omega) (by omega)
  have := shlN (a := 2) (n := d) (by rw [Nat.pow_succ] at l1; omega) (by omega)
  rw [Nat.mul_comm, ← Nat.pow_succ] at this
  exact this

/-- What Binary answers at a degree that it takes. -/
noncomputable def binS (d : Nat) (p : Int) : Int × Int × Int × Int :=
  @ite _ (∃ q : Nat, p = q ∧ Irr q d) (Classical.propDecidable _) (2, ((2 ^ d : Nat) : Int), p, 0) (0, 0, 0, 38)
theorem binS_irr {d q : Nat} (h : Irr q d) : binS d (q : Int) = (2, ((2 ^ d : Nat) : Int), (q : Int), 0) := by
  unfold binS; rw [if_pos ⟨q, rfl, h⟩]
theorem binS_not {d : Nat} {p : Int} (h : ∀ q : Nat, p = q → ¬ Irr q d) : binS d p = (0, 0, 0, 38) := by
  unfold binS; rw [if_neg (fun ⟨q, e, i⟩ => h q e i)]
theorem ev_Binary_in {d : Nat} (h1 : 1 ≤ d) (h2 : d ≤ 12) (p : Int) : Ev (fun k => galois_Binary.f k (d : Int) p) (binS d p) := by
  simp only [galois_Binary.f]
  refine evf (by omega) ?_
  refine evs ?_
  simp only [galois_Binary.j0]
  refine evf (by simp; omega) (evt (by omega) ?_)
  rw [shl1 (by omega), shl2 (by omega)]
  by_cases c1 : p < ((2 ^ d : Nat) : Int)
  · refine evt c1 (evn (binS_not ?_).symm (Ev.now _))
    rintro q rfl hi
    have := hi.2.1.le
    omega
  · refine evf c1 ?_
    by_cases c2 : p ≥ ((2 ^ (d + 1) : Nat) : Int)
    · refine evt c2 (evn (binS_not ?_).symm (Ev.now _))
      rintro q rfl hi
      have := hi.2.1.1
      omega
    · refine evf c2 ?_
      obtain ⟨q, rfl⟩ : ∃ q : Nat, p = q := ⟨p.toNat, by omega⟩
      have hq : Deg q d := deg_of (by omega) (by omega)
      refine Ev.bind (ev_irreducible h1 hq (by omega)) ?_
      by_cases hi : Irr q d
      · rw [irrB_iff.2 hi]
        exact evt rfl (evn (binS_irr hi).symm (Ev.now _))
      · rw [irrB_false hi]
        refine evf (by simp) (evn (binS_not ?_).symm (Ev.now _))
        intro q' e
        have : q = q' := by omega
        exact this ▸ hi
theorem ev_Binary_out {m p : Int} (h : m < 1 ∨ 12 < m) : Ev (fun k => galois_Binary.f k m p) (0, 0, 0, 3) := by
  simp only [galois_Binary.f]
  by_cases c : m < 1
  · refine evt c (evs ?_)
    simp only [galois_Binary.j0]
    exact evt (by simp) (Ev.now _)
  · refine evf c (evs ?_)
    simp only [galois_Binary.j0]
    exact evt (by simp; omega) (Ev.now _)
theorem rBinary_in {d : Nat} (h1 : 1 ≤ d) (h2 : d ≤ 12) (p : Int) : Ev (fun k => barscanref04_Binary.f k (d : Int) p) (binS d p) := by
  simp only [barscanref04_Binary.f]
  refine evf (by omega) ?_
  refine evs ?_
  have u1 : IntKind.u64.wrap (wrap64 ((d : Int) + 1)) = ((d + 1 : Nat) : Int) := by rw [w64 (by omega) (by omega), wu64 (by omega) (by omega)]; rfl
  have u2 : IntKind.u64.wrap (d : Int) = (d : Int) := wu64 (by omega) (by omega)
  simp only [barscanref04_Binary.j0, u1, u2]
  refine evf (by simp; omega) (evt (by omega) ?_)
  rw [shl1 (by omega), shl1 (by omega)]
  by_cases c2 : p ≥ ((2 ^ (d + 1) : Nat) : Int)
  · refine evt c2 (evn (binS_not ?_).symm (Ev.now _))
    rintro q rfl hi
    have := hi.2.1.1
    omega
  · refine evf c2 ?_
    have hneg : (∀ q : Nat, p = q → ¬ Deg q d) → binS d p = (0, 0, 0, 38) := fun h => binS_not fun q e i => h q e i.2.1
    by_cases c0 : p < 0
    · refine Ev.bind (a := false) ?_ ?_
      · simp only [barscanref04_irreducible.f]
        refine evt c0 (evs ?_)
        simp only [barscanref04_irreducible.j0]
        exact evt (by simp) (Ev.now _)
      · refine evf (by simp) (evn (hneg ?_).symm (Ev.now _))
        rintro q rfl _
        omega
    · obtain ⟨q, rfl⟩ : ∃ q : Nat, p = q := ⟨p.toNat, by omega⟩
      by_cases hq : Deg q d
      · refine Ev.bind (ev_irreducible' h1 hq (by omega)) ?_
        by_cases hi : Irr q d
        · rw [irrB_iff.2 hi]
          exact evt rfl (evt (by omega) (evn (binS_irr hi).symm (Ev.now _)))
        · rw [irrB_false hi]
          refine evf (by simp) (evn (binS_not ?_).symm (Ev.now _))
          intro q' e
          have : q = q' := by omega
          exact this ▸ hi
      · have l1 : (2 : Nat) ^ (d + 1) ≤ 2 ^ 13 := Nat.pow_le_pow_right (by omega) (by omega)
        refine Ev.bind (a := false) ?_ ?_
        · simp only [barscanref04_irreducible.f]
          refine evf (by omega) ?_
          refine Ev.bind (ev_degree (by omega)) ?_
          refine evs ?_
          simp only [barscanref04_irreducible.j0]
          refine evt ?_ (Ev.now _)
          rw [bne_iff_ne]
          intro e
          apply hq
          by_cases h0 : q = 0
          · subst h0
            rw [blen_zero] at e
            omega
          · obtain ⟨m, hm⟩ := exists_deg h0
            rw [blen_deg hm] at e
            have : m = d := by omega
            exact this ▸ hm
        · refine evf (by simp) (evn (hneg ?_).symm (Ev.now _))
          intro q' e
          have : q = q' := by omega
          exact this ▸ hq
theorem rBinary_out {m p : Int} (h : m < 1 ∨ 12 < m) : Ev (fun k => barscanref04_Binary.f k m p) (0, 0, 0, 3) := by
  simp only [barscanref04_Binary.f]
  by_cases c : m < 1
  · refine evt c (evs ?_)
    simp only [barscanref04_Binary.j0]
    exact evt (by simp) (Ev.now _)
  · refine evf c (evs ?_)
    simp only [barscanref04_Binary.j0]
    exact evt (by simp; omega) (Ev.now _)
theorem irr_two : Irr 2 1 := ⟨by omega, ⟨by decide, by decide⟩, fun q e _ h1 h2 => by omega⟩

theorem ev_Prime_out {p : Int} (h : p < 2 ∨ 4096 < p) : Ev (fun k => galois_Prime.f k p) (0, 0, 0, 3) := by
  simp only [galois_Prime.f]
  by_cases c : p < 2
  · refine evt c (evs ?_)
    simp only [galois_Prime.j0]
    exact evt (by simp) (Ev.now _)
  · refine evf c (evs ?_)
    simp only [galois_Prime.j0]
    exact evt (by simp; omega) (Ev.now _)
theorem rPrime_out {p : Int} (h : p < 2 ∨ 4096 < p) : Ev (fun k => barscanref04_Prime.f k p) (0, 0, 0, 3) := by
  simp only [barscanref04_Prime.f]
  by_cases c : p < 2
  · refine evt c (evs ?_)
    simp only [barscanref04_Prime.j0]
    exact evt (by simp) (Ev.now _)
  · refine evf c (evs ?_)
    simp only [barscanref04_Prime.j0]
    exact evt (by simp; omega) (Ev.now _)
/-- What Prime answers at a number that it takes. -/
noncomputable def primS (p : Nat) : Int × Int × Int × Int := if prB p = true then (if p = 2 then (2, 2, 2, 0) else ((p : Int), (p : Int), 0, 0)) else (0, 0, 0, 1)
theorem ev_Prime_in {p : Nat} (h1 : 2 ≤ p) (h2 : p ≤ 4096) : Ev (fun k => galois_Prime.f k (p : Int)) (primS p) := by
  simp only [galois_Prime.f]
  refine evf (by omega) (evs ?_)
  simp only [galois_Prime.j0]
  refine evf (by simp; omega) (Ev.bind (ev_prime h1 (by omega)) ?_)
  by_cases hp : prB p = true
  · unfold primS
    simp only [if_pos hp]
    by_cases h : p = 2
    · refine evt (by omega) ?_
      rw [if_pos h]
      refine Ev.bind (ev_Binary_in (d := 1) (by omega) (by omega) 2) ?_
      rw [show binS 1 2 = (2, 2, 2, 0) from binS_irr irr_two]
      exact Ev.now _
    · refine evf (by omega) ?_
      rw [if_neg h]
      exact Ev.now _
  · unfold primS
    simp only [if_neg hp]
    exact Ev.now _
theorem rPrime_in {p : Nat} (h1 : 2 ≤ p) (h2 : p ≤ 4096) : Ev (fun k => barscanref04_Prime.f k (p : Int)) (primS p) := by
  simp only [barscanref04_Prime.f]
  refine evf (by omega) (evs ?_)
  simp only [barscanref04_Prime.j0, ref_prime]
  refine evf (by simp; omega) (Ev.bind (ev_prime h1 (by omega)) ?_)
  by_cases hp : prB p = true
  · unfold primS
    simp only [if_pos hp]
    by_cases h : p = 2
    · refine evt (by omega) ?_
      rw [if_pos h]
      exact Ev.now _
    · refine evf (by omega) ?_
      rw [if_neg h]
      exact Ev.now _
  · unfold primS
    simp only [if_neg hp]
    exact Ev.now _

/-- A field that both packages take. -/
def Good (c s p : Int) : Prop := (c = 2 ∧ ∃ d q : Nat, d ≤ 12 ∧ s = ((2 ^ d : Nat) : Int) ∧ p = q ∧ Irr q d) ∨ (p = 0 ∧ ∃ q : Nat, c = q ∧ s = q ∧ 3 ≤ q ∧ q ≤ 4096 ∧ Pr q)
noncomputable def goodB (c s p : Int) : Bool := @decide (Good c s p) (Classical.propDecidable _)
theorem goodB_iff {c s p : Int} : goodB c s p = true ↔ Good c s p := by unfold goodB; exact @decide_eq_true_iff _ (Classical.propDecidable _)
theorem goodB_false {c s p : Int} (h : ¬ Good c s p) : goodB c s p = false := by
  cases e : goodB c s p
  · rfl
  · exact absurd (goodB_iff.1 e) h
theorem good_two {s p : Int} (h : Good 2 s p) : ∃ d q : Nat, 1 ≤ d ∧ d ≤ 12 ∧ s = ((2 ^ d : Nat) : Int) ∧ p = q ∧ Irr q d := by
  rcases h with ⟨_, d, q, h1, h2, h3, h4⟩ | ⟨_, q, h1, _, h3, _⟩
  · exact ⟨d, q, h4.1, h1, h2, h3, h4⟩
  · omega
theorem good_odd {c s p : Int} (hc : c ≠ 2) (h : Good c s p) : p = 0 ∧ ∃ q : Nat, c = q ∧ s = q ∧ 3 ≤ q ∧ q ≤ 4096 ∧ Pr q := by
  rcases h with ⟨h, _⟩ | h
  · exact absurd h hc
  · exact h

theorem ev_Valid {c s p : Int} : Ev (fun k => galois_Valid.f k c s p) (goodB c s p) := by
  simp only [galois_Valid.f]
  by_cases hc : c = 2
  · subst hc
    refine evt rfl ?_
    by_cases hs : s < 2 ∨ 4096 < s
    · have hno : goodB 2 s p = false := by
        refine goodB_false fun hg => ?_
        obtain ⟨d, q, h1, h2, h3, _⟩ := good_two hg
        have := Nat.pow_le_pow_right (n := 2) (by omega) h1
        have := Nat.pow_le_pow_right (n := 2) (by omega) h2
        omega
      rw [hno]
      by_cases c1 : s < 2
      · refine evt c1 (evs ?_)
        simp only [galois_Valid.j0]
        exact evt (by simp) (Ev.now _)
      · refine evf c1 (evs ?_)
        simp only [galois_Valid.j0]
        exact evt (by simp; omega) (Ev.now _)
    · refine evf (by omega) (evs ?_)
      simp only [galois_Valid.j0]
      refine evf (by simp; omega) ?_
      obtain ⟨n, rfl⟩ : ∃ n : Nat, s = n := ⟨s.toNat, by omega⟩
      refine Ev.bind (ev_length (by omega)) ?_
      obtain ⟨d, hd⟩ := exists_deg (show n ≠ 0 by omega)
      have hd12 : d ≤ 12 := by
        apply Decidable.byContradiction
        intro hn
        have := Nat.pow_le_pow_right (n := 2) (by omega) (show 13 ≤ d by omega)
        have := hd.le
        omega
      have hd1 : 1 ≤ d := by
        rcases Nat.eq_zero_or_pos d with h | h
        · subst h
          have := hd.1
          omega
        · exact h
      rw [show wrap64 (((blen n : Nat) : Int) - 1) = (d : Int) from by rw [blen_deg hd, w64 (by omega) (by omega)]; omega]
      refine Ev.bind (ev_Binary_in hd1 hd12 p) ?_
      by_cases hi : ∃ q : Nat, p = q ∧ Irr q d
      · obtain ⟨q, rfl, hi⟩ := hi
        rw [binS_irr hi]
        refine evt rfl (evn ?_ (Ev.now _))
        by_cases hn : n = 2 ^ d
        · rw [goodB_iff.2 (.inl ⟨rfl, d, q, hd12, by rw [hn], rfl, hi⟩)]
          simp [hn]
        · rw [goodB_false]
          · simp
            intro h
            exact absurd (Int.natCast_inj.1 (by rw [← h]; simp)) hn
          · intro hg
            obtain ⟨d', q', h1, h2, h3, _⟩ := good_two hg
            have hdd : Deg n d' := deg_of (by omega) (by have := Nat.pow_lt_pow_right (a := 2) (by omega) (show d' < d' + 1 by omega); omega)
            rw [deg_unique hd hdd] at hn
            omega
      · rw [binS_not (fun q e i => hi ⟨q, e, i⟩)]
        refine evf (by simp) (evn (goodB_false ?_).symm (Ev.now _))
        intro hg
        obtain ⟨d', q', h1, h2, h3, h4, h5⟩ := good_two hg
        have hdd : Deg n d' := deg_of (by omega) (by have := Nat.pow_lt_pow_right (a := 2) (by omega) (show d' < d' + 1 by omega); omega)
        exact hi ⟨q', h4, deg_unique hd hdd ▸ h5⟩
  · refine evf hc ?_
    by_cases hs : s < 2 ∨ 4096 < s
    · refine Ev.bind (ev_Prime_out hs) (evf (by simp) (evn (goodB_false ?_).symm (Ev.now _)))
      intro hg
      obtain ⟨_, q, h1, h2, h3, h4, _⟩ := good_odd hc hg
      omega
    · obtain ⟨n, rfl⟩ : ∃ n : Nat, s = n := ⟨s.toNat, by omega⟩
      refine Ev.bind (ev_Prime_in (by omega) (by omega)) ?_
      unfold primS
      by_cases hp : prB n = true
      · rw [if_pos hp]
        by_cases h2 : n = 2
        · rw [if_pos h2]
          refine evt rfl (evn ?_ (Ev.now _))
          rw [goodB_false]
          · simp; intro h; exact absurd h.symm hc
          · intro hg
            obtain ⟨_, q, h1, h2, h3, h4, _⟩ := good_odd hc hg
            omega
        · rw [if_neg h2]
          refine evt rfl (evn ?_ (Ev.now _))
          by_cases hg : Good c (n : Int) p
          · rw [goodB_iff.2 hg]
            obtain ⟨h0, q, h1, h2, h3, h4, _⟩ := good_odd hc hg
            simp [h0, h1, ← h2]
          · rw [goodB_false hg]
            cases e : ((n : Int) == c && ((n : Int) == (n : Int) && (0 : Int) == p))
            · rfl
            · simp only [Bool.and_eq_true, beq_iff_eq] at e
              exact absurd (.inr ⟨e.2.2.symm, n, e.1.symm, rfl, by omega, by omega, prB_iff.1 hp⟩) hg
      · rw [if_neg hp]
        refine evf (by simp) (evn (goodB_false ?_).symm (Ev.now _))
        intro hg
        obtain ⟨_, q, h1, h2, h3, h4, h5⟩ := good_odd hc hg
        have : n = q := by omega
        exact hp (prB_iff.2 (this ▸ h5))

theorem rValid {c s p : Int} (hs' : s < 2 ^ 63) : Ev (fun k => barscanref04_Valid.f k c s p) (goodB c s p) := by
  simp only [barscanref04_Valid.f]
  by_cases hc : c = 2
  · subst hc
    refine evt rfl ?_
    by_cases hs : s ≤ 0
    · refine Ev.bind (ev_degree_neg hs) (evf (by omega) (evn (goodB_false ?_).symm (Ev.now _)))
      intro hg
      obtain ⟨d, q, h1, h2, h3, _⟩ := good_two hg
      have := Nat.two_pow_pos d
      omega
    · obtain ⟨n, rfl⟩ : ∃ n : Nat, s = n := ⟨s.toNat, by omega⟩
      obtain ⟨d, hd⟩ := exists_deg (show n ≠ 0 by omega)
      have hd50 : d ≤ 62 := by
        apply Decidable.byContradiction
        intro hn
        have := Nat.pow_le_pow_right (n := 2) (by omega) (show 63 ≤ d by omega)
        have := hd.le
        omega
      refine Ev.bind (ev_deg hd hd50) ?_
      have hgd : ∀ {P : Prop}, (∀ q : Nat, 1 ≤ d → d ≤ 12 → n = 2 ^ d → p = q → Irr q d → P) → Good 2 (n : Int) p → P := by
        intro P h hg
        obtain ⟨d', q', h1, h2, h3, h4, h5⟩ := good_two hg
        have hdd : Deg n d' := deg_of (by omega) (by have := Nat.pow_lt_pow_right (a := 2) (by omega) (show d' < d' + 1 by omega); omega)
        have := deg_unique hd hdd
        subst this
        exact h q' h1 h2 (by omega) h4 h5
      by_cases h1 : 1 ≤ d
      rotate_left
      · exact evf (by omega) (evn (goodB_false (hgd fun q a _ _ _ _ => h1 a)).symm (Ev.now _))
      refine evt (by omega) ?_
      by_cases h2 : d ≤ 12
      rotate_left
      · exact evf (by omega) (evn (goodB_false (hgd fun q _ a _ _ _ => h2 a)).symm (Ev.now _))
      refine evt (by omega) ?_
      have u1 : IntKind.u64.wrap (wrap64 ((d : Int) + 1)) = ((d + 1 : Nat) : Int) := by rw [w64 (by omega) (by omega), wu64 (by omega) (by omega)]; rfl
      have u2 : IntKind.u64.wrap (d : Int) = (d : Int) := wu64 (by omega) (by omega)
      rw [u1, u2, shl1 (by omega), shl1 (by omega)]
      refine evt (by omega) ?_
      by_cases h3 : n = 2 ^ d
      rotate_left
      · exact evf (by omega) (evn (goodB_false (hgd fun q _ _ a _ _ => h3 a)).symm (Ev.now _))
      refine evt (by omega) (evt (by omega) ?_)
      by_cases h4 : p < ((2 ^ (d + 1) : Nat) : Int)
      rotate_left
      · refine evf (by omega) (evn (goodB_false (hgd fun q _ _ _ a i => ?_)).symm (Ev.now _))
        have := i.2.1.1
        omega
      refine evt h4 ?_
      by_cases c0 : p < 0
      · refine Ev.bind (a := false) ?_ (evn (goodB_false (hgd fun q _ _ _ a i => ?_)).symm (Ev.now _))
        · simp only [barscanref04_irreducible.f]
          refine evt c0 (evs ?_)
          simp only [barscanref04_irreducible.j0]
          exact evt (by simp) (Ev.now _)
        · omega
      · obtain ⟨q, rfl⟩ : ∃ q : Nat, p = q := ⟨p.toNat, by omega⟩
        have l1 : (2 : Nat) ^ (d + 1) ≤ 2 ^ 13 := Nat.pow_le_pow_right (by omega) (by omega)
        by_cases hq : Deg q d
        · refine Ev.bind (ev_irreducible' h1 hq (by omega)) (evn ?_ (Ev.now _))
          by_cases hi : Irr q d
          · rw [irrB_iff.2 hi, goodB_iff.2 (.inl ⟨rfl, d, q, h2, by rw [h3], rfl, hi⟩)]
          · rw [irrB_false hi, goodB_false (hgd fun q' _ _ _ a i => hi (by rw [show q = q' by omega]; exact i))]
        · refine Ev.bind (a := false) ?_ (evn (goodB_false (hgd fun q' _ _ _ a i => hq (by rw [show q = q' by omega]; exact i.2.1))).symm (Ev.now _))
          simp only [barscanref04_irreducible.f]
          refine evf (by omega) ?_
          refine Ev.bind (ev_degree (by omega)) ?_
          refine evs ?_
          simp only [barscanref04_irreducible.j0]
          refine evt ?_ (Ev.now _)
          rw [bne_iff_ne]
          intro e
          apply hq
          by_cases h0 : q = 0
          · subst h0
            rw [blen_zero] at e
            omega
          · obtain ⟨m, hm⟩ := exists_deg h0
            rw [blen_deg hm] at e
            have : m = d := by omega
            exact this ▸ hm
  · refine evf hc ?_
    have hgd : ∀ {P : Prop}, (∀ q : Nat, c = s → p = 0 → s = q → 3 ≤ q → q ≤ 4096 → Pr q → P) → Good c s p → P := by
      intro P h hg
      obtain ⟨h0, q, h1, h2, h3, h4, h5⟩ := good_odd hc hg
      exact h q (by omega) h0 h2 h3 h4 h5
    by_cases h1 : c = s
    rotate_left
    · exact evf h1 (evn (goodB_false (hgd fun q a _ _ _ _ _ => h1 a)).symm (Ev.now _))
    refine evt h1 ?_
    by_cases h2 : p = 0
    rotate_left
    · exact evf h2 (evn (goodB_false (hgd fun q _ a _ _ _ _ => h2 a)).symm (Ev.now _))
    refine evt h2 ?_
    by_cases h3 : s ≥ 3
    rotate_left
    · exact evf h3 (evn (goodB_false (hgd fun q _ _ _ _ _ _ => by omega)).symm (Ev.now _))
    refine evt h3 ?_
    by_cases h4 : s ≤ 4096
    rotate_left
    · exact evf h4 (evn (goodB_false (hgd fun q _ _ _ _ _ _ => by omega)).symm (Ev.now _))
    refine evt h4 ?_
    obtain ⟨n, rfl⟩ : ∃ n : Nat, s = n := ⟨s.toNat, by omega⟩
    simp only [ref_prime]
    refine Ev.bind (ev_prime (by omega) (by omega)) (evn ?_ (Ev.now _))
    by_cases hp : Pr n
    · rw [prB_iff.2 hp, goodB_iff.2 (.inr ⟨h2, n, h1, rfl, by omega, by omega, hp⟩)]
    · rw [prB_false hp, goodB_false (hgd fun q _ _ a _ _ i => hp (by rw [show n = q by omega]; exact i))]
end Go.Proofs.Ytlhaclammaaabaa.Pg
