import Derived.Test.YtlhaclammaaabaaUMul
/-! Polynomials as lists without zeros at the end: list and series name each other. -/
namespace Go.Proofs.Ytlhaclammaaabaa.Pg
open Go.RowKit Go.Proofs.YtlhaclammaaabaaW.PrintWords Go.Proofs.YtlhaclammaaabaaW.PrintLast Go.Proofs.YtlhaclammaaabaaW.PrintMore
open Go.Proofs.Ytlhaclammaaabaa.Alg (CF card pw Ser Bd sadd ssub smul pmul tl sh)
section
variable {c s p : Int} (M : Model c s p)
theorem co_mk {F : Ser M.K} {n : Nat} (h : Bd F n) : co M (mk M F n) = F := by
  funext i
  apply M.inj
  rw [co_v M (mk_inB M F n)]
  by_cases hi : i < n
  · rw [List.getD_eq_getElem?_getD, List.getElem?_eq_getElem (by rw [mk_length]; exact hi)]
    simp [mk]
  · rw [h i (by omega), M.zero, List.getD_eq_getElem?_getD, List.getElem?_eq_none (by rw [mk_length]; omega)]
    rfl
structure PL (l : List Int) (F : Ser M.K) : Prop where
  inb : inB s l = true
  tight : tight l = true
  eq : co M l = F
theorem PL.bd {l : List Int} {F : Ser M.K} (h : PL M l F) : Bd F l.length := h.eq ▸ co_bd M h.inb
theorem PL.list {l : List Int} {F : Ser M.K} (h : PL M l F) : Pg.mk M F l.length = l := h.eq ▸ mk_co M h.inb
theorem PL.top {l : List Int} {F : Ser M.K} (h : PL M l F) {n : Nat} (hn : l.length = n + 1) : F n ≠ 0 := fun e => by
  have h1 := tight_last (l := l) (by omega)
  rw [h.tight] at h1
  have h2 := co_v M h.inb n
  rw [h.eq, e, M.zero, List.getD_eq_getElem?_getD, List.getElem?_eq_getElem (by omega)] at h2
  simp only [hn, Nat.add_sub_cancel] at h1
  simp only [Option.getD_some] at h2
  rw [← h2] at h1
  simp at h1
theorem PL.length_le {l : List Int} {F : Ser M.K} (h : PL M l F) {n : Nat} (hn : Bd F n) : l.length ≤ n := by
  rcases Nat.lt_or_ge n l.length with h1 | h1
  · exact absurd (hn (l.length - 1) (by omega)) (h.top M (n := l.length - 1) (by omega))
  · exact h1
theorem PL.length_eq {l : List Int} {F : Ser M.K} (h : PL M l F) {n : Nat} (hn : Bd F (n + 1)) (hne : F n ≠ 0) : l.length = n + 1 := by
  have h1 := h.length_le M hn
  rcases Nat.lt_or_ge n l.length with h2 | h2
  · omega
  · exact absurd (h.bd M n h2) hne
theorem PL.unique {l l' : List Int} {F : Ser M.K} (h : PL M l F) (h' : PL M l' F) : l = l' := by
  have h1 := h.length_le M (h'.bd M)
  have h2 := h'.length_le M (h.bd M)
  rw [← h.list M, ← h'.list M, show l.length = l'.length from by omega]
theorem PL.nil : PL M [] (fun _ => 0) := ⟨inB_nil s, tight_nil, by
  funext i; apply M.inj; rw [co_v M (inB_nil s), M.zero]; rfl⟩
theorem PL.zero {l : List Int} {F : Ser M.K} (h : PL M l F) : l.length = 0 ↔ F = fun _ => 0 := by
  constructor
  · intro e
    exact Alg.zero_of_bd (e ▸ h.bd M)
  · intro e
    have := h.length_le M (n := 0) (e ▸ Alg.bd_zero 0)
    omega
theorem PL.nf {F : Ser M.K} {n : Nat} : Bd F n → PL M (Pg.trim (Pg.mk M F n)) F := by
  induction n with
  | zero =>
    intro h
    rw [Alg.zero_of_bd h]
    exact PL.nil M
  | succ n ih =>
    intro h
    by_cases e : F n = 0
    · rw [mk_succ, e, M.zero, trim_zero]
      exact ih fun i hi => by
        rcases Nat.eq_or_lt_of_le hi with rfl | h1
        · exact e
        · exact h i h1
    · have e' : M.v (F n) ≠ 0 := fun h1 => e ((v_zero_iff M _).1 h1)
      rw [mk_succ, trim_last _ e', ← mk_succ]
      refine ⟨mk_inB M F _, ?_, co_mk M h⟩
      rw [tight_last (by rw [mk_length]; omega)]
      simp only [mk_length, Nat.add_sub_cancel]
      simpa [Pg.mk] using e'
theorem PL.self {l : List Int} (hi : inB s l = true) (ht : Pg.tight l = true) : PL M l (co M l) := ⟨hi, ht, rfl⟩
theorem PL.trim {l : List Int} (hi : inB s l = true) : PL M (Pg.trim l) (co M l) := by
  have := PL.nf M (co_bd M hi)
  rwa [mk_co M hi] at this
theorem PL.valid {l : List Int} {F : Ser M.K} (h : PL M l F) (hl : l.length ≤ 4097) : validB c s p l = true := by
  unfold validB
  rw [h.tight, h.inb, goodB_iff.2 M.good, decide_eq_true hl]; rfl
theorem PL.cast {l : List Int} {F G : Ser M.K} (h : PL M l F) (e : F = G) : PL M l G := e ▸ h
theorem of_valid {l : List Int} (h : validB c s p l = true) : l.length ≤ 4097 ∧ PL M l (co M l) := by
  unfold validB at h
  simp only [Bool.and_eq_true, decide_eq_true_eq] at h
  exact ⟨h.1.1, h.2.2, h.1.2, rfl⟩
theorem valid_model {l : List Int} (h : validB c s p l = true) : Nonempty (Model c s p) := by
  unfold validB at h
  simp only [Bool.and_eq_true, decide_eq_true_eq] at h
  exact model (goodB_iff.1 h.2.1)
theorem trim_len (l : List Int) : (Pg.trim l).length ≤ l.length := by
  unfold Pg.trim
  rw [List.length_reverse]
  have := (List.dropWhile_sublist (p := fun x : Int => x == 0) (l := l.reverse)).length_le
  rwa [List.length_reverse] at this
theorem nf_len (F : Ser M.K) (n : Nat) : (Pg.trim (mk M F n)).length ≤ n := by
  have := trim_len (mk M F n)
  rwa [mk_length] at this
/-- The list 1. -/
theorem PL.one : PL M [1] (Alg.cst 1) := by
  refine ⟨by rw [inB_cons, inB_nil]; have := M.big; simp; omega, by decide, ?_⟩
  have h : inB s [1] = true := by rw [inB_cons, inB_nil]; have := M.big; simp; omega
  funext i
  apply M.inj
  rw [co_v M h]
  unfold Alg.cst
  cases i with
  | zero => exact M.one.symm
  | succ i => rw [if_neg (by omega), M.zero]; rfl
/-- 1 / a -/
def inv (a : M.K) : M.K := pw a (card M.K - 2)
theorem inv_mul {a : M.K} (h : a ≠ 0) : inv M a * a = 1 := by
  have h1 := Alg.card_pos (K := M.K)
  rw [inv, ← Alg.pw_succ, show card M.K - 2 + 1 = card M.K - 1 from by omega]
  exact Alg.fermat h
end
end Go.Proofs.Ytlhaclammaaabaa.Pg
