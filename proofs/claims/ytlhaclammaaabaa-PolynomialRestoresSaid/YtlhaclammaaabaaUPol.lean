import Derived.Test.YtlhaclammaaabaaB3
import Derived.Test.YtlhaclammaaabaaB1
import Derived.Test.YtlhaclammaaabaaUAll
import Derived.Test.YtlhaclammaaabaaHEls
import Derived.Test.YtlhaclammaaabaaHClone
/-! Lists of coefficients: which are taken, trimming, comparison. -/
namespace Go.Proofs.Ytlhaclammaaabaa.Pg
open Go.RowKit Go.Proofs.YtlhaclammaaabaaW.PrintWords Go.Proofs.YtlhaclammaaabaaW.PrintLast Go.Proofs.YtlhaclammaaabaaW.PrintMore
open Go.Proofs.Ytlhaclammaaabaa.Alg (CF card pw)
set_option linter.unusedVariables false
set_option linter.unusedSimpArgs false

theorem rd_nat {l : List Int} {n : Nat} (h : n < l.length) : rd l (n : Int) = l[n] := by simp [rd, h]
/-- A list without zeros at its end. -/
def tight (l : List Int) : Bool := l.getLast? != some 0
def trim (l : List Int) : List Int := (l.reverse.dropWhile (· == 0)).reverse
theorem trim_nil : trim [] = [] := rfl
theorem trim_zero (l : List Int) : trim (l ++ [0]) = trim l := by
  unfold trim
  rw [List.reverse_append]
  simp
theorem trim_last (l : List Int) {x : Int} (h : x ≠ 0) : trim (l ++ [x]) = l ++ [x] := by
  unfold trim
  rw [List.reverse_append]
  simp [List.dropWhile, h]
theorem list_last {l : List Int} (h : 0 < l.length) : l = l.take (l.length - 1) ++ [l[l.length - 1]] := by
  have := (List.take_append_getElem (l := l) (i := l.length - 1) (by omega)).symm
  rwa [show l.length - 1 + 1 = l.length from by omega, List.take_length] at this

theorem ev_elements {c s p : Int} (l : List Int) : Ev (fun k => polynomial_elements.f k c s p l) (goodB c s p && !l.any (bad s)) := by
  unfold polynomial_elements.f
  exact Ev.bind ev_Valid (Ev.now _)
theorem any_bad {s : Int} (l : List Int) : (!l.any (bad s)) = inB s l := by
  induction l with
  | nil => rfl
  | cons x l ih =>
    rw [inB_cons, List.any_cons, Bool.not_or, ih]
    congr 1
    unfold bad
    by_cases h1 : x < 0 <;> by_cases h2 : x ≥ s <;> simp [h1, h2] <;> omega
theorem rElements {c s p : Int} (l : List Int) (hl : l.length < 17592186044416) : Ev (fun k => barscanref05_elements.f k c s p l) (inB s l) := by
  have key : ∀ (j n : Nat), n + j = l.length → Ev (fun k => barscanref05_elements.l0 k l (n : Int) c s p) (inB s (l.drop n)) := by
    intro j
    induction j with
    | zero =>
      intro n hn
      refine evs ?_
      simp only [barscanref05_elements.l0]
      refine evf (by omega) ?_
      rw [List.drop_eq_nil_of_le (by omega)]
      exact Ev.now _
    | succ j ih =>
      intro n hn
      have hlt : n < l.length := by omega
      refine evs ?_
      simp only [barscanref05_elements.l0, rd_nat hlt]
      refine evt (by omega) (evt (by omega) ?_)
      rw [List.drop_eq_getElem_cons hlt, inB_cons]
      unfold barscanref05_element.f
      by_cases h1 : l[n] ≥ 0
      · simp only [if_pos h1]
        rw [decide_eq_true (show 0 ≤ l[n] by omega)]
        by_cases h2 : l[n] < s
        · rw [decide_eq_true h2]
          refine Ev.bind (Ev.now _) (evt rfl ?_)
          rw [show wrap64 ((n : Int) + 1) = ((n + 1 : Nat) : Int) from w64 (by omega) (by omega)]
          exact evn (by simp) (ih (n + 1) (by omega))
        · rw [decide_eq_false h2]
          exact Ev.bind (Ev.now _) (evf (by simp) (evn (by simp) (Ev.now _)))
      · simp only [if_neg h1]
        rw [decide_eq_false (show ¬ 0 ≤ l[n] by omega)]
        exact Ev.bind (Ev.now _) (evf (by simp) (evn (by simp) (Ev.now _)))
  have := key l.length 0 (by omega)
  rw [List.drop_zero] at this
  exact this
/-- A polynomial that both packages take. -/
noncomputable def validB (c s p : Int) (l : List Int) : Bool := decide (l.length ≤ 4097) && tight l && (goodB c s p && inB s l)
theorem tight_nil : tight [] = true := rfl
theorem tight_last {l : List Int} (h : 0 < l.length) : tight l = (l[l.length - 1] != 0) := by
  unfold tight
  rw [List.getLast?_eq_getElem?, List.getElem?_eq_getElem (by omega)]
  rfl
theorem ev_PValid {c s p : Int} (l : List Int) : Ev (fun k => polynomial_Valid.f k c s p l) (validB c s p l) := by
  unfold polynomial_Valid.f validB
  by_cases h1 : l.length ≤ 4097
  · rw [decide_eq_true h1]
    refine evt (by omega) ?_
    by_cases h0 : l.length = 0
    · refine evt (by omega) (Ev.bind (ev_elements l) (evn ?_ (Ev.now _)))
      rw [List.length_eq_zero_iff.1 h0, tight_nil, any_bad]; rfl
    · refine evf (by omega) ?_
      rw [show wrap64 ((l.length : Int) - 1) = ((l.length - 1 : Nat) : Int) from by rw [w64 (by omega) (by omega)]; omega]
      refine evt (by omega) (evt (by omega) ?_)
      rw [rd_nat (show l.length - 1 < l.length by omega), tight_last (by omega)]
      by_cases hz : l[l.length - 1]'(by omega) = 0
      · refine evt hz (evn ?_ (Ev.now _))
        simp [hz]
      · refine evf hz (Ev.bind (ev_elements l) (evn ?_ (Ev.now _)))
        rw [any_bad, bne_iff_ne.2 hz]; rfl
  · rw [decide_eq_false h1]
    exact evf (by omega) (Ev.now _)
theorem rPValid {c s p : Int} (hs : s < 2 ^ 63) (l : List Int) : Ev (fun k => barscanref05_Valid.f k c s p l) (validB c s p l) := by
  unfold barscanref05_Valid.f validB
  refine Ev.bind (rValid hs) ?_
  by_cases hg : goodB c s p = true
  · refine evt hg ?_
    rw [hg]
    by_cases h1 : l.length ≤ 4097
    · rw [decide_eq_true h1]
      refine evt (by omega) (Ev.bind (rElements l (by omega)) ?_)
      by_cases he : inB s l = true
      · refine evt he ?_
        rw [he]
        by_cases h0 : l.length = 0
        · refine evt (by omega) (evn ?_ (Ev.now _))
          rw [List.length_eq_zero_iff.1 h0, tight_nil]; rfl
        · refine evf (by omega) ?_
          rw [show wrap64 ((l.length : Int) - 1) = ((l.length - 1 : Nat) : Int) from by rw [w64 (by omega) (by omega)]; omega]
          refine evt (by omega) (evt (by omega) ?_)
          rw [rd_nat (show l.length - 1 < l.length by omega), tight_last (by omega)]
          exact evn (by simp) (Ev.now _)
      · refine evf he (evn ?_ (Ev.now _))
        rw [Bool.eq_false_iff.2 he]; simp
    · rw [decide_eq_false h1]
      exact evf (by omega) (Ev.now _)
  · refine evf hg (evn ?_ (Ev.now _))
    rw [Bool.eq_false_iff.2 hg]; simp

theorem ev_trimmed (n : Nat) : ∀ l : List Int, l.length = n → n < 17592186044416 → Ev (fun k => polynomial_trimmed_int.l0 k l 0) (trim l) := by
  induction n with
  | zero =>
    intro l hl _
    have : l = [] := List.length_eq_zero_iff.1 hl
    subst this
    refine evs ?_
    simp only [polynomial_trimmed_int.l0]
    refine evf (by simp) ?_
    simp only [slices_Clone_int_int.f]
    exact Ev.bind (evt (by simp) (Ev.now _)) (Ev.now _)
  | succ n ih =>
    intro l hl hn
    refine evs ?_
    simp only [polynomial_trimmed_int.l0]
    rw [show wrap64 ((l.length : Int) - 1) = ((l.length - 1 : Nat) : Int) from by rw [w64 (by omega) (by omega)]; omega]
    refine evt (by omega) (evt (by omega) (evt (by omega) ?_))
    rw [rd_nat (show l.length - 1 < l.length by omega)]
    have hlast := list_last (l := l) (by omega)
    by_cases hz : l[l.length - 1]'(by omega) = 0
    · refine evt hz (evt (by omega) ?_)
      rw [hz] at hlast
      rw [Int.toNat_natCast]
      refine evn ?_ (ih (l.take (l.length - 1)) (by rw [List.length_take]; omega) (by omega))
      conv => rhs; rw [hlast, trim_zero]
    · refine evf hz ?_
      simp only [slices_Clone_int_int.f]
      refine Ev.bind (evt (by omega) (Ev.now _)) (evn ?_ (Ev.now _))
      conv => rhs; rw [hlast, trim_last _ hz]
      exact hlast
theorem ev_trim {l : List Int} (h : l.length < 17592186044416) : Ev (fun k => polynomial_trimmed_int.f k l) (trim l) := ev_trimmed l.length l rfl h
theorem rTrim_l {l : List Int} (h : l.length < 17592186044416) (n : Nat) : n ≤ l.length → Ev (fun k => barscanref05_Trim.l0 k l (n : Int)) (trim (l.take n)) := by
  induction n with
  | zero =>
    intro _
    refine evs ?_
    simp only [barscanref05_Trim.l0]
    refine evf (by omega) (Ev.bind (Ev.now _) (evt (by omega) (evt (by omega) (evt (by simp) (evn ?_ (Ev.now _))))))
    simp [trim]
  | succ n ih =>
    intro hn
    refine evs ?_
    simp only [barscanref05_Trim.l0]
    rw [show wrap64 (((n + 1 : Nat) : Int) - 1) = ((n : Nat) : Int) from by rw [w64 (by omega) (by omega)]; omega]
    refine evt (by omega) (evt (by omega) (evt (by omega) ?_))
    rw [rd_nat (show n < l.length by omega)]
    have hlast := List.take_append_getElem (l := l) (i := n) (by omega)
    by_cases hz : l[n]'(by omega) = 0
    · refine evt hz ?_
      rw [← hlast, hz, trim_zero]
      exact ih (by omega)
    · refine evf hz (Ev.bind (Ev.now _) (evt (by omega) (evt (by omega) (evt ?_ (evn ?_ (Ev.now _))))))
      · simp; omega
      · rw [← hlast, trim_last _ hz, Int.toNat_natCast, List.nil_append]
        exact hlast.symm
theorem rTrim {l : List Int} (h : l.length < 17592186044416) : Ev (fun k => barscanref05_Trim.f k l) (trim l) := by
  have := rTrim_l h l.length (Nat.le_refl _)
  rw [List.take_length] at this
  exact this
theorem ev_same {l : List Int} (h : l.length < 17592186044416) : Ev (fun k => barscanlaw05_same.f k l l) true := by
  unfold barscanlaw05_same.f barscanref05_Same.f
  have key : ∀ (j n : Nat), n + j = l.length → Ev (fun k => barscanref05_Same.l0 k l l (n : Int)) true := by
    intro j
    induction j with
    | zero =>
      intro n hn
      refine evs ?_
      simp only [barscanref05_Same.l0]
      exact evf (by omega) (Ev.now _)
    | succ j ih =>
      intro n hn
      refine evs ?_
      simp only [barscanref05_Same.l0]
      refine evt (by omega) (evt (by omega) (evt (by omega) (evt trivial ?_)))
      rw [show wrap64 ((n : Int) + 1) = ((n + 1 : Nat) : Int) from w64 (by omega) (by omega)]
      exact ih (n + 1) (by omega)
  exact Ev.bind (evt rfl (key l.length 0 (by omega))) (Ev.now _)
end Go.Proofs.Ytlhaclammaaabaa.Pg
