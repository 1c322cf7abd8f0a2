import Derived.Test.YtlhaclammaaabaaB3
import Derived.Test.YtlhaclammaaabaaB2
import Derived.Test.YtlhaclammaaabaaUAdd
/-! Products of polynomials. -/
namespace Go.Proofs.Ytlhaclammaaabaa.Pg
open Go.RowKit Go.Proofs.YtlhaclammaaabaaW.PrintWords Go.Proofs.YtlhaclammaaabaaW.PrintLast Go.Proofs.YtlhaclammaaabaaW.PrintMore
open Go.Proofs.Ytlhaclammaaabaa.Alg (CF card pw Ser Bd sadd pmul tl sh)
set_option linter.unusedVariables false
set_option linter.unusedSimpArgs false
section
variable {K : Type} [CF K]
/-- The first i rows of a product. -/
def part (f g : Ser K) : Nat → Ser K
  | 0 => fun _ => 0
  | i + 1 => fun m => part f g i m + (if i ≤ m then f i * g (m - i) else 0)
/-- .. and the first j places of the next row. -/
def row (f g : Ser K) (i j : Nat) : Ser K := fun m => part f g i m + (if i ≤ m ∧ m - i < j then f i * g (m - i) else 0)
theorem row_zero (f g : Ser K) (i : Nat) : row f g i 0 = part f g i := by
  funext m; unfold row; rw [if_neg (by omega), Alg.add_zero]
theorem row_full (f : Ser K) {g : Ser K} {n : Nat} (hg : Bd g n) (i : Nat) : row f g i n = part f g (i + 1) := by
  funext m; unfold row; show _ = part f g i m + _
  by_cases h : i ≤ m
  · rw [if_pos h]
    by_cases h2 : m - i < n
    · rw [if_pos ⟨h, h2⟩]
    · rw [if_neg (fun e => h2 e.2), hg (m - i) (by omega), Alg.mul_zero]
  · rw [if_neg h, if_neg (fun e => h e.1)]
theorem row_succ (f g : Ser K) (i j m : Nat) : row f g i (j + 1) m = if m = i + j then row f g i j m + f i * g j else row f g i j m := by
  unfold row
  by_cases h : m = i + j
  · subst h
    rw [if_pos rfl, if_pos (by omega), if_neg (by omega), Alg.add_zero, show i + j - i = j from by omega]
  · rw [if_neg h]
    congr 1
    by_cases h1 : i ≤ m ∧ m - i < j
    · rw [if_pos h1, if_pos (by omega)]
    · rw [if_neg h1, if_neg (by omega)]
theorem part_tl (f g : Ser K) (i : Nat) : ∀ m, part f g (i + 1) m = f 0 * g m + sh (part (tl f) g i) m := by
  induction i with
  | zero =>
    intro m
    show (0 : K) + (if 0 ≤ m then f 0 * g (m - 0) else 0) = _
    rw [Alg.zero_add, if_pos (by omega)]
    cases m with
    | zero => show _ = f 0 * g 0 + 0; rw [Alg.add_zero]
    | succ m => show _ = f 0 * g (m + 1) + 0; rw [Alg.add_zero]; rfl
  | succ i ih =>
    intro m
    show part f g (i + 1) m + (if i + 1 ≤ m then f (i + 1) * g (m - (i + 1)) else 0) = _
    rw [ih m]
    cases m with
    | zero => show f 0 * g 0 + 0 + _ = f 0 * g 0 + 0; rw [if_neg (by omega), Alg.add_zero]
    | succ m =>
      show f 0 * g (m + 1) + part (tl f) g i m + _ = f 0 * g (m + 1) + (part (tl f) g i m + (if i ≤ m then tl f i * g (m - i) else 0))
      rw [Alg.add_assoc]
      by_cases h : i ≤ m
      · rw [if_pos h, if_pos (by omega), show m + 1 - (i + 1) = m - i from by omega]; rfl
      · rw [if_neg h, if_neg (by omega)]
theorem part_pmul {f : Ser K} (g : Ser K) {n : Nat} : Bd f n → part f g n = pmul f g := by
  induction n generalizing f with
  | zero =>
    intro h
    rw [Alg.zero_of_bd h, Alg.pmul_zero_left]; rfl
  | succ n ih =>
    intro h
    funext m
    rw [part_tl, ih h.tl, Alg.pmul_split f g]; rfl
end
section
variable {c s p : Int} (M : Model c s p)
theorem mk_get (F : Ser M.K) {n i : Nat} (h : i < n) : rd (mk M F n) (i : Int) = M.v (F i) := by
  rw [rd_nat (by rw [mk_length]; exact h)]
  simp [mk]
theorem mk_ext {F G : Ser M.K} {n : Nat} (h : ∀ i, i < n → F i = G i) : mk M F n = mk M G n := by
  unfold mk
  apply List.map_congr_left
  intro i hi
  rw [h i (List.mem_range.1 hi)]
theorem mk_put {F G : Ser M.K} {n i : Nat} (h : i < n) (hG : ∀ m, G m = if m = i then G i else F m) : (mk M F n).set i (M.v (G i)) = mk M G n := by
  apply List.ext_getElem
  · simp [mk]
  · intro j h1 h2
    rw [List.getElem_set]
    simp only [mk, List.getElem_map, List.getElem_range]
    rw [hG j]
    by_cases e : i = j
    · subst e; rw [if_pos rfl, if_pos rfl]
    · rw [if_neg e, if_neg (fun e' => e e'.symm)]
theorem rd_co {l : List Int} (hl : inB s l = true) {i : Nat} (h : i < l.length) : rd l (i : Int) = M.v (co M l i) := by
  rw [rd_nat h, co_v M hl, List.getD_eq_getElem?_getD, List.getElem?_eq_getElem h]; rfl
theorem mk_none (n : Nat) : mk M (fun _ => 0) n = List.replicate n 0 := by
  unfold mk
  apply List.ext_getElem
  · simp
  · intro i h1 h2
    simp [M.zero]
theorem ev_product_l {a b : List Int} (ha : inB s a = true) (hb : inB s b = true) (hla : a.length < 2 ^ 40) (hlb : b.length < 2 ^ 40) (ha0 : 0 < a.length) (hb0 : 0 < b.length) (j : Nat) : ∀ i : Nat, i + j = a.length →
    Ev (fun k => polynomial_product.l0 k b (mk M (part (co M a) (co M b) i) (a.length + b.length - 1)) a (a.length : Int) (i : Int) c s p) (trim (mk M (pmul (co M a) (co M b)) (a.length + b.length - 1))) := by
  induction j with
  | zero =>
    intro i hi
    refine evs ?_
    simp only [polynomial_product.l0]
    refine evf (by omega) (Ev.bind (ev_trim ?_) (evn ?_ (Ev.now _)))
    · rw [mk_length]; omega
    · rw [show i = a.length from by omega, part_pmul _ (co_bd M ha)]
  | succ j ih =>
    intro i hi
    refine evs ?_
    simp only [polynomial_product.l0]
    rw [rd_co M ha (show i < a.length by omega)]
    refine evt (by omega) (evt (by omega) (evt (by omega) ?_))
    have key : ∀ u t : Nat, t + u = b.length → Ev (fun k => polynomial_product.l1 k b (mk M (row (co M a) (co M b) i t) (a.length + b.length - 1)) (i : Int) (M.v (co M a i)) a (a.length : Int) (i : Int) b (b.length : Int) (t : Int) c s p) (trim (mk M (pmul (co M a) (co M b)) (a.length + b.length - 1))) := by
      intro u
      induction u with
      | zero =>
        intro t ht
        refine evs ?_
        simp only [polynomial_product.l1]
        refine evf (by omega) ?_
        rw [show t = b.length from by omega, row_full _ (co_bd M hb), show wrap64 ((i : Int) + 1) = ((i + 1 : Nat) : Int) from w64 (by omega) (by omega)]
        exact ih (i + 1) (by omega)
      | succ u ihu =>
        intro t ht
        refine evs ?_
        simp only [polynomial_product.l1]
        rw [show wrap64 ((i : Int) + (t : Int)) = ((i + t : Nat) : Int) from w64 (by omega) (by omega), rd_co M hb (show t < b.length by omega), mk_get M _ (show i + t < a.length + b.length - 1 by omega)]
        refine evt (by omega) (evt (by omega) (evt (by omega) (evt (by omega) (evt (by rw [mk_length]; omega) (Ev.bind (ev_mul M _ _) ?_)))))
        simp only [padd_eq M]
        refine Ev.bind (Ev.now _) ?_
        rw [Int.toNat_natCast, show wrap64 ((t : Int) + 1) = ((t + 1 : Nat) : Int) from w64 (by omega) (by omega)]
        have hs := row_succ (co M a) (co M b) i t
        have he : row (co M a) (co M b) i (t + 1) (i + t) = row (co M a) (co M b) i t (i + t) + co M a i * co M b t := by rw [hs, if_pos rfl]
        have hp := mk_put M (F := row (co M a) (co M b) i t) (G := row (co M a) (co M b) i (t + 1)) (n := a.length + b.length - 1) (i := i + t) (by omega) (by
          intro m
          by_cases e : m = i + t
          · subst e; rw [if_pos rfl]
          · rw [if_neg e, hs, if_neg e])
        rw [he] at hp
        rw [hp]
        exact ihu (t + 1) (by omega)
    have := key b.length 0 (by omega)
    rw [row_zero] at this
    exact this
theorem ev_product {a b : List Int} (ha : inB s a = true) (hb : inB s b = true) (hla : a.length < 2 ^ 40) (hlb : b.length < 2 ^ 40) (ha0 : 0 < a.length) (hb0 : 0 < b.length) :
    Ev (fun k => polynomial_product.f k c s p a b) (trim (mk M (pmul (co M a) (co M b)) (a.length + b.length - 1))) := by
  unfold polynomial_product.f
  refine evf (by omega) ?_
  rw [show ((b.length : Int) == 0) = false from by rw [beq_eq_false_iff_ne]; omega]
  refine evs ?_
  simp only [polynomial_product.j0]
  rw [show wrap64 (wrap64 ((a.length : Int) + (b.length : Int)) - 1) = ((a.length + b.length - 1 : Nat) : Int) from by rw [w64 (x := (a.length : Int) + (b.length : Int)) (by omega) (by omega), w64 (by omega) (by omega)]; omega, Int.toNat_natCast]
  refine evf (by simp) (evt (by omega) (evt (by omega) ?_))
  have := ev_product_l M ha hb hla hlb ha0 hb0 a.length 0 (by omega)
  rw [show part (co M a) (co M b) 0 = (fun _ => 0) from rfl, mk_none] at this
  exact this
theorem rMul_l {a b : List Int} (ha : inB s a = true) (hb : inB s b = true) (hla : a.length < 2 ^ 40) (hlb : b.length < 2 ^ 40) (ha0 : 0 < a.length) (hb0 : 0 < b.length) (j : Nat) : ∀ i : Nat, i + j = a.length →
    Ev (fun k => barscanref05_Mul.l0 k a b (mk M (part (co M a) (co M b) i) (a.length + b.length - 1)) (i : Int) c s p) (trim (mk M (pmul (co M a) (co M b)) (a.length + b.length - 1)), 0) := by
  induction j with
  | zero =>
    intro i hi
    refine evs ?_
    simp only [barscanref05_Mul.l0]
    refine evf (by omega) (Ev.bind (rTrim ?_) (evn ?_ (Ev.now _)))
    · rw [mk_length]; omega
    · rw [show i = a.length from by omega, part_pmul _ (co_bd M ha)]
  | succ j ih =>
    intro i hi
    refine evs ?_
    simp only [barscanref05_Mul.l0]
    refine evt (by omega) ?_
    have key : ∀ u t : Nat, t + u = b.length → Ev (fun k => barscanref05_Mul.l1 k a b (mk M (row (co M a) (co M b) i t) (a.length + b.length - 1)) (i : Int) (t : Int) c s p) (trim (mk M (pmul (co M a) (co M b)) (a.length + b.length - 1)), 0) := by
      intro u
      induction u with
      | zero =>
        intro t ht
        refine evs ?_
        simp only [barscanref05_Mul.l1]
        refine evf (by omega) ?_
        rw [show t = b.length from by omega, row_full _ (co_bd M hb), show wrap64 ((i : Int) + 1) = ((i + 1 : Nat) : Int) from w64 (by omega) (by omega)]
        exact ih (i + 1) (by omega)
      | succ u ihu =>
        intro t ht
        refine evs ?_
        simp only [barscanref05_Mul.l1]
        rw [show wrap64 ((i : Int) + (t : Int)) = ((i + t : Nat) : Int) from w64 (by omega) (by omega), rd_co M hb (show t < b.length by omega), rd_co M ha (show i < a.length by omega), mk_get M _ (show i + t < a.length + b.length - 1 by omega)]
        refine evt (by omega) (evt (by omega) (evt (by rw [mk_length]; omega) (evt (by omega) (evt (by omega) (evt (by omega) (Ev.bind (r5times M _ _) ?_))))))
        simp only [rplus_eq M]
        refine Ev.bind (Ev.now _) ?_
        rw [Int.toNat_natCast, show wrap64 ((t : Int) + 1) = ((t + 1 : Nat) : Int) from w64 (by omega) (by omega)]
        have hs := row_succ (co M a) (co M b) i t
        have he : row (co M a) (co M b) i (t + 1) (i + t) = row (co M a) (co M b) i t (i + t) + co M a i * co M b t := by rw [hs, if_pos rfl]
        have hp := mk_put M (F := row (co M a) (co M b) i t) (G := row (co M a) (co M b) i (t + 1)) (n := a.length + b.length - 1) (i := i + t) (by omega) (by
          intro m
          by_cases e : m = i + t
          · subst e; rw [if_pos rfl]
          · rw [if_neg e, hs, if_neg e])
        rw [he] at hp
        rw [hp]
        exact ihu (t + 1) (by omega)
    have := key b.length 0 (by omega)
    rw [row_zero] at this
    exact this
end
end Go.Proofs.Ytlhaclammaaabaa.Pg
