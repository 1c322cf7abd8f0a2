import Derived.Test.YtlhaclammaaabaaAlg
/-! Polynomials over a finite field, as functions from indexes to coefficients. -/
namespace Go.Proofs.Ytlhaclammaaabaa.Alg
section
variable {K : Type} [CF K]

/-- A polynomial: the coefficient at each index. -/
abbrev Ser (K : Type) := Nat → K
def tl (f : Ser K) : Ser K := fun i => f (i + 1)
def sadd (f g : Ser K) : Ser K := fun i => f i + g i
def ssub (f g : Ser K) : Ser K := fun i => f i - g i
def smul (c : K) (f : Ser K) : Ser K := fun i => c * f i
def cst (c : K) : Ser K := fun i => if i = 0 then c else 0
/-- x times a polynomial. -/
def sh (f : Ser K) : Ser K
  | 0 => 0
  | i + 1 => f i
/-- The product. -/
def pmul (f g : Ser K) : Ser K
  | 0 => f 0 * g 0
  | n + 1 => f 0 * g (n + 1) + pmul (tl f) g n
/-- The polynomial has at most n coefficients. -/
def Bd (f : Ser K) (n : Nat) : Prop := ∀ i, n ≤ i → f i = 0

theorem tl_sadd (f g : Ser K) : tl (sadd f g) = sadd (tl f) (tl g) := rfl
theorem tl_smul (c : K) (f : Ser K) : tl (smul c f) = smul c (tl f) := rfl
theorem split (f : Ser K) : f = sadd (cst (f 0)) (sh (tl f)) := by
  funext i
  cases i with
  | zero => simp [sadd, cst, sh, add_zero]
  | succ i => simp [sadd, cst, sh, tl, zero_add]

theorem pmul_sadd_left (f f' g : Ser K) : pmul (sadd f f') g = sadd (pmul f g) (pmul f' g) := by
  funext n
  induction n generalizing f f' with
  | zero => exact add_mul _ _ _
  | succ n ih =>
    show (f 0 + f' 0) * _ + pmul (tl (sadd f f')) g n = (f 0 * _ + _) + (f' 0 * _ + _)
    rw [tl_sadd, ih, add_mul]
    show _ + (pmul (tl f) g n + pmul (tl f') g n) = _
    rw [add_assoc, add_assoc, add_left_comm (f' 0 * _)]
theorem pmul_sadd_right (f g g' : Ser K) : pmul f (sadd g g') = sadd (pmul f g) (pmul f g') := by
  funext n
  induction n generalizing f with
  | zero => exact mul_add _ _ _
  | succ n ih =>
    show f 0 * (g (n+1) + g' (n+1)) + pmul (tl f) (sadd g g') n = (f 0 * _ + _) + (f 0 * _ + _)
    rw [ih, mul_add]
    show _ + (pmul (tl f) g n + pmul (tl f) g' n) = _
    rw [add_assoc, add_assoc, add_left_comm (f 0 * g' _)]
theorem pmul_smul_left (c : K) (f g : Ser K) : pmul (smul c f) g = smul c (pmul f g) := by
  funext n
  induction n generalizing f with
  | zero => exact mul_assoc _ _ _
  | succ n ih =>
    show c * f 0 * _ + pmul (tl (smul c f)) g n = c * (f 0 * _ + _)
    rw [tl_smul, ih, mul_assoc, mul_add]
    rfl
theorem pmul_smul_right (c : K) (f g : Ser K) : pmul f (smul c g) = smul c (pmul f g) := by
  funext n
  induction n generalizing f with
  | zero => exact mul_left_comm _ _ _
  | succ n ih =>
    show f 0 * (c * g (n+1)) + pmul (tl f) (smul c g) n = c * (f 0 * _ + _)
    rw [ih, mul_left_comm, mul_add]
    rfl
theorem pmul_zero_left (g : Ser K) : pmul (fun _ => 0) g = fun _ => 0 := by
  funext n
  induction n with
  | zero => exact zero_mul _
  | succ n ih =>
    show (0 : K) * _ + pmul (fun _ => 0) g n = 0
    rw [ih, zero_mul, zero_add]
theorem pmul_cst_left (c : K) (g : Ser K) : pmul (cst c) g = smul c g := by
  funext n
  cases n with
  | zero => show cst c 0 * _ = c * _; simp [cst]
  | succ n =>
    show cst c 0 * _ + pmul (tl (cst c)) g n = c * _
    have : tl (cst c) = fun _ => 0 := by funext i; simp [tl, cst]
    rw [this, pmul_zero_left]
    simp [cst, add_zero]
theorem pmul_sh_left (f g : Ser K) : pmul (sh f) g = sh (pmul f g) := by
  funext n
  cases n with
  | zero => exact zero_mul _
  | succ n =>
    show (0 : K) * _ + pmul (tl (sh f)) g n = pmul f g n
    rw [zero_mul, zero_add]; rfl
theorem pmul_succ' (f g : Ser K) (n : Nat) : pmul f g (n + 1) = pmul f (tl g) n + f (n + 1) * g 0 := by
  induction n generalizing f with
  | zero => rfl
  | succ n ih =>
    show f 0 * g (n + 1 + 1) + pmul (tl f) g (n + 1) = (f 0 * g (n + 1 + 1) + pmul (tl f) (tl g) n) + f (n + 1 + 1) * g 0
    rw [ih, add_assoc]; rfl
theorem pmul_comm (f g : Ser K) : pmul f g = pmul g f := by
  funext n
  induction n generalizing f g with
  | zero => exact mul_comm _ _
  | succ n ih =>
    rw [pmul_succ']
    show _ = g 0 * f (n + 1) + pmul (tl g) f n
    rw [ih, add_comm, mul_comm]
theorem pmul_sh_right (f g : Ser K) : pmul f (sh g) = sh (pmul f g) := by
  rw [pmul_comm, pmul_sh_left, pmul_comm]
theorem smul_sadd (c : K) (f g : Ser K) : smul c (sadd f g) = sadd (smul c f) (smul c g) := by
  funext i; exact mul_add _ _ _
theorem sadd_comm (f g : Ser K) : sadd f g = sadd g f := by funext i; exact add_comm _ _
theorem sadd_assoc (f g h : Ser K) : sadd (sadd f g) h = sadd f (sadd g h) := by funext i; exact add_assoc _ _ _
theorem pmul_assoc (f g h : Ser K) : pmul (pmul f g) h = pmul f (pmul g h) := by
  funext n
  induction n generalizing f with
  | zero =>
    show f 0 * g 0 * h 0 = f 0 * (g 0 * h 0)
    exact mul_assoc _ _ _
  | succ n ih =>
    have e : pmul f g = sadd (smul (f 0) g) (sh (pmul (tl f) g)) := by
      conv => lhs; rw [split f]
      rw [pmul_sadd_left, pmul_cst_left, pmul_sh_left]
    rw [e, pmul_sadd_left, pmul_smul_left, pmul_sh_left]
    show f 0 * pmul g h (n + 1) + pmul (pmul (tl f) g) h n = f 0 * pmul g h (n + 1) + pmul (tl f) (pmul g h) n
    rw [ih]
theorem pmul_ssub_left (f f' g : Ser K) : pmul (ssub f f') g = ssub (pmul f g) (pmul f' g) := by
  have e : sadd (ssub f f') f' = f := by funext i; exact sub_add_cancel _ _
  have h := pmul_sadd_left (ssub f f') f' g
  rw [e] at h
  funext i
  show _ = _ - _
  rw [h]; exact (add_sub_cancel _ _).symm
theorem pmul_ssub_right (f g g' : Ser K) : pmul f (ssub g g') = ssub (pmul f g) (pmul f g') := by
  rw [pmul_comm, pmul_ssub_left, pmul_comm, pmul_comm g']

/-! Bounds. -/
theorem Bd.mono {f : Ser K} {m n : Nat} (h : Bd f m) (hm : m ≤ n) : Bd f n := fun i hi => h i (by omega)
theorem Bd.sadd {f g : Ser K} {n : Nat} (hf : Bd f n) (hg : Bd g n) : Bd (sadd f g) n := fun i hi => by
  show f i + g i = 0
  rw [hf i hi, hg i hi, add_zero]
theorem Bd.ssub {f g : Ser K} {n : Nat} (hf : Bd f n) (hg : Bd g n) : Bd (ssub f g) n := fun i hi => by
  show f i - g i = 0
  rw [hf i hi, hg i hi, sub_zero]
theorem Bd.smul {f : Ser K} {n : Nat} (hf : Bd f n) (c : K) : Bd (smul c f) n := fun i hi => by
  show c * f i = 0
  rw [hf i hi, mul_zero]
theorem Bd.tl {f : Ser K} {n : Nat} (hf : Bd f (n + 1)) : Bd (tl f) n := fun i hi => hf (i + 1) (by omega)
theorem Bd.tl' {f : Ser K} {n : Nat} (hf : Bd f n) : Bd (Alg.tl f) n := fun i hi => hf (i + 1) (by omega)
theorem bd_cst (c : K) : Bd (cst c) 1 := fun i hi => by
  show (if i = 0 then c else 0) = 0
  rw [if_neg (by omega)]
theorem bd_zero (n : Nat) : Bd (fun _ => (0 : K)) n := fun _ _ => rfl
theorem Bd.sh {f : Ser K} {n : Nat} (hf : Bd f n) : Bd (sh f) (n + 1) := fun i hi => by
  obtain ⟨j, rfl⟩ : ∃ j, i = j + 1 := ⟨i - 1, by omega⟩
  exact hf j (by omega)
theorem zero_of_bd {f : Ser K} (h : Bd f 0) : f = fun _ => 0 := by funext i; exact h i (by omega)
/-- The leading coefficient of a product, and its bound. -/
theorem pmul_top {f g : Ser K} {m n : Nat} (hf : Bd f (m + 1)) (hg : Bd g (n + 1)) : Bd (pmul f g) (m + n + 1) ∧ pmul f g (m + n) = f m * g n := by
  induction m generalizing f with
  | zero =>
    have e : f = cst (f 0) := by
      funext i
      cases i with
      | zero => simp [cst]
      | succ i => simp [cst]; exact hf _ (by omega)
    rw [e, pmul_cst_left, Nat.zero_add]
    refine ⟨hg.smul _, ?_⟩
    simp [smul, cst]
  | succ m ih =>
    obtain ⟨h1, h2⟩ := ih hf.tl
    constructor
    · intro i hi
      obtain ⟨j, rfl⟩ : ∃ j, i = j + 1 := ⟨i - 1, by omega⟩
      show f 0 * g (j + 1) + pmul (tl f) g j = 0
      rw [hg _ (by omega), h1 j (by omega), mul_zero, add_zero]
    · rw [show m + 1 + n = (m + n) + 1 from by omega]
      show f 0 * g (m + n + 1) + pmul (tl f) g (m + n) = f (m + 1) * g n
      rw [h2, hg _ (by omega), mul_zero, zero_add]; rfl
theorem Bd.pmul {f g : Ser K} {m n : Nat} (hf : Bd f m) (hg : Bd g n) : Bd (pmul f g) (m + n - 1) := by
  cases m with
  | zero => rw [zero_of_bd hf, pmul_zero_left]; exact bd_zero _
  | succ m =>
    cases n with
    | zero => rw [zero_of_bd hg, pmul_comm, pmul_zero_left]; exact bd_zero _
    | succ n => exact (pmul_top hf hg).1.mono (by omega)
/-- A polynomial that is not zero has a leading coefficient. -/
theorem exists_top {f : Ser K} {n : Nat} (h : Bd f n) (hne : f ≠ fun _ => 0) : ∃ m, m < n ∧ Bd f (m + 1) ∧ f m ≠ 0 := by
  induction n with
  | zero => exact absurd (zero_of_bd h) hne
  | succ n ih =>
    by_cases e : f n = 0
    · obtain ⟨m, h1, h2⟩ := ih (fun i hi => by
        by_cases g : i = n
        · rw [g]; exact e
        · exact h i (by omega))
      exact ⟨m, by omega, h2⟩
    · exact ⟨n, by omega, h, e⟩
theorem pmul_ne {f g : Ser K} {m n : Nat} (hf : Bd f m) (hg : Bd g n) (h1 : f ≠ fun _ => 0) (h2 : g ≠ fun _ => 0) : pmul f g ≠ fun _ => 0 := by
  obtain ⟨a, _, ha, ha'⟩ := exists_top hf h1
  obtain ⟨b, _, hb, hb'⟩ := exists_top hg h2
  intro h
  have := (pmul_top ha hb).2
  rw [h] at this
  exact mul_ne ha' hb' this.symm

/-! Values. -/
/-- The value of the first n coefficients at x. -/
def ev : Nat → Ser K → K → K
  | 0, _, _ => 0
  | n + 1, f, x => f 0 + x * ev n (tl f) x
theorem ev_zero (n : Nat) (x : K) : ev n (fun _ => (0 : K)) x = 0 := by
  induction n with
  | zero => rfl
  | succ n ih =>
    show (0 : K) + x * ev n (fun _ => 0) x = 0
    rw [ih, mul_zero, zero_add]
theorem ev_bd {f : Ser K} {n m : Nat} (h : Bd f n) (hm : n ≤ m) (x : K) : ev m f x = ev n f x := by
  induction n generalizing f m with
  | zero => rw [zero_of_bd h, ev_zero]; rfl
  | succ n ih =>
    obtain ⟨k, rfl⟩ : ∃ k, m = k + 1 := ⟨m - 1, by omega⟩
    show f 0 + x * ev k (tl f) x = f 0 + x * ev n (tl f) x
    rw [ih h.tl (by omega)]
theorem ev_sadd (n : Nat) (f g : Ser K) (x : K) : ev n (sadd f g) x = ev n f x + ev n g x := by
  induction n generalizing f g with
  | zero => exact (add_zero _).symm
  | succ n ih =>
    show (f 0 + g 0) + x * ev n (tl (sadd f g)) x = (f 0 + _) + (g 0 + _)
    rw [tl_sadd, ih, mul_add, add_assoc, add_assoc, add_left_comm (g 0)]
theorem ev_smul (n : Nat) (c : K) (f : Ser K) (x : K) : ev n (smul c f) x = c * ev n f x := by
  induction n generalizing f with
  | zero => exact (mul_zero _).symm
  | succ n ih =>
    show c * f 0 + x * ev n (tl (smul c f)) x = c * (f 0 + _)
    rw [tl_smul, ih, mul_add, mul_left_comm]
theorem ev_sh (n : Nat) (f : Ser K) (x : K) : ev (n + 1) (sh f) x = x * ev n f x := by
  show (0 : K) + x * ev n (tl (sh f)) x = _
  rw [zero_add]; rfl
theorem ev_cst {n : Nat} (h : 1 ≤ n) (c x : K) : ev n (cst c) x = c := by
  rw [ev_bd (bd_cst c) h]
  show cst c 0 + x * 0 = c
  rw [mul_zero, add_zero]; rfl
theorem ev_pmul {f g : Ser K} {m n k : Nat} (hf : Bd f m) (hg : Bd g n) (hk : m + n ≤ k + 1) (x : K) : ev k (pmul f g) x = ev m f x * ev n g x := by
  induction m generalizing f k with
  | zero => rw [zero_of_bd hf, pmul_zero_left, ev_zero]; exact (zero_mul _).symm
  | succ m ih =>
    have e : pmul f g = sadd (smul (f 0) g) (sh (pmul (tl f) g)) := by
      conv => lhs; rw [split f]
      rw [pmul_sadd_left, pmul_cst_left, pmul_sh_left]
    have hn : n ≤ k := by omega
    rw [e, ev_sadd, ev_smul, ev_bd hg hn]
    show _ = (f 0 + x * ev m (tl f) x) * ev n g x
    rw [add_mul, mul_assoc]
    congr 1
    cases k with
    | zero =>
      have : n = 0 := by omega
      subst this
      show (0 : K) = x * (_ * 0)
      rw [mul_zero, mul_zero]
    | succ k => rw [ev_sh, ih hf.tl (by omega)]
theorem ev_ssub (n : Nat) (f g : Ser K) (x : K) : ev n (ssub f g) x = ev n f x - ev n g x := by
  have e : sadd (ssub f g) g = f := by funext i; exact sub_add_cancel _ _
  have h := ev_sadd n (ssub f g) g x
  rw [e] at h
  rw [h, add_sub_cancel]
/-- The value as a sum of powers, the last one first. -/
theorem ev_succ_last (n : Nat) (f : Ser K) (x : K) : ev (n + 1) f x = ev n f x + f n * pw x n := by
  induction n generalizing f with
  | zero =>
    show f 0 + x * 0 = 0 + f 0 * 1
    rw [mul_zero, add_zero, zero_add, mul_one]
  | succ n ih =>
    show f 0 + x * ev (n + 1) (tl f) x = (f 0 + x * ev n (tl f) x) + f (n + 1) * (pw x n * x)
    rw [ih, mul_add, add_assoc]
    congr 2
    show x * (f (n + 1) * pw x n) = _
    rw [mul_left_comm, mul_comm x]

/-! Roots. -/
/-- x - r -/
def lin (r : K) : Ser K := fun i => if i = 0 then -r else if i = 1 then 1 else 0
theorem bd_lin (r : K) : Bd (lin r) 2 := fun i hi => by
  show (if i = 0 then -r else if i = 1 then 1 else 0) = 0
  rw [if_neg (by omega), if_neg (by omega)]
theorem ev_lin {n : Nat} (h : 2 ≤ n) (r x : K) : ev n (lin r) x = x - r := by
  rw [ev_bd (bd_lin r) h]
  show -r + x * (1 + x * 0) = x - r
  rw [mul_zero, add_zero, mul_one, add_comm]; rfl
/-- The quotient of a polynomial with n + 1 coefficients by x - r. -/
def syn (n : Nat) (f : Ser K) (r : K) : Ser K := fun i => ev (n - i) (fun j => f (i + 1 + j)) r
theorem bd_syn (n : Nat) (f : Ser K) (r : K) : Bd (syn n f r) n := fun i hi => by
  show ev (n - i) _ r = 0
  rw [show n - i = 0 from by omega]; rfl
theorem syn_step {n : Nat} {f : Ser K} (h : Bd f (n + 1)) (r : K) (i : Nat) : syn n f r i = f (i + 1) + r * syn n f r (i + 1) := by
  by_cases hi : i < n
  · show ev (n - i) _ r = _ + r * ev (n - (i + 1)) _ r
    rw [show n - i = n - (i + 1) + 1 from by omega]
    show f (i + 1 + 0) + r * ev (n - (i + 1)) (fun j => f (i + 1 + (j + 1))) r = _
    congr 3
    funext j
    congr 1
    omega
  · rw [bd_syn n f r i (by omega), bd_syn n f r (i + 1) (by omega), h (i + 1) (by omega), mul_zero, add_zero]
theorem syn_pmul {n : Nat} {f : Ser K} (h : Bd f (n + 1)) (r : K) : f = sadd (cst (ev (n + 1) f r)) (pmul (lin r) (syn n f r)) := by
  have e : lin r = sadd (cst (-r)) (sh (cst 1)) := by
    funext i
    match i with
    | 0 => simp [lin, sadd, cst, sh, add_zero]
    | 1 => simp [lin, sadd, cst, sh, zero_add]
    | i + 2 => simp [lin, sadd, cst, sh, add_zero]
  rw [e, pmul_sadd_left, pmul_cst_left, pmul_sh_left, pmul_cst_left]
  funext i
  cases i with
  | zero =>
    show f 0 = (f 0 + r * ev n (tl f) r) + (-r * ev (n - 0) (fun j => f (0 + 1 + j)) r + 0)
    have : (fun j => f (0 + 1 + j)) = tl f := by funext j; show _ = f (j + 1); congr 1; omega
    rw [this, Nat.sub_zero, add_zero, neg_mul, add_assoc, add_neg, add_zero]
  | succ i =>
    show f (i + 1) = 0 + (-r * syn n f r (i + 1) + 1 * syn n f r i)
    rw [syn_step h r i, one_mul, zero_add, neg_mul, add_left_comm, neg_add, add_zero]
/-- A polynomial that is zero at at least as many points as it has coefficients is zero. -/
theorem zero_of_roots {n : Nat} {f : Ser K} (h : Bd f n) (l : List K) (hn : l.Nodup) (hl : n ≤ l.length) (hr : ∀ x ∈ l, ev n f x = 0) : f = fun _ => 0 := by
  induction n generalizing f l with
  | zero => exact zero_of_bd h
  | succ n ih =>
    cases l with
    | nil => simp at hl
    | cons r l =>
      rw [List.nodup_cons] at hn
      have e := syn_pmul h r
      rw [hr r (by simp)] at e
      have hz : syn n f r = fun _ => 0 := by
        apply ih (bd_syn n f r) l hn.2 (by simp at hl; omega)
        intro y hy
        have h1 : ev (n + 1) (sadd (cst 0) (pmul (lin r) (syn n f r))) y = 0 := by
          rw [← e]; exact hr y (by simp [hy])
        rw [ev_sadd, ev_cst (by omega), zero_add, ev_pmul (bd_lin r) (bd_syn n f r) (by omega), ev_lin (by omega)] at h1
        refine (CF.zero_div _ _ h1).resolve_left fun h2 => hn.1 ?_
        rw [← eq_of_sub h2]; exact hy
      rw [e, hz, pmul_comm, pmul_zero_left]
      funext i
      show cst 0 i + 0 = 0
      rw [add_zero]; simp [cst]
/-- Two polynomials with the same values at as many points as they have coefficients are equal. -/
theorem eq_of_values {n : Nat} {f g : Ser K} (hf : Bd f n) (hg : Bd g n) (l : List K) (hn : l.Nodup) (hl : n ≤ l.length) (hr : ∀ x ∈ l, ev n f x = ev n g x) : f = g := by
  have h := zero_of_roots (hf.ssub hg) l hn hl (fun x hx => by rw [ev_ssub, hr x hx, sub_self])
  funext i
  have : f i - g i = 0 := congrFun h i
  exact eq_of_sub this

/-! Derivatives. -/
/-- a added up n times. -/
def ns : Nat → K → K
  | 0, _ => 0
  | n + 1, a => ns n a + a
theorem ns_zero (n : Nat) : ns n (0 : K) = 0 := by
  induction n with
  | zero => rfl
  | succ n ih => show ns n 0 + 0 = (0 : K); rw [ih, add_zero]
theorem ns_add (n : Nat) (a b : K) : ns n (a + b) = ns n a + ns n b := by
  induction n with
  | zero => exact (add_zero _).symm
  | succ n ih =>
    show ns n (a + b) + (a + b) = (ns n a + a) + (ns n b + b)
    rw [ih, add_assoc, add_assoc, add_left_comm (ns n b)]
theorem ns_mul (n : Nat) (c a : K) : ns n (c * a) = c * ns n a := by
  induction n with
  | zero => exact (mul_zero _).symm
  | succ n ih =>
    show ns n (c * a) + c * a = c * (ns n a + a)
    rw [ih, mul_add]
/-- The derivative. -/
def der (f : Ser K) : Ser K := fun i => ns (i + 1) (f (i + 1))
theorem Bd.der {f : Ser K} {n : Nat} (h : Bd f n) : Bd (der f) (n - 1) := fun i hi => by
  show ns (i + 1) (f (i + 1)) = 0
  rw [h (i + 1) (by omega), ns_zero]
theorem der_sadd (f g : Ser K) : der (sadd f g) = sadd (der f) (der g) := by
  funext i; exact ns_add _ _ _
theorem der_smul (c : K) (f : Ser K) : der (smul c f) = smul c (der f) := by
  funext i; exact ns_mul _ _ _
theorem der_sh (f : Ser K) : der (sh f) = sadd f (sh (der f)) := by
  funext i
  show ns (i + 1) (f i) = f i + sh (der f) i
  cases i with
  | zero => show (0 : K) + f 0 = f 0 + 0; rw [zero_add, add_zero]
  | succ i => show ns (i + 1) (f (i + 1)) + f (i + 1) = f (i + 1) + ns (i + 1) (f (i + 1)); exact add_comm _ _
theorem sh_sadd (f g : Ser K) : sh (sadd f g) = sadd (sh f) (sh g) := by
  funext i
  cases i with
  | zero => exact (add_zero _).symm
  | succ i => rfl
theorem pmul_split (f g : Ser K) : pmul f g = sadd (smul (f 0) g) (sh (pmul (tl f) g)) := by
  conv => lhs; rw [split f]
  rw [pmul_sadd_left, pmul_cst_left, pmul_sh_left]
theorem der_split (f : Ser K) : der f = sadd (tl f) (sh (der (tl f))) := by
  conv => lhs; rw [split f, der_sadd, der_sh]
  funext i
  show ns (i + 1) (cst (f 0) (i + 1)) + _ = _
  rw [show cst (f 0) (i + 1) = 0 from by simp [cst], ns_zero, zero_add]
theorem der_pmul (f g : Ser K) : der (pmul f g) = sadd (pmul (der f) g) (pmul f (der g)) := by
  funext n
  induction n generalizing f with
  | zero =>
    show ns 1 (pmul f g 1) = ns 1 (f 1) * g 0 + f 0 * ns 1 (g 1)
    show (0 : K) + (f 0 * g 1 + f 1 * g 0) = (0 + f 1) * g 0 + f 0 * (0 + g 1)
    rw [zero_add, zero_add, zero_add, add_comm]
  | succ n ih =>
    rw [pmul_split f g, der_sadd, der_smul, der_sh, pmul_split f (der g), der_split f, pmul_sadd_left, pmul_sh_left]
    show f 0 * der g (n + 1) + (pmul (tl f) g (n + 1) + der (pmul (tl f) g) n) = (pmul (tl f) g (n + 1) + pmul (der (tl f)) g n) + (f 0 * der g (n + 1) + pmul (tl f) (der g) n)
    rw [ih (tl f)]
    show _ + (_ + (pmul (der (tl f)) g n + pmul (tl f) (der g) n)) = _
    rw [add_left_comm (f 0 * _), add_left_comm (f 0 * _), add_assoc]
end
end Go.Proofs.Ytlhaclammaaabaa.Alg
