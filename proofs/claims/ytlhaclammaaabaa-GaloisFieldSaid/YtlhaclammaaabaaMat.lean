
/-! Commutative rings without zero divisors, with finitely many elements: powers, sums, Fermat. -/
namespace Go.Proofs.Ytlhaclammaaabaa.Alg

/-- A finite field, as a ring without zero divisors whose elements are listed. -/
class CF (K : Type) extends Add K, Mul K, Neg K, Zero K, One K where
  dec : DecidableEq K
  add_assoc : ∀ a b c : K, a + b + c = a + (b + c)
  add_comm : ∀ a b : K, a + b = b + a
  zero_add : ∀ a : K, 0 + a = a
  neg_add : ∀ a : K, -a + a = 0
  mul_assoc : ∀ a b c : K, a * b * c = a * (b * c)
  mul_comm : ∀ a b : K, a * b = b * a
  one_mul : ∀ a : K, 1 * a = a
  mul_add : ∀ a b c : K, a * (b + c) = a * b + a * c
  one_ne : (1 : K) ≠ 0
  zero_div : ∀ a b : K, a * b = 0 → a = 0 ∨ b = 0
  elems : List K
  nodup : elems.Nodup
  full : ∀ a : K, a ∈ elems

section
variable {K : Type} [CF K]

instance : DecidableEq K := CF.dec
instance : Sub K := ⟨fun a b => a + -b⟩

theorem sub_def (a b : K) : a - b = a + -b := rfl
theorem add_assoc (a b c : K) : a + b + c = a + (b + c) := CF.add_assoc a b c
theorem add_comm (a b : K) : a + b = b + a := CF.add_comm a b
theorem zero_add (a : K) : 0 + a = a := CF.zero_add a
theorem add_zero (a : K) : a + 0 = a := by rw [add_comm, zero_add]
theorem neg_add (a : K) : -a + a = 0 := CF.neg_add a
theorem add_neg (a : K) : a + -a = 0 := by rw [add_comm, neg_add]
theorem mul_assoc (a b c : K) : a * b * c = a * (b * c) := CF.mul_assoc a b c
theorem mul_comm (a b : K) : a * b = b * a := CF.mul_comm a b
theorem one_mul (a : K) : 1 * a = a := CF.one_mul a
theorem mul_one (a : K) : a * 1 = a := by rw [mul_comm, one_mul]
theorem mul_add (a b c : K) : a * (b + c) = a * b + a * c := CF.mul_add a b c
theorem add_mul (a b c : K) : (a + b) * c = a * c + b * c := by rw [mul_comm, mul_add, mul_comm c, mul_comm c]
theorem add_left_comm (a b c : K) : a + (b + c) = b + (a + c) := by rw [← add_assoc, add_comm a b, add_assoc]
theorem mul_left_comm (a b c : K) : a * (b * c) = b * (a * c) := by rw [← mul_assoc, mul_comm a b, mul_assoc]
theorem add_left_cancel {a b c : K} (h : a + b = a + c) : b = c := by
  rw [← zero_add b, ← zero_add c, ← neg_add a, add_assoc, add_assoc, h]
theorem add_right_cancel {a b c : K} (h : b + a = c + a) : b = c := by
  rw [add_comm b, add_comm c] at h; exact add_left_cancel h
theorem mul_zero (a : K) : a * 0 = 0 := by
  apply add_left_cancel (a := a * 0); rw [← mul_add, add_zero, add_zero]
theorem zero_mul (a : K) : 0 * a = 0 := by rw [mul_comm, mul_zero]
theorem neg_eq {a b : K} (h : a + b = 0) : b = -a := by
  apply add_left_cancel (a := a); rw [h, add_neg]
theorem neg_zero : -(0 : K) = 0 := (neg_eq (zero_add 0)).symm
theorem neg_neg (a : K) : - -a = a := (neg_eq (neg_add a)).symm
theorem neg_mul (a b : K) : -a * b = -(a * b) := neg_eq (by rw [← add_mul, add_neg, zero_mul])
theorem mul_neg (a b : K) : a * -b = -(a * b) := by rw [mul_comm, neg_mul, mul_comm]
theorem neg_add_rev (a b : K) : -(a + b) = -a + -b := by
  symm; apply neg_eq
  rw [add_assoc, add_left_comm b, add_neg, add_zero, add_neg]
theorem sub_self (a : K) : a - a = 0 := add_neg a
theorem sub_zero (a : K) : a - 0 = a := by rw [sub_def, neg_zero, add_zero]
theorem zero_sub (a : K) : 0 - a = -a := by rw [sub_def, zero_add]
theorem eq_of_sub {a b : K} (h : a - b = 0) : a = b := by
  apply add_right_cancel (a := -b); rw [add_neg]; exact h
theorem sub_add_cancel (a b : K) : a - b + b = a := by rw [sub_def, add_assoc, neg_add, add_zero]
theorem add_sub_cancel (a b : K) : a + b - b = a := by rw [sub_def, add_assoc, add_neg, add_zero]
theorem sub_mul (a b c : K) : (a - b) * c = a * c - b * c := by rw [sub_def, sub_def, add_mul, neg_mul]
theorem mul_sub (a b c : K) : a * (b - c) = a * b - a * c := by rw [sub_def, sub_def, mul_add, mul_neg]
theorem sub_eq_iff {a b c : K} : a - b = c ↔ a = c + b :=
  ⟨fun h => by rw [← h, sub_add_cancel], fun h => by rw [h, add_sub_cancel]⟩
theorem mul_ne {a b : K} (ha : a ≠ 0) (hb : b ≠ 0) : a * b ≠ 0 := fun h => (CF.zero_div a b h).elim ha hb
theorem mul_left_cancel {a b c : K} (ha : a ≠ 0) (h : a * b = a * c) : b = c := by
  apply eq_of_sub
  have : a * (b - c) = 0 := by rw [mul_sub, h, sub_self]
  exact (CF.zero_div _ _ this).resolve_left ha
theorem mul_right_cancel {a b c : K} (ha : a ≠ 0) (h : b * a = c * a) : b = c := by
  rw [mul_comm b, mul_comm c] at h; exact mul_left_cancel ha h
theorem one_ne : (1 : K) ≠ 0 := CF.one_ne

/-- Powers. -/
def pw (a : K) : Nat → K
  | 0 => 1
  | n + 1 => pw a n * a
theorem pw_zero (a : K) : pw a 0 = 1 := rfl
theorem pw_succ (a : K) (n : Nat) : pw a (n + 1) = pw a n * a := rfl
theorem pw_one (a : K) : pw a 1 = a := one_mul a
theorem pw_add (a : K) (m n : Nat) : pw a (m + n) = pw a m * pw a n := by
  induction n with
  | zero => rw [Nat.add_zero, pw_zero, mul_one]
  | succ n ih => rw [← Nat.add_assoc, pw_succ, ih, pw_succ, mul_assoc]
theorem one_pw (n : Nat) : pw (1 : K) n = 1 := by
  induction n with
  | zero => rfl
  | succ n ih => rw [pw_succ, ih, one_mul]
theorem pw_mul (a : K) (m n : Nat) : pw a (m * n) = pw (pw a m) n := by
  induction n with
  | zero => rfl
  | succ n ih => rw [Nat.mul_succ, pw_add, ih, pw_succ]
theorem mul_pw (a b : K) (n : Nat) : pw (a * b) n = pw a n * pw b n := by
  induction n with
  | zero => rw [pw_zero, pw_zero, pw_zero, one_mul]
  | succ n ih => rw [pw_succ, ih, pw_succ, pw_succ, mul_assoc, mul_assoc, mul_left_comm (pw b n)]
theorem zero_pw {n : Nat} (h : 0 < n) : pw (0 : K) n = 0 := by
  obtain ⟨m, rfl⟩ : ∃ m, n = m + 1 := ⟨n - 1, by omega⟩
  rw [pw_succ, mul_zero]
theorem pw_ne {a : K} (h : a ≠ 0) (n : Nat) : pw a n ≠ 0 := by
  induction n with
  | zero => exact one_ne
  | succ n ih => exact mul_ne ih h

/-- The number of the elements. -/
def card (K : Type) [CF K] : Nat := (CF.elems : List K).length

/-- The product of a list. -/
def prod : List K → K
  | [] => 1
  | a :: l => a * prod l
theorem prod_perm {l m : List K} (h : l.Perm m) : prod l = prod m := by
  induction h with
  | nil => rfl
  | cons a _ ih => show a * _ = a * _; rw [ih]
  | swap a b l => show b * (a * _) = a * (b * _); rw [mul_left_comm]
  | trans _ _ h1 h2 => rw [h1, h2]
theorem prod_map (a : K) (l : List K) : prod (l.map (a * ·)) = pw a l.length * prod l := by
  induction l with
  | nil => show (1 : K) = 1 * 1; rw [one_mul]
  | cons b l ih =>
    show a * b * prod (l.map (a * ·)) = pw a l.length * a * (b * prod l)
    rw [ih, mul_assoc, mul_assoc, mul_left_comm b, mul_left_comm a]
theorem prod_ne {l : List K} (h : ∀ a ∈ l, a ≠ 0) : prod l ≠ 0 := by
  induction l with
  | nil => exact one_ne
  | cons a l ih => exact mul_ne (h a (by simp)) (ih fun b hb => h b (by simp [hb]))

/-- Two lists without repetition and with the same members are permutations of each other. -/
theorem perm_of_same {α : Type} [DecidableEq α] {l m : List α} (hl : l.Nodup) (hm : m.Nodup) (h : ∀ a, a ∈ l ↔ a ∈ m) : l.Perm m := by
  rw [List.perm_iff_count]
  intro a
  rw [List.Nodup.count hl, List.Nodup.count hm]
  simp only [h a]

theorem length_le_of_subset {α : Type} [DecidableEq α] {l : List α} : ∀ {m : List α}, l.Nodup → l ⊆ m → l.length ≤ m.length := by
  induction l with
  | nil => intro m _ _; simp
  | cons a l ih =>
    intro m hn hs
    rw [List.nodup_cons] at hn
    have ha : a ∈ m := hs (by simp)
    have h := ih (m := m.erase a) hn.2 (by
      intro b hb
      have hne : b ≠ a := fun e => hn.1 (e ▸ hb)
      exact (List.mem_erase_of_ne hne).2 (hs (by simp [hb])))
    rw [List.length_erase_of_mem ha] at h
    have := List.length_pos_of_mem ha
    simp only [List.length_cons]; omega
theorem mem_of_length {α : Type} [DecidableEq α] {l m : List α} (hn : l.Nodup) (hs : l ⊆ m) (hl : m.length ≤ l.length) (a : α) (h : a ∈ m) : a ∈ l := by
  apply Decidable.byContradiction
  intro hne
  have := length_le_of_subset (l := a :: l) (m := m) (List.nodup_cons.2 ⟨hne, hn⟩) (by
    intro b hb
    rcases List.mem_cons.1 hb with rfl | hb
    · exact h
    · exact hs hb)
  simp only [List.length_cons] at this; omega

/-- The elements other than 0. -/
def units (K : Type) [CF K] : List K := (CF.elems : List K).filter (fun a => decide (a ≠ 0))
theorem mem_units (a : K) : a ∈ units K ↔ a ≠ 0 := by
  unfold units; simp [CF.full]
theorem units_nodup : (units K).Nodup := CF.nodup.filter _
theorem card_units : (units K).length + 1 = card K := by
  have h : (0 :: units K).Perm (CF.elems : List K) := by
    apply perm_of_same
    · rw [List.nodup_cons]; exact ⟨fun h => (mem_units 0).1 h rfl, units_nodup⟩
    · exact CF.nodup
    · intro a
      constructor
      · intro _; exact CF.full a
      · intro _
        by_cases e : a = 0
        · simp [e]
        · exact List.mem_cons_of_mem _ ((mem_units a).2 e)
  have := h.length_eq
  simpa [card] using this
theorem nodup_map_inj {α β : Type} {f : α → β} {l : List α} (hf : ∀ a b, f a = f b → a = b) (h : l.Nodup) : (l.map f).Nodup := by
  unfold List.Nodup at *
  rw [List.pairwise_map]
  exact h.imp fun hne he => hne (hf _ _ he)

/-- Each element other than 0 has the power 1 at the number of such elements. -/
theorem fermat {a : K} (ha : a ≠ 0) : pw a (card K - 1) = 1 := by
  have hc := card_units (K := K)
  have hp : ((units K).map (a * ·)).Perm (units K) := by
    have hn := nodup_map_inj (f := fun b : K => a * b) (fun b c h => mul_left_cancel ha h) (units_nodup (K := K))
    have hsub : (units K).map (a * ·) ⊆ units K := by
      intro b hb
      rw [List.mem_map] at hb
      obtain ⟨c, hc, rfl⟩ := hb
      exact (mem_units _).2 (mul_ne ha ((mem_units c).1 hc))
    refine perm_of_same hn units_nodup fun b => ⟨fun h => hsub h, fun h => ?_⟩
    exact mem_of_length hn hsub (by simp) b h
  have h1 := prod_perm hp
  rw [prod_map] at h1
  have h2 : (units K).length = card K - 1 := by omega
  rw [h2] at h1
  have hne : prod (units K) ≠ 0 := prod_ne fun b hb => (mem_units b).1 hb
  apply mul_right_cancel hne
  rw [h1, one_mul]
end
end Go.Proofs.Ytlhaclammaaabaa.Alg

/-! Polynomials over a finite field, as functions from indexes to coefficients. -/
namespace Go.Proofs.Ytlhaclammaaabaa.Alg
section
variable {K : Type} [CF K]

/-- A polynomial: the coefficient at each index. -/
abbrev Ser (K : Type) := Nat → K
def tl (f : Ser K) : Ser K := fun i => f (i + 1)
def sadd (f g : Ser K) : Ser K := fun i => f i + g i
def ssub (f g : Ser K) : Ser K := fun i => f i - g i
def smul (c : K) (f : Ser K) : Ser K := fun i => c * f i
def cst (c : K) : Ser K := fun i => if i = 0 then c else 0
/-- x times a polynomial. -/
def sh (f : Ser K) : Ser K
  | 0 => 0
  | i + 1 => f i
/-- The product. -/
def pmul (f g : Ser K) : Ser K
  | 0 => f 0 * g 0
  | n + 1 => f 0 * g (n + 1) + pmul (tl f) g n
/-- The polynomial has at most n coefficients. -/
def Bd (f : Ser K) (n : Nat) : Prop := ∀ i, n ≤ i → f i = 0

theorem tl_sadd (f g : Ser K) : tl (sadd f g) = sadd (tl f) (tl g) := rfl
theorem tl_smul (c : K) (f : Ser K) : tl (smul c f) = smul c (tl f) := rfl
theorem split (f : Ser K) : f = sadd (cst (f 0)) (sh (tl f)) := by
  funext i
  cases i with
  | zero => simp [sadd, cst, sh, add_zero]
  | succ i => simp [sadd, cst, sh, tl, zero_add]

theorem pmul_sadd_left (f f' g : Ser K) : pmul (sadd f f') g = sadd (pmul f g) (pmul f' g) := by
  funext n
  induction n generalizing f f' with
  | zero => exact add_mul _ _ _
  | succ n ih =>
    show (f 0 + f' 0) * _ + pmul (tl (sadd f f')) g n = (f 0 * _ + _) + (f' 0 * _ + _)
    rw [tl_sadd, ih, add_mul]
    show _ + (pmul (tl f) g n + pmul (tl f') g n) = _
    rw [add_assoc, add_assoc, add_left_comm (f' 0 * _)]
theorem pmul_sadd_right (f g g' : Ser K) : pmul f (sadd g g') = sadd (pmul f g) (pmul f g') := by
  funext n
  induction n generalizing f with
  | zero => exact mul_add _ _ _
  | succ n ih =>
    show f 0 * (g (n+1) + g' (n+1)) + pmul (tl f) (sadd g g') n = (f 0 * _ + _) + (f 0 * _ + _)
    rw [ih, mul_add]
    show _ + (pmul (tl f) g n + pmul (tl f) g' n) = _
    rw [add_assoc, add_assoc, add_left_comm (f 0 * g' _)]
theorem pmul_smul_left (c : K) (f g : Ser K) : pmul (smul c f) g = smul c (pmul f g) := by
  funext n
  induction n generalizing f with
  | zero => exact mul_assoc _ _ _
  | succ n ih =>
    show c * f 0 * _ + pmul (tl (smul c f)) g n = c * (f 0 * _ + _)
    rw [tl_smul, ih, mul_assoc, mul_add]
    rfl
theorem pmul_smul_right (c : K) (f g : Ser K) : pmul f (smul c g) = smul c (pmul f g) := by
  funext n
  induction n generalizing f with
  | zero => exact mul_left_comm _ _ _
  | succ n ih =>
    show f 0 * (c * g (n+1)) + pmul (tl f) (smul c g) n = c * (f 0 * _ + _)
    rw [ih, mul_left_comm, mul_add]
    rfl
theorem pmul_zero_left (g : Ser K) : pmul (fun _ => 0) g = fun _ => 0 := by
  funext n
  induction n with
  | zero => exact zero_mul _
  | succ n ih =>
    show (0 : K) * _ + pmul (fun _ => 0) g n = 0
    rw [ih, zero_mul, zero_add]
theorem pmul_cst_left (c : K) (g : Ser K) : pmul (cst c) g = smul c g := by
  funext n
  cases n with
  | zero => show cst c 0 * _ = c * _; simp [cst]
  | succ n =>
    show cst c 0 * _ + pmul (tl (cst c)) g n = c * _
    have : tl (cst c) = fun _ => 0 := by funext i; simp [tl, cst]
    rw [this, pmul_zero_left]
    simp [cst, add_zero]
theorem pmul_sh_left (f g : Ser K) : pmul (sh f) g = sh (pmul f g) := by
  funext n
  cases n with
  | zero => exact zero_mul _
  | succ n =>
    show (0 : K) * _ + pmul (tl (sh f)) g n = pmul f g n
    rw [zero_mul, zero_add]; rfl
theorem pmul_succ' (f g : Ser K) (n : Nat) : pmul f g (n + 1) = pmul f (tl g) n + f (n + 1) * g 0 := by
  induction n generalizing f with
  | zero => rfl
  | succ n ih =>
    show f 0 * g (n + 1 + 1) + pmul (tl f) g (n + 1) = (f 0 * g (n + 1 + 1) + pmul (tl f) (tl g) n) + f (n + 1 + 1) * g 0
    rw [ih, add_assoc]; rfl
theorem pmul_comm (f g : Ser K) : pmul f g = pmul g f := by
  funext n
  induction n generalizing f g with
  | zero => exact mul_comm _ _
  | succ n ih =>
    rw [pmul_succ']
    show _ = g 0 * f (n + 1) + pmul (tl g) f n
    rw [ih, add_comm, mul_comm]
theorem pmul_sh_right (f g : Ser K) : pmul f (sh g) = sh (pmul f g) := by
  rw [pmul_comm, pmul_sh_left, pmul_comm]
theorem smul_sadd (c : K) (f g : Ser K) : smul c (sadd f g) = sadd (smul c f) (smul c g) := by
  funext i; exact mul_add _ _ _
theorem sadd_comm (f g : Ser K) : sadd f g = sadd g f := by funext i; exact add_comm _ _
theorem sadd_assoc (f g h : Ser K) : sadd (sadd f g) h = sadd f (sadd g h) := by funext i; exact add_assoc _ _ _
theorem pmul_assoc (f g h : Ser K) : pmul (pmul f g) h = pmul f (pmul g h) := by
  funext n
  induction n generalizing f with
  | zero =>
    show f 0 * g 0 * h 0 = f 0 * (g 0 * h 0)
    exact mul_assoc _ _ _
  | succ n ih =>
    have e : pmul f g = sadd (smul (f 0) g) (sh (pmul (tl f) g)) := by
      conv => lhs; rw [split f]
      rw [pmul_sadd_left, pmul_cst_left, pmul_sh_left]
    rw [e, pmul_sadd_left, pmul_smul_left, pmul_sh_left]
    show f 0 * pmul g h (n + 1) + pmul (pmul (tl f) g) h n = f 0 * pmul g h (n + 1) + pmul (tl f) (pmul g h) n
    rw [ih]
theorem pmul_ssub_left (f f' g : Ser K) : pmul (ssub f f') g = ssub (pmul f g) (pmul f' g) := by
  have e : sadd (ssub f f') f' = f := by funext i; exact sub_add_cancel _ _
  have h := pmul_sadd_left (ssub f f') f' g
  rw [e] at h
  funext i
  show _ = _ - _
  rw [h]; exact (add_sub_cancel _ _).symm
theorem pmul_ssub_right (f g g' : Ser K) : pmul f (ssub g g') = ssub (pmul f g) (pmul f g') := by
  rw [pmul_comm, pmul_ssub_left, pmul_comm, pmul_comm g']

/-! Bounds. -/
theorem Bd.mono {f : Ser K} {m n : Nat} (h : Bd f m) (hm : m ≤ n) : Bd f n := fun i hi => h i (by omega)
theorem Bd.sadd {f g : Ser K} {n : Nat} (hf : Bd f n) (hg : Bd g n) : Bd (sadd f g) n := fun i hi => by
  show f i + g i = 0
  rw [hf i hi, hg i hi, add_zero]
theorem Bd.ssub {f g : Ser K} {n : Nat} (hf : Bd f n) (hg : Bd g n) : Bd (ssub f g) n := fun i hi => by
  show f i - g i = 0
  rw [hf i hi, hg i hi, sub_zero]
theorem Bd.smul {f : Ser K} {n : Nat} (hf : Bd f n) (c : K) : Bd (smul c f) n := fun i hi => by
  show c * f i = 0
  rw [hf i hi, mul_zero]
theorem Bd.tl {f : Ser K} {n : Nat} (hf : Bd f (n + 1)) : Bd (tl f) n := fun i hi => hf (i + 1) (by omega)
theorem Bd.tl' {f : Ser K} {n : Nat} (hf : Bd f n) : Bd (Alg.tl f) n := fun i hi => hf (i + 1) (by omega)
theorem bd_cst (c : K) : Bd (cst c) 1 := fun i hi => by
  show (if i = 0 then c else 0) = 0
  rw [if_neg (by omega)]
theorem bd_zero (n : Nat) : Bd (fun _ => (0 : K)) n := fun _ _ => rfl
theorem Bd.sh {f : Ser K} {n : Nat} (hf : Bd f n) : Bd (sh f) (n + 1) := fun i hi => by
  obtain ⟨j, rfl⟩ : ∃ j, i = j + 1 := ⟨i - 1, by omega⟩
  exact hf j (by omega)
theorem zero_of_bd {f : Ser K} (h : Bd f 0) : f = fun _ => 0 := by funext i; exact h i (by omega)
/-- The leading coefficient of a product, and its bound. -/
theorem pmul_top {f g : Ser K} {m n : Nat} (hf : Bd f (m + 1)) (hg : Bd g (n + 1)) : Bd (pmul f g) (m + n + 1) ∧ pmul f g (m + n) = f m * g n := by
  induction m generalizing f with
  | zero =>
    have e : f = cst (f 0) := by
      funext i
      cases i with
      | zero => simp [cst]
      | succ i => simp [cst]; exact hf _ (by omega)
    rw [e, pmul_cst_left, Nat.zero_add]
    refine ⟨hg.smul _, ?_⟩
    simp [smul, cst]
  | succ m ih =>
    obtain ⟨h1, h2⟩ := ih hf.tl
    constructor
    · intro i hi
      obtain ⟨j, rfl⟩ : ∃ j, i = j + 1 := ⟨i - 1, by omega⟩
      show f 0 * g (j + 1) + pmul (tl f) g j = 0
      rw [hg _ (by omega), h1 j (by omega), mul_zero, add_zero]
    · rw [show m + 1 + n = (m + n) + 1 from by omega]
      show f 0 * g (m + n + 1) + pmul (tl f) g (m + n) = f (m + 1) * g n
      rw [h2, hg _ (by omega), mul_zero, zero_add]; rfl
theorem Bd.pmul {f g : Ser K} {m n : Nat} (hf : Bd f m) (hg : Bd g n) : Bd (pmul f g) (m + n - 1) := by
  cases m with
  | zero => rw [zero_of_bd hf, pmul_zero_left]; exact bd_zero _
  | succ m =>
    cases n with
    | zero => rw [zero_of_bd hg, pmul_comm, pmul_zero_left]; exact bd_zero _
    | succ n => exact (pmul_top hf hg).1.mono (by omega)
/-- A polynomial that is not zero has a leading coefficient. -/
theorem exists_top {f : Ser K} {n : Nat} (h : Bd f n) (hne : f ≠ fun _ => 0) : ∃ m, m < n ∧ Bd f (m + 1) ∧ f m ≠ 0 := by
  induction n with
  | zero => exact absurd (zero_of_bd h) hne
  | succ n ih =>
    by_cases e : f n = 0
    · obtain ⟨m, h1, h2⟩ := ih (fun i hi => by
        by_cases g : i = n
        · rw [g]; exact e
        · exact h i (by omega))
      exact ⟨m, by omega, h2⟩
    · exact ⟨n, by omega, h, e⟩
theorem pmul_ne {f g : Ser K} {m n : Nat} (hf : Bd f m) (hg : Bd g n) (h1 : f ≠ fun _ => 0) (h2 : g ≠ fun _ => 0) : pmul f g ≠ fun _ => 0 := by
  obtain ⟨a, _, ha, ha'⟩ := exists_top hf h1
  obtain ⟨b, _, hb, hb'⟩ := exists_top hg h2
  intro h
  have := (pmul_top ha hb).2
  rw [h] at this
  exact mul_ne ha' hb' this.symm

/-! Values. -/
/-- The value of the first n coefficients at x. -/
def ev : Nat → Ser K → K → K
  | 0, _, _ => 0
  | n + 1, f, x => f 0 + x * ev n (tl f) x
theorem ev_zero (n : Nat) (x : K) : ev n (fun _ => (0 : K)) x = 0 := by
  induction n with
  | zero => rfl
  | succ n ih =>
    show (0 : K) + x * ev n (fun _ => 0) x = 0
    rw [ih, mul_zero, zero_add]
theorem ev_bd {f : Ser K} {n m : Nat} (h : Bd f n) (hm : n ≤ m) (x : K) : ev m f x = ev n f x := by
  induction n generalizing f m with
  | zero => rw [zero_of_bd h, ev_zero]; rfl
  | succ n ih =>
    obtain ⟨k, rfl⟩ : ∃ k, m = k + 1 := ⟨m - 1, by omega⟩
    show f 0 + x * ev k (tl f) x = f 0 + x * ev n (tl f) x
    rw [ih h.tl (by omega)]
theorem ev_sadd (n : Nat) (f g : Ser K) (x : K) : ev n (sadd f g) x = ev n f x + ev n g x := by
  induction n generalizing f g with
  | zero => exact (add_zero _).symm
  | succ n ih =>
    show (f 0 + g 0) + x * ev n (tl (sadd f g)) x = (f 0 + _) + (g 0 + _)
    rw [tl_sadd, ih, mul_add, add_assoc, add_assoc, add_left_comm (g 0)]
theorem ev_smul (n : Nat) (c : K) (f : Ser K) (x : K) : ev n (smul c f) x = c * ev n f x := by
  induction n generalizing f with
  | zero => exact (mul_zero _).symm
  | succ n ih =>
    show c * f 0 + x * ev n (tl (smul c f)) x = c * (f 0 + _)
    rw [tl_smul, ih, mul_add, mul_left_comm]
theorem ev_sh (n : Nat) (f : Ser K) (x : K) : ev (n + 1) (sh f) x = x * ev n f x := by
  show (0 : K) + x * ev n (tl (sh f)) x = _
  rw [zero_add]; rfl
theorem ev_cst {n : Nat} (h : 1 ≤ n) (c x : K) : ev n (cst c) x = c := by
  rw [ev_bd (bd_cst c) h]
  show cst c 0 + x * 0 = c
  rw [mul_zero, add_zero]; rfl
theorem ev_pmul {f g : Ser K} {m n k : Nat} (hf : Bd f m) (hg : Bd g n) (hk : m + n ≤ k + 1) (x : K) : ev k (pmul f g) x = ev m f x * ev n g x := by
  induction m generalizing f k with
  | zero => rw [zero_of_bd hf, pmul_zero_left, ev_zero]; exact (zero_mul _).symm
  | succ m ih =>
    have e : pmul f g = sadd (smul (f 0) g) (sh (pmul (tl f) g)) := by
      conv => lhs; rw [split f]
      rw [pmul_sadd_left, pmul_cst_left, pmul_sh_left]
    have hn : n ≤ k := by omega
    rw [e, ev_sadd, ev_smul, ev_bd hg hn]
    show _ = (f 0 + x * ev m (tl f) x) * ev n g x
    rw [add_mul, mul_assoc]
    congr 1
    cases k with
    | zero =>
      have : n = 0 := by omega
      subst this
      show (0 : K) = x * (_ * 0)
      rw [mul_zero, mul_zero]
    | succ k => rw [ev_sh, ih hf.tl (by omega)]
theorem ev_ssub (n : Nat) (f g : Ser K) (x : K) : ev n (ssub f g) x = ev n f x - ev n g x := by
  have e : sadd (ssub f g) g = f := by funext i; exact sub_add_cancel _ _
  have h := ev_sadd n (ssub f g) g x
  rw [e] at h
  rw [h, add_sub_cancel]
/-- The value as a sum of powers, the last one first. -/
theorem ev_succ_last (n : Nat) (f : Ser K) (x : K) : ev (n + 1) f x = ev n f x + f n * pw x n := by
  induction n generalizing f with
  | zero =>
    show f 0 + x * 0 = 0 + f 0 * 1
    rw [mul_zero, add_zero, zero_add, mul_one]
  | succ n ih =>
    show f 0 + x * ev (n + 1) (tl f) x = (f 0 + x * ev n (tl f) x) + f (n + 1) * (pw x n * x)
    rw [ih, mul_add, add_assoc]
    congr 2
    show x * (f (n + 1) * pw x n) = _
    rw [mul_left_comm, mul_comm x]

/-! Roots. -/
/-- x - r -/
def lin (r : K) : Ser K := fun i => if i = 0 then -r else if i = 1 then 1 else 0
theorem bd_lin (r : K) : Bd (lin r) 2 := fun i hi => by
  show (if i = 0 then -r else if i = 1 then 1 else 0) = 0
  rw [if_neg (by omega), if_neg (by omega)]
theorem ev_lin {n : Nat} (h : 2 ≤ n) (r x : K) : ev n (lin r) x = x - r := by
  rw [ev_bd (bd_lin r) h]
  show -r + x * (1 + x * 0) = x - r
  rw [mul_zero, add_zero, mul_one, add_comm]; rfl
/-- The quotient of a polynomial with n + 1 coefficients by x - r. -/
def syn (n : Nat) (f : Ser K) (r : K) : Ser K := fun i => ev (n - i) (fun j => f (i + 1 + j)) r
theorem bd_syn (n : Nat) (f : Ser K) (r : K) : Bd (syn n f r) n := fun i hi => by
  show ev (n - i) _ r = 0
  rw [show n - i = 0 from by omega]; rfl
theorem syn_step {n : Nat} {f : Ser K} (h : Bd f (n + 1)) (r : K) (i : Nat) : syn n f r i = f (i + 1) + r * syn n f r (i + 1) := by
  by_cases hi : i < n
  · show ev (n - i) _ r = _ + r * ev (n - (i + 1)) _ r
    rw [show n - i = n - (i + 1) + 1 from by omega]
    show f (i + 1 + 0) + r * ev (n - (i + 1)) (fun j => f (i + 1 + (j + 1))) r = _
    congr 3
    funext j
    congr 1
    omega
  · rw [bd_syn n f r i (by omega), bd_syn n f r (i + 1) (by omega), h (i + 1) (by omega), mul_zero, add_zero]
theorem syn_pmul {n : Nat} {f : Ser K} (h : Bd f (n + 1)) (r : K) : f = sadd (cst (ev (n + 1) f r)) (pmul (lin r) (syn n f r)) := by
  have e : lin r = sadd (cst (-r)) (sh (cst 1)) := by
    funext i
    match i with
    | 0 => simp [lin, sadd, cst, sh, add_zero]
    | 1 => simp [lin, sadd, cst, sh, zero_add]
    | i + 2 => simp [lin, sadd, cst, sh, add_zero]
  rw [e, pmul_sadd_left, pmul_cst_left, pmul_sh_left, pmul_cst_left]
  funext i
  cases i with
  | zero =>
    show f 0 = (f 0 + r * ev n (tl f) r) + (-r * ev (n - 0) (fun j => f (0 + 1 + j)) r + 0)
    have : (fun j => f (0 + 1 + j)) = tl f := by funext j; show _ = f (j + 1); congr 1; omega
    rw [this, Nat.sub_zero, add_zero, neg_mul, add_assoc, add_neg, add_zero]
  | succ i =>
    show f (i + 1) = 0 + (-r * syn n f r (i + 1) + 1 * syn n f r i)
    rw [syn_step h r i, one_mul, zero_add, neg_mul, add_left_comm, neg_add, add_zero]
/-- A polynomial that is zero at at least as many points as it has coefficients is zero. -/
theorem zero_of_roots {n : Nat} {f : Ser K} (h : Bd f n) (l : List K) (hn : l.Nodup) (hl : n ≤ l.length) (hr : ∀ x ∈ l, ev n f x = 0) : f = fun _ => 0 := by
  induction n generalizing f l with
  | zero => exact zero_of_bd h
  | succ n ih =>
    cases l with
    | nil => simp at hl
    | cons r l =>
      rw [List.nodup_cons] at hn
      have e := syn_pmul h r
      rw [hr r (by simp)] at e
      have hz : syn n f r = fun _ => 0 := by
        apply ih (bd_syn n f r) l hn.2 (by simp at hl; omega)
        intro y hy
        have h1 : ev (n + 1) (sadd (cst 0) (pmul (lin r) (syn n f r))) y = 0 := by
          rw [← e]; exact hr y (by simp [hy])
        rw [ev_sadd, ev_cst (by omega), zero_add, ev_pmul (bd_lin r) (bd_syn n f r) (by omega), ev_lin (by omega)] at h1
        refine (CF.zero_div _ _ h1).resolve_left fun h2 => hn.1 ?_
        rw [← eq_of_sub h2]; exact hy
      rw [e, hz, pmul_comm, pmul_zero_left]
      funext i
      show cst 0 i + 0 = 0
      rw [add_zero]; simp [cst]
/-- Two polynomials with the same values at as many points as they have coefficients are equal. -/
theorem eq_of_values {n : Nat} {f g : Ser K} (hf : Bd f n) (hg : Bd g n) (l : List K) (hn : l.Nodup) (hl : n ≤ l.length) (hr : ∀ x ∈ l, ev n f x = ev n g x) : f = g := by
  have h := zero_of_roots (hf.ssub hg) l hn hl (fun x hx => by rw [ev_ssub, hr x hx, sub_self])
  funext i
  have : f i - g i = 0 := congrFun h i
  exact eq_of_sub this

/-! Derivatives. -/
/-- a added up n times. -/
def ns : Nat → K → K
  | 0, _ => 0
  | n + 1, a => ns n a + a
theorem ns_zero (n : Nat) : ns n (0 : K) = 0 := by
  induction n with
  | zero => rfl
  | succ n ih => show ns n 0 + 0 = (0 : K); rw [ih, add_zero]
theorem ns_add (n : Nat) (a b : K) : ns n (a + b) = ns n a + ns n b := by
  induction n with
  | zero => exact (add_zero _).symm
  | succ n ih =>
    show ns n (a + b) + (a + b) = (ns n a + a) + (ns n b + b)
    rw [ih, add_assoc, add_assoc, add_left_comm (ns n b)]
theorem ns_mul (n : Nat) (c a : K) : ns n (c * a) = c * ns n a := by
  induction n with
  | zero => exact (mul_zero _).symm
  | succ n ih =>
    show ns n (c * a) + c * a = c * (ns n a + a)
    rw [ih, mul_add]
/-- The derivative. -/
def der (f : Ser K) : Ser K := fun i => ns (i + 1) (f (i + 1))
theorem Bd.der {f : Ser K} {n : Nat} (h : Bd f n) : Bd (der f) (n - 1) := fun i hi => by
  show ns (i + 1) (f (i + 1)) = 0
  rw [h (i + 1) (by omega), ns_zero]
theorem der_sadd (f g : Ser K) : der (sadd f g) = sadd (der f) (der g) := by
  funext i; exact ns_add _ _ _
theorem der_smul (c : K) (f : Ser K) : der (smul c f) = smul c (der f) := by
  funext i; exact ns_mul _ _ _
theorem der_sh (f : Ser K) : der (sh f) = sadd f (sh (der f)) := by
  funext i
  show ns (i + 1) (f i) = f i + sh (der f) i
  cases i with
  | zero => show (0 : K) + f 0 = f 0 + 0; rw [zero_add, add_zero]
  | succ i => show ns (i + 1) (f (i + 1)) + f (i + 1) = f (i + 1) + ns (i + 1) (f (i + 1)); exact add_comm _ _
theorem sh_sadd (f g : Ser K) : sh (sadd f g) = sadd (sh f) (sh g) := by
  funext i
  cases i with
  | zero => exact (add_zero _).symm
  | succ i => rfl
theorem pmul_split (f g : Ser K) : pmul f g = sadd (smul (f 0) g) (sh (pmul (tl f) g)) := by
  conv => lhs; rw [split f]
  rw [pmul_sadd_left, pmul_cst_left, pmul_sh_left]
theorem der_split (f : Ser K) : der f = sadd (tl f) (sh (der (tl f))) := by
  conv => lhs; rw [split f, der_sadd, der_sh]
  funext i
  show ns (i + 1) (cst (f 0) (i + 1)) + _ = _
  rw [show cst (f 0) (i + 1) = 0 from by simp [cst], ns_zero, zero_add]
theorem der_pmul (f g : Ser K) : der (pmul f g) = sadd (pmul (der f) g) (pmul f (der g)) := by
  funext n
  induction n generalizing f with
  | zero =>
    show ns 1 (pmul f g 1) = ns 1 (f 1) * g 0 + f 0 * ns 1 (g 1)
    show (0 : K) + (f 0 * g 1 + f 1 * g 0) = (0 + f 1) * g 0 + f 0 * (0 + g 1)
    rw [zero_add, zero_add, zero_add, add_comm]
  | succ n ih =>
    rw [pmul_split f g, der_sadd, der_smul, der_sh, pmul_split f (der g), der_split f, pmul_sadd_left, pmul_sh_left]
    show f 0 * der g (n + 1) + (pmul (tl f) g (n + 1) + der (pmul (tl f) g) n) = (pmul (tl f) g (n + 1) + pmul (der (tl f)) g n) + (f 0 * der g (n + 1) + pmul (tl f) (der g) n)
    rw [ih (tl f)]
    show _ + (_ + (pmul (der (tl f)) g n + pmul (tl f) (der g) n)) = _
    rw [add_left_comm (f 0 * _), add_left_comm (f 0 * _), add_assoc]
end
end Go.Proofs.Ytlhaclammaaabaa.Alg

/-! The group of a finite field is cyclic. -/
namespace Go.Proofs.Ytlhaclammaaabaa.Alg

/-- A number without divisors but 1 and itself. -/
def Pr (p : Nat) : Prop := 2 ≤ p ∧ ∀ d, d ∣ p → d = 1 ∨ d = p
theorem Pr.coprime {p m : Nat} (hp : Pr p) (h : ¬ p ∣ m) : Nat.Coprime p m := by
  rcases hp.2 _ (Nat.gcd_dvd_left p m) with e | e
  · exact e
  · exact absurd (e ▸ Nat.gcd_dvd_right p m) h
theorem exists_pr (n : Nat) : 2 ≤ n → ∃ p, Pr p ∧ p ∣ n := by
  induction n using Nat.strongRecOn with
  | _ n ih =>
    intro hn
    by_cases h : ∃ d, d ∣ n ∧ d ≠ 1 ∧ d ≠ n
    · obtain ⟨d, h1, h2, h3⟩ := h
      have hd : d ≤ n := Nat.le_of_dvd (by omega) h1
      have h0 : d ≠ 0 := by rintro rfl; have := Nat.zero_dvd.1 h1; omega
      obtain ⟨p, hp, hpd⟩ := ih d (by omega) (by omega)
      exact ⟨p, hp, Nat.dvd_trans hpd h1⟩
    · refine ⟨n, ⟨hn, fun d hd => ?_⟩, Nat.dvd_refl n⟩
      by_cases h1 : d = 1
      · exact .inl h1
      · by_cases h2 : d = n
        · exact .inr h2
        · exact absurd ⟨d, hd, h1, h2⟩ h
/-- The part of a number that a prime does not divide. -/
theorem factor_out {p : Nat} (hp : Pr p) (m : Nat) : 0 < m → ∃ f m', m = p ^ f * m' ∧ ¬ p ∣ m' := by
  induction m using Nat.strongRecOn with
  | _ m ih =>
    intro hm
    by_cases h : p ∣ m
    · obtain ⟨k, rfl⟩ := h
      have hk : 0 < k := by
        rcases Nat.eq_zero_or_pos k with e | e
        · subst e; simp at hm
        · exact e
      have hlt : k < p * k := by
        have := hp.1
        calc k < 2 * k := by omega
          _ ≤ p * k := Nat.mul_le_mul_right k this
      obtain ⟨f, m', e, h'⟩ := ih k hlt hk
      exact ⟨f + 1, m', by rw [e, Nat.pow_succ]; rw [Nat.mul_comm (p ^ f) p, Nat.mul_assoc], h'⟩
    · exact ⟨0, m, by simp, h⟩
theorem not_dvd_parts (m : Nat) (hm : 0 < m) (n : Nat) : 0 < n → ¬ n ∣ m → ∃ p e f n' m', Pr p ∧ n = p ^ e * n' ∧ m = p ^ f * m' ∧ ¬ p ∣ m' ∧ f < e := by
  induction n using Nat.strongRecOn with
  | _ n ih =>
    intro hn h
    have h2 : 2 ≤ n := by
      rcases Nat.lt_or_ge n 2 with g | g
      · have : n = 1 := by omega
        subst this; exact absurd (Nat.one_dvd m) h
      · exact g
    obtain ⟨p, hp, hpn⟩ := exists_pr n h2
    obtain ⟨e, n', en, hn'⟩ := factor_out hp n hn
    obtain ⟨f, m', em, hm'⟩ := factor_out hp m hm
    by_cases hf : f < e
    · exact ⟨p, e, f, n', m', hp, en, em, hm', hf⟩
    · have he : 0 < e := by
        rcases Nat.eq_zero_or_pos e with g | g
        · subst g; rw [Nat.pow_zero, Nat.one_mul] at en; rw [en] at hpn; exact absurd hpn hn'
        · exact g
      have hpe : p ^ e ∣ m := by
        rw [em]; exact Nat.dvd_mul_right_of_dvd (Nat.pow_dvd_pow p (by omega)) _
      have hn0 : 0 < n' := by
        rcases Nat.eq_zero_or_pos n' with g | g
        · subst g; simp at en; omega
        · exact g
      have hnd : ¬ n' ∣ m := fun g => h (by
        rw [en]
        exact Nat.Coprime.mul_dvd_of_dvd_of_dvd (Nat.Coprime.pow_left e (hp.coprime hn')) hpe g)
      have hlt : n' < n := by
        have h1 : 2 ≤ p ^ e := Nat.le_trans hp.1 (by
          calc p = p ^ 1 := (Nat.pow_one p).symm
            _ ≤ p ^ e := Nat.pow_le_pow_right (by have := hp.1; omega) he)
        rw [en]
        calc n' < 2 * n' := by omega
          _ ≤ p ^ e * n' := Nat.mul_le_mul_right n' h1
      obtain ⟨p2, e2, f2, n2, m2, h1, h2, h3, h4, h5⟩ := ih n' hlt hn0 hnd
      exact ⟨p2, e2, f2, p ^ e * n2, m2, h1, by rw [en, h2, Nat.mul_left_comm], h3, h4, h5⟩

section
variable {K : Type} [CF K]

/-- n is the order of a. -/
def Ord (a : K) (n : Nat) : Prop := 0 < n ∧ pw a n = 1 ∧ ∀ k, 0 < k → pw a k = 1 → n ≤ k
theorem ord_ne {a : K} {n : Nat} (h : Ord a n) : a ≠ 0 := by
  rintro rfl
  have := h.2.1
  rw [zero_pw h.1] at this
  exact one_ne this.symm
theorem ord_unique {a : K} {m n : Nat} (h : Ord a m) (h' : Ord a n) : m = n :=
  Nat.le_antisymm (h.2.2 n h'.1 h'.2.1) (h'.2.2 m h.1 h.2.1)
theorem card_pos : 2 ≤ card K := by
  have h := card_units (K := K)
  have : (1 : K) ∈ units K := (mem_units 1).2 one_ne
  have := List.length_pos_of_mem this
  omega
theorem exists_ord {a : K} (ha : a ≠ 0) : ∃ n, Ord a n := by
  have key : ∀ m, 0 < m → pw a m = 1 → ∃ n, Ord a n := by
    intro m
    induction m using Nat.strongRecOn with
    | _ m ih =>
      intro h0 h1
      by_cases h : ∃ k, 0 < k ∧ k < m ∧ pw a k = 1
      · obtain ⟨k, h2, h3, h4⟩ := h
        exact ih k h3 h2 h4
      · refine ⟨m, h0, h1, fun k hk he => ?_⟩
        rcases Nat.lt_or_ge k m with g | g
        · exact absurd ⟨k, hk, g, he⟩ h
        · exact g
  have := card_pos (K := K)
  exact key (card K - 1) (by omega) (fermat ha)
theorem pw_mod {a : K} {n : Nat} (h : pw a n = 1) (k : Nat) : pw a k = pw a (k % n) := by
  have := Nat.div_add_mod k n
  conv => lhs; rw [← this]
  rw [pw_add, pw_mul, h, one_pw, one_mul]
theorem ord_dvd {a : K} {n : Nat} (h : Ord a n) {k : Nat} (hk : pw a k = 1) : n ∣ k := by
  rcases Nat.eq_zero_or_pos (k % n) with e | e
  · exact Nat.dvd_of_mod_eq_zero e
  · rw [pw_mod h.2.1] at hk
    have := h.2.2 _ e hk
    have := Nat.mod_lt k h.1
    omega
theorem pw_of_dvd {a : K} {n k : Nat} (h : pw a n = 1) (hd : n ∣ k) : pw a k = 1 := by
  obtain ⟨c, rfl⟩ := hd
  rw [pw_mul, h, one_pw]
theorem ord_of {a : K} {n : Nat} (h0 : 0 < n) (h1 : pw a n = 1) (h : ∀ k, pw a k = 1 → n ∣ k) : Ord a n :=
  ⟨h0, h1, fun k hk he => Nat.le_of_dvd hk (h k he)⟩
theorem ord_le {a : K} {n : Nat} (h : Ord a n) : n ∣ card K - 1 := ord_dvd h (fermat (ord_ne h))
theorem ord_pw {a : K} {m n : Nat} (h : Ord a (m * n)) : Ord (pw a n) m := by
  have h0 := h.1
  have hm : 0 < m := Nat.pos_of_mul_pos_right h0
  have hn : 0 < n := Nat.pos_of_mul_pos_left h0
  refine ord_of hm (by rw [← pw_mul, Nat.mul_comm]; exact h.2.1) fun k hk => ?_
  rw [← pw_mul] at hk
  have := ord_dvd h hk
  rw [Nat.mul_comm] at this
  exact Nat.dvd_of_mul_dvd_mul_left hn this
theorem ord_mul {a b : K} {m n : Nat} (ha : Ord a m) (hb : Ord b n) (h : Nat.Coprime m n) : Ord (a * b) (m * n) := by
  refine ord_of (Nat.mul_pos ha.1 hb.1) ?_ fun k hk => ?_
  · rw [mul_pw, pw_mul, ha.2.1, one_pw, Nat.mul_comm, pw_mul, hb.2.1, one_pw, one_mul]
  · rw [mul_pw] at hk
    refine Nat.Coprime.mul_dvd_of_dvd_of_dvd h ?_ ?_
    · have : pw a (k * n) = 1 := by
        have e : pw (pw a k * pw b k) n = 1 := by rw [hk, one_pw]
        rw [mul_pw, ← pw_mul, ← pw_mul, Nat.mul_comm k n, pw_mul b, hb.2.1, one_pw, mul_one] at e
        rw [Nat.mul_comm]; exact e
      exact Nat.Coprime.dvd_of_dvd_mul_right h (ord_dvd ha this)
    · have : pw b (k * m) = 1 := by
        have e : pw (pw a k * pw b k) m = 1 := by rw [hk, one_pw]
        rw [mul_pw, ← pw_mul, ← pw_mul, Nat.mul_comm k m, pw_mul a, ha.2.1, one_pw, one_mul] at e
        rw [Nat.mul_comm]; exact e
      exact Nat.Coprime.dvd_of_dvd_mul_right h.symm (ord_dvd hb this)
/-- An element of the greatest order. -/
theorem exists_max : ∃ (g : K) (m : Nat), Ord g m ∧ ∀ (a : K) (n : Nat), Ord a n → n ≤ m := by
  have h1 : Ord (1 : K) 1 := ⟨by omega, one_pw 1, fun k hk _ => hk⟩
  have key : ∀ d (g : K) (m : Nat), Ord g m → card K - m ≤ d → ∃ (g : K) (m : Nat), Ord g m ∧ ∀ (a : K) (n : Nat), Ord a n → n ≤ m := by
    intro d
    induction d with
    | zero =>
      intro g m hg hd
      refine ⟨g, m, hg, fun a n ha => ?_⟩
      have := Nat.le_of_dvd (by have := card_pos (K := K); omega) (ord_le ha)
      omega
    | succ d ih =>
      intro g m hg hd
      by_cases h : ∃ (a : K) (n : Nat), Ord a n ∧ m < n
      · obtain ⟨a, n, ha, hn⟩ := h
        exact ih a n ha (by omega)
      · refine ⟨g, m, hg, fun a n ha => ?_⟩
        rcases Nat.lt_or_ge m n with e | e
        · exact absurd ⟨a, n, ha, e⟩ h
        · exact e
  exact key _ 1 1 h1 (Nat.le_refl _)
/-- Each order divides the greatest one. -/
theorem dvd_max {g : K} {m : Nat} (hg : Ord g m) (hmax : ∀ (a : K) (n : Nat), Ord a n → n ≤ m) {a : K} {n : Nat} (ha : Ord a n) : n ∣ m := by
  apply Decidable.byContradiction
  intro h
  obtain ⟨p, e, f, n', m', hp, en, em, hm', hf⟩ := not_dvd_parts m hg.1 n ha.1 h
  have h1 : Ord (pw a n') (p ^ e) := ord_pw (by rw [← en]; exact ha)
  have h2 : Ord (pw g (p ^ f)) m' := ord_pw (by rw [Nat.mul_comm, ← em]; exact hg)
  have h3 := hmax _ _ (ord_mul h1 h2 (Nat.Coprime.pow_left e (hp.coprime hm')))
  have h4 : p ^ f < p ^ e := Nat.pow_lt_pow_right (by have := hp.1; omega) hf
  have h5 : 0 < m' := h2.1
  have h6 : p ^ f * m' < p ^ e * m' := Nat.mul_lt_mul_of_pos_right h4 h5
  omega
/-- There is an element whose order is the number of all elements other than 0. -/
theorem exists_gen : ∃ g : K, Ord g (card K - 1) := by
  obtain ⟨g, m, hg, hmax⟩ := exists_max (K := K)
  have hm := ord_le hg
  have hc := card_pos (K := K)
  have hle := Nat.le_of_dvd (by omega) hm
  have hge : card K - 1 ≤ m := by
    apply Decidable.byContradiction
    intro hlt
    have hu := card_units (K := K)
    have hm0 := hg.1
    -- x^m - 1
    let f : Ser K := fun i => if i = 0 then -1 else if i = m then 1 else 0
    have hb : Bd f (m + 1) := fun i hi => by
      show (if i = 0 then (-1 : K) else if i = m then 1 else 0) = 0
      rw [if_neg (by omega), if_neg (by omega)]
    have hev : ∀ x : K, ev (m + 1) f x = -1 + pw x m := by
      intro x
      have hk : ∀ k, 0 < k → k ≤ m → ev k f x = -1 := by
        intro k
        induction k with
        | zero => intro h; omega
        | succ k ih =>
          intro _ hk
          rw [ev_succ_last]
          by_cases h0 : k = 0
          · subst h0; show (0 : K) + (-1) * 1 = -1; rw [zero_add, mul_one]
          · rw [ih (by omega) (by omega)]
            show -1 + (if k = 0 then (-1 : K) else if k = m then 1 else 0) * _ = -1
            rw [if_neg h0, if_neg (by omega), zero_mul, add_zero]
      rw [ev_succ_last, hk m hm0 (Nat.le_refl _)]
      show -1 + (if m = 0 then (-1 : K) else if m = m then 1 else 0) * _ = _
      rw [if_neg (by omega), if_pos rfl, one_mul]
    have hz := zero_of_roots hb (units K) units_nodup (by omega) (fun x hx => by
      rw [hev]
      obtain ⟨n, hn⟩ := exists_ord ((mem_units x).1 hx)
      rw [pw_of_dvd hn.2.1 (dvd_max hg hmax hn), neg_add])
    have : f m = 0 := congrFun hz m
    have h1 : f m = 1 := by
      show (if m = 0 then (-1 : K) else if m = m then 1 else 0) = 1
      rw [if_neg (by omega), if_pos rfl]
    rw [h1] at this
    exact one_ne this
  exact ⟨g, by rw [show card K - 1 = m from by omega]; exact hg⟩
/-- Each element other than 0 is a power of a generator. -/
theorem exists_log {g : K} (hg : Ord g (card K - 1)) {a : K} (ha : a ≠ 0) : ∃ n, n < card K - 1 ∧ pw g n = a := by
  have hu := card_units (K := K)
  have hinj : ∀ i j, i < card K - 1 → j < card K - 1 → pw g i = pw g j → i = j := by
    have key : ∀ i j, i < j → j < card K - 1 → pw g i = pw g j → False := by
      intro i j hij hj he
      have : pw g (j - i) = 1 := by
        apply mul_left_cancel (pw_ne (ord_ne hg) i)
        rw [← pw_add, mul_one, show i + (j - i) = j from by omega, he]
      have := hg.2.2 _ (by omega) this
      omega
    intro i j hi hj he
    rcases Nat.lt_trichotomy i j with h | h | h
    · exact (key i j h hj he).elim
    · exact h
    · exact (key j i h hi he.symm).elim
  have hn : ((List.range (card K - 1)).map (pw g)).Nodup := by
    unfold List.Nodup
    rw [List.pairwise_map]
    refine List.Pairwise.imp_of_mem ?_ List.nodup_range
    intro i j hi hj hne he
    exact hne (hinj i j (List.mem_range.1 hi) (List.mem_range.1 hj) he)
  have := mem_of_length hn (m := units K) (by
    intro b hb
    obtain ⟨i, _, rfl⟩ := List.mem_map.1 hb
    exact (mem_units _).2 (pw_ne (ord_ne hg) i)) (by simp; omega) a ((mem_units a).2 ha)
  obtain ⟨i, hi, he⟩ := List.mem_map.1 this
  exact ⟨i, List.mem_range.1 hi, he⟩
end
end Go.Proofs.Ytlhaclammaaabaa.Alg

/-! Polynomials over GF(2) as numbers, and the fields that the program knows. -/
namespace Go.Proofs.Ytlhaclammaaabaa.Alg

instance : CF Bool where
  add := Bool.xor
  mul := Bool.and
  neg := id
  zero := false
  one := true
  dec := inferInstance
  add_assoc := by decide
  add_comm := by decide
  zero_add := by decide
  neg_add := by decide
  mul_assoc := by decide
  mul_comm := by decide
  one_mul := by decide
  mul_add := by decide
  one_ne := by decide
  zero_div := by decide
  elems := [false, true]
  nodup := by decide
  full := by decide

/-- The bits of a number. -/
def ser (n : Nat) : Ser Bool := fun i => n.testBit i
theorem ser_inj {a b : Nat} (h : ser a = ser b) : a = b := Nat.eq_of_testBit_eq fun i => congrFun h i
theorem ser_xor (a b : Nat) : ser (a ^^^ b) = sadd (ser a) (ser b) := by
  funext i; exact Nat.testBit_xor a b i
theorem ser_zero : ser 0 = fun _ => (0 : Bool) := by funext i; exact Nat.zero_testBit i
theorem ser_bd {a n : Nat} (h : a < 2 ^ n) : Bd (ser a) n := fun i hi =>
  Nat.testBit_lt_two_pow (Nat.lt_of_lt_of_le h (Nat.pow_le_pow_right (by omega) hi))
theorem lt_of_bd {a n : Nat} (h : Bd (ser a) n) : a < 2 ^ n :=
  Nat.lt_pow_two_of_testBit a fun i hi => h i hi
theorem ser_double (a : Nat) : ser (2 * a) = sh (ser a) := by
  funext i
  cases i with
  | zero => simp [ser, sh, Nat.testBit_zero]; rfl
  | succ i =>
    show (2 * a).testBit (i + 1) = a.testBit i
    rw [Nat.testBit_succ, show 2 * a / 2 = a from by omega]
theorem ser_half (a : Nat) : ser (a / 2) = tl (ser a) := by
  funext i; exact (Nat.testBit_succ a i).symm

/-- The product of polynomials over GF(2). -/
def cm (a b : Nat) : Nat := if h : b = 0 then 0 else (if b % 2 = 1 then a else 0) ^^^ (2 * cm a (b / 2))
termination_by b
decreasing_by omega
theorem cm_zero (a : Nat) : cm a 0 = 0 := by rw [cm]; simp
theorem cm_step (a b : Nat) : cm a b = (if b % 2 = 1 then a else 0) ^^^ (2 * cm a (b / 2)) := by
  by_cases h : b = 0
  · subst h; simp [cm_zero]
  · conv => lhs; rw [cm]
    rw [dif_neg h]
theorem ser_cm (a b : Nat) : ser (cm a b) = pmul (ser a) (ser b) := by
  induction b using Nat.strongRecOn with
  | _ b ih =>
    by_cases h : b = 0
    · subst h
      rw [cm_zero, ser_zero, pmul_comm, pmul_zero_left]
    · rw [cm_step, ser_xor, ser_double, ih (b / 2) (by omega), ser_half, pmul_comm (ser a) (ser b), pmul_split (ser b) (ser a), pmul_comm (ser a) (tl (ser b))]
      congr 1
      funext i
      show (ser (if b % 2 = 1 then a else 0)) i = (b.testBit 0 && a.testBit i)
      rw [Nat.testBit_zero]
      by_cases h2 : b % 2 = 1
      · simp [h2, ser]
      · simp [h2, ser]
theorem cm_comm (a b : Nat) : cm a b = cm b a := ser_inj (by rw [ser_cm, ser_cm, pmul_comm])
theorem cm_assoc (a b c : Nat) : cm (cm a b) c = cm a (cm b c) := ser_inj (by rw [ser_cm, ser_cm, ser_cm, ser_cm, pmul_assoc])
theorem cm_xor (a b c : Nat) : cm a (b ^^^ c) = cm a b ^^^ cm a c := ser_inj (by rw [ser_cm, ser_xor, ser_xor, ser_cm, ser_cm, pmul_sadd_right])
theorem xor_cm (a b c : Nat) : cm (a ^^^ b) c = cm a c ^^^ cm b c := by rw [cm_comm, cm_xor, cm_comm c, cm_comm c]
theorem zero_cm (a : Nat) : cm 0 a = 0 := by rw [cm_comm, cm_zero]
theorem one_cm (a : Nat) : cm 1 a = a := by
  rw [cm_comm, cm_step]; simp [cm_zero]
theorem cm_double (a b : Nat) : cm a (2 * b) = 2 * cm a b := by
  rw [cm_step, show (2 * b) % 2 = 0 from by omega, show 2 * b / 2 = b from by omega]; simp
theorem double_cm (a b : Nat) : cm (2 * a) b = 2 * cm a b := by rw [cm_comm, cm_double, cm_comm]
theorem cm_pow (a j : Nat) : cm a (2 ^ j) = a * 2 ^ j := by
  induction j with
  | zero => rw [Nat.pow_zero, Nat.mul_one, cm_comm, one_cm]
  | succ j ih => rw [Nat.pow_succ, Nat.mul_comm (2 ^ j) 2, cm_double, ih, Nat.mul_left_comm]
theorem cm_lt {a b m n : Nat} (ha : a < 2 ^ m) (hb : b < 2 ^ n) : cm a b < 2 ^ (m + n - 1) :=
  lt_of_bd (by rw [ser_cm]; exact (ser_bd ha).pmul (ser_bd hb))
theorem xor_lt {a b n : Nat} (ha : a < 2 ^ n) (hb : b < 2 ^ n) : a ^^^ b < 2 ^ n := Nat.xor_lt_two_pow ha hb
theorem xor_top {a b m : Nat} (ha : a < 2 ^ (m + 1)) (hb : b < 2 ^ (m + 1)) (h : a.testBit m = b.testBit m) : a ^^^ b < 2 ^ m := by
  apply lt_of_bd
  intro i hi
  show (a ^^^ b).testBit i = false
  rw [Nat.testBit_xor]
  by_cases e : i = m
  · subst e; rw [h, Bool.xor_self]
  · rw [show a.testBit i = false from ser_bd ha i (by omega), show b.testBit i = false from ser_bd hb i (by omega)]; rfl

/-- P is of degree d. -/
def Deg (P d : Nat) : Prop := P < 2 ^ (d + 1) ∧ P.testBit d = true
theorem Deg.le {P d : Nat} (h : Deg P d) : 2 ^ d ≤ P := by
  have := h.2
  exact Nat.ge_two_pow_of_testBit this
theorem deg_of {P d : Nat} (h1 : 2 ^ d ≤ P) (h2 : P < 2 ^ (d + 1)) : Deg P d := by
  refine ⟨h2, ?_⟩
  cases h : P.testBit d with
  | true => rfl
  | false =>
    have : P < 2 ^ d := lt_of_bd fun i hi => by
      by_cases e : i = d
      · subst e; exact h
      · exact ser_bd h2 i (by omega)
    omega
theorem exists_deg {P : Nat} (h : P ≠ 0) : ∃ d, Deg P d := ⟨Nat.log2 P, deg_of (Nat.log2_self_le h) Nat.lt_log2_self⟩
theorem deg_unique {P d e : Nat} (h : Deg P d) (h' : Deg P e) : d = e := by
  rcases Nat.lt_trichotomy d e with g | g | g
  · have := ser_bd h.1 e (by omega)
    exact absurd (h'.2.symm.trans this) (by decide)
  · exact g
  · have := ser_bd h'.1 d (by omega)
    exact absurd (h.2.symm.trans this) (by decide)
theorem deg_cm {a b m n : Nat} (ha : Deg a m) (hb : Deg b n) : Deg (cm a b) (m + n) := by
  have h := pmul_top (ser_bd ha.1) (ser_bd hb.1)
  rw [← ser_cm] at h
  refine ⟨lt_of_bd h.1, ?_⟩
  have h2 : (cm a b).testBit (m + n) = (a.testBit m && b.testBit n) := h.2
  rw [h2, ha.2, hb.2]; rfl
theorem cm_eq_zero {a b : Nat} (h : cm a b = 0) : a = 0 ∨ b = 0 := by
  by_cases ha : a = 0
  · exact .inl ha
  · by_cases hb : b = 0
    · exact .inr hb
    · obtain ⟨m, hm⟩ := exists_deg ha
      obtain ⟨n, hn⟩ := exists_deg hb
      have := (deg_cm hm hn).2
      rw [h] at this
      simp at this

/-- Equal modulo P. -/
def Cong (P x y : Nat) : Prop := ∃ s, x ^^^ y = cm P s
theorem Cong.refl (P x : Nat) : Cong P x x := ⟨0, by rw [Nat.xor_self, cm_zero]⟩
theorem Cong.symm {P x y : Nat} (h : Cong P x y) : Cong P y x := by
  obtain ⟨s, hs⟩ := h; exact ⟨s, by rw [Nat.xor_comm]; exact hs⟩
theorem xor_mid (a b c : Nat) : a ^^^ c = (a ^^^ b) ^^^ (b ^^^ c) := by
  rw [Nat.xor_assoc, ← Nat.xor_assoc b b c, Nat.xor_self, Nat.zero_xor]
theorem Cong.trans {P x y z : Nat} (h : Cong P x y) (k : Cong P y z) : Cong P x z := by
  obtain ⟨s, hs⟩ := h; obtain ⟨t, ht⟩ := k
  exact ⟨s ^^^ t, by rw [cm_xor, ← hs, ← ht]; exact xor_mid x y z⟩
theorem xor_swap (a b c d : Nat) : (a ^^^ b) ^^^ (c ^^^ d) = (a ^^^ c) ^^^ (b ^^^ d) := by
  rw [Nat.xor_assoc, ← Nat.xor_assoc b c d, Nat.xor_comm b c, Nat.xor_assoc c b d, ← Nat.xor_assoc a c]
theorem Cong.xor {P x y x' y' : Nat} (h : Cong P x y) (k : Cong P x' y') : Cong P (x ^^^ x') (y ^^^ y') := by
  obtain ⟨s, hs⟩ := h; obtain ⟨t, ht⟩ := k
  exact ⟨s ^^^ t, by rw [cm_xor, ← hs, ← ht]; exact xor_swap x x' y y'⟩
theorem Cong.mul {P x y : Nat} (c : Nat) (h : Cong P x y) : Cong P (cm c x) (cm c y) := by
  obtain ⟨s, hs⟩ := h
  exact ⟨cm c s, by rw [← cm_xor, hs, ← cm_assoc, cm_comm c P, cm_assoc]⟩
theorem Cong.mul_left {P x y : Nat} (c : Nat) (h : Cong P x y) : Cong P (cm x c) (cm y c) := by
  rw [cm_comm x, cm_comm y]; exact h.mul c
theorem cong_shift (P x j : Nat) : Cong P x (x ^^^ P * 2 ^ j) := ⟨2 ^ j, by rw [← Nat.xor_assoc, Nat.xor_self, Nat.zero_xor, cm_pow]⟩
theorem cong_unique {P d x y : Nat} (hP : Deg P d) (hx : x < 2 ^ d) (hy : y < 2 ^ d) (h : Cong P x y) : x = y := by
  obtain ⟨s, hs⟩ := h
  by_cases h0 : s = 0
  · subst h0
    rw [cm_zero] at hs
    rw [← Nat.xor_zero x, ← hs, ← Nat.xor_assoc, Nat.xor_self, Nat.zero_xor]
  · obtain ⟨n, hn⟩ := exists_deg h0
    have h1 := (deg_cm hP hn).le
    rw [← hs] at h1
    have h2 := xor_lt hx hy
    have h3 : 2 ^ d ≤ 2 ^ (d + n) := Nat.pow_le_pow_right (by omega) (by omega)
    omega
theorem exists_rem {P d : Nat} (hP : Deg P d) (n : Nat) : ∀ x, x < 2 ^ n → ∃ r, r < 2 ^ d ∧ Cong P x r := by
  induction n with
  | zero => intro x hx; exact ⟨x, by have := Nat.two_pow_pos d; simp at hx; omega, .refl _ _⟩
  | succ m ih =>
    intro x hx
    by_cases h : x < 2 ^ m
    · exact ih x h
    · by_cases hm : m < d
      · exact ⟨x, Nat.lt_of_lt_of_le hx (Nat.pow_le_pow_right (by omega) hm), .refl _ _⟩
      · have hd : Deg x m := deg_of (by omega) hx
        have hs : Deg (P * 2 ^ (m - d)) m := by
          rw [← cm_pow]
          have h1 : Deg (2 ^ (m - d)) (m - d) := deg_of (Nat.le_refl _) (Nat.pow_lt_pow_right (by omega) (by omega))
          have := deg_cm hP h1
          rwa [show d + (m - d) = m from by omega] at this
        obtain ⟨r, h1, h2⟩ := ih (x ^^^ P * 2 ^ (m - d)) (xor_top hx hs.1 (by rw [hd.2, hs.2]))
        exact ⟨r, h1, (cong_shift P x _).trans h2⟩
instance (P d : Nat) : Decidable (Deg P d) := inferInstanceAs (Decidable (_ ∧ _))
theorem exists_rem' {P d : Nat} (hP : Deg P d) (x : Nat) : ∃ r, r < 2 ^ d ∧ Cong P x r :=
  exists_rem hP (x + 1) x (Nat.lt_of_lt_of_le (Nat.lt_two_pow_self (n := x)) (Nat.pow_le_pow_right (by omega) (by omega)))
noncomputable def rem (P d x : Nat) : Nat := if h : Deg P d then Classical.choose (exists_rem' h x) else 0
theorem rem_lt {P d : Nat} (h : Deg P d) (x : Nat) : rem P d x < 2 ^ d := by
  unfold rem; rw [dif_pos h]; exact (Classical.choose_spec (exists_rem' h x)).1
theorem rem_cong {P d : Nat} (h : Deg P d) (x : Nat) : Cong P x (rem P d x) := by
  unfold rem; rw [dif_pos h]; exact (Classical.choose_spec (exists_rem' h x)).2
theorem rem_eq {P d x r : Nat} (h : Deg P d) (hr : r < 2 ^ d) (hc : Cong P x r) : rem P d x = r :=
  cong_unique h (rem_lt h x) hr ((rem_cong h x).symm.trans hc)

/-- No polynomial of at most half the degree divides P. -/
def Irr (P d : Nat) : Prop := 1 ≤ d ∧ Deg P d ∧ ∀ q e, Deg q e → 1 ≤ e → 2 * e ≤ d → ∀ s, cm q s ≠ P
theorem irr_no_zero {P d a b : Nat} (h : Irr P d) (ha : a < 2 ^ d) (hb : b < 2 ^ d) (hc : Cong P (cm a b) 0) : a = 0 ∨ b = 0 := by
  by_cases hb0 : b = 0
  · exact .inr hb0
  left
  apply Decidable.byContradiction
  intro ha0
  -- a least one
  have key : ∀ x, x ≠ 0 → x < 2 ^ d → Cong P (cm x b) 0 → False := by
    intro x
    induction x using Nat.strongRecOn with
    | _ x ih =>
      intro hx0 hxd hxc
      obtain ⟨e, he⟩ := exists_deg hx0
      have hed : e < d := by
        apply Decidable.byContradiction
        intro hn
        have := Nat.pow_le_pow_right (n := 2) (by omega) (show d ≤ e by omega)
        have := he.le
        omega
      obtain ⟨s, hs⟩ := rem_cong he P
      -- P ^^^ r = cm x s
      have hr := rem_lt he P
      by_cases hr0 : rem x e P = 0
      · rw [hr0, Nat.xor_zero] at hs
        by_cases e0 : e = 0
        · subst e0
          have hx1 : x = 1 := by
            have h1 := he.1
            have h2 := he.le
            simp at h1 h2
            omega
          subst hx1
          rw [one_cm] at hxc
          exact hb0 (cong_unique h.2.1 hb (Nat.two_pow_pos d) hxc)
        · by_cases hh : 2 * e ≤ d
          · exact h.2.2 x e he (by omega) hh s hs.symm
          · have hs0 : s ≠ 0 := by
              rintro rfl
              rw [cm_zero] at hs
              have := h.2.1.le
              have := Nat.two_pow_pos d
              omega
            obtain ⟨f, hf⟩ := exists_deg hs0
            have hdeg := deg_cm he hf
            rw [← hs] at hdeg
            have hef := deg_unique h.2.1 hdeg
            exact h.2.2 s f hf (by omega) (by omega) x (by rw [cm_comm]; exact hs.symm)
      · refine ih (rem x e P) (Nat.lt_of_lt_of_le hr he.le) hr0 (Nat.lt_trans hr (Nat.pow_lt_pow_right (by omega) hed)) ?_
        -- r = P ^^^ cm x s
        have e1 : rem x e P = P ^^^ cm x s := by
          rw [← hs, ← Nat.xor_assoc, Nat.xor_self, Nat.zero_xor]
        rw [e1, xor_cm]
        have c1 : Cong P (cm P b) 0 := ⟨b, by rw [Nat.xor_zero]⟩
        have c2 : Cong P (cm (cm x s) b) 0 := by
          rw [cm_comm x s, cm_assoc]
          have := hxc.mul s
          rwa [cm_zero] at this
        have := c1.xor c2
        rwa [Nat.xor_zero] at this
  exact key a ha0 ha hc

/-- The numbers below n, as a list of Fin's. -/
def fins (n : Nat) : List (Fin n) := (List.range n).attach.map fun x => ⟨x.1, List.mem_range.1 x.2⟩
theorem fins_map (n : Nat) : (fins n).map (·.1) = List.range n := by
  unfold fins
  rw [List.map_map]
  have : ((fun x : Fin n => x.1) ∘ fun x : { x // x ∈ List.range n } => (⟨x.1, List.mem_range.1 x.2⟩ : Fin n)) = fun x => x.1 := rfl
  rw [this, List.attach_map_subtype_val]
theorem fins_nodup (n : Nat) : (fins n).Nodup := by
  have h : ((fins n).map (·.1)).Nodup := by rw [fins_map]; exact List.nodup_range
  unfold List.Nodup at *
  rw [List.pairwise_map] at h
  exact h.imp fun hne he => hne (by rw [he])
theorem fins_full (n : Nat) (a : Fin n) : a ∈ fins n := by
  have h : a.1 ∈ (fins n).map (·.1) := by rw [fins_map]; exact List.mem_range.2 a.2
  obtain ⟨b, hb, e⟩ := List.mem_map.1 h
  rwa [← Fin.ext e]
theorem fins_length (n : Nat) : (fins n).length = n := by
  have := congrArg List.length (fins_map n)
  simpa using this

/-- The field with 2^d elements. -/
def BF (P d : Nat) (_ : Irr P d) : Type := Fin (2 ^ d)
noncomputable instance (P d : Nat) (h : Irr P d) : CF (BF P d h) where
  add a b := ⟨a.1 ^^^ b.1, xor_lt a.2 b.2⟩
  mul a b := ⟨rem P d (cm a.1 b.1), rem_lt h.2.1 _⟩
  neg a := a
  zero := ⟨0, Nat.two_pow_pos d⟩
  one := ⟨1, Nat.one_lt_two_pow (by have := h.1; omega)⟩
  dec := inferInstanceAs (DecidableEq (Fin (2 ^ d)))
  add_assoc a b c := Fin.ext (Nat.xor_assoc _ _ _)
  add_comm a b := Fin.ext (Nat.xor_comm _ _)
  zero_add a := Fin.ext (Nat.zero_xor _)
  neg_add a := Fin.ext (Nat.xor_self _)
  mul_assoc a b c := Fin.ext (by
    show rem P d (cm (rem P d (cm a.1 b.1)) c.1) = rem P d (cm a.1 (rem P d (cm b.1 c.1)))
    refine rem_eq h.2.1 (rem_lt h.2.1 _) ?_
    refine ((rem_cong h.2.1 (cm a.1 b.1)).symm.mul_left c.1).trans ?_
    rw [cm_assoc]
    exact ((rem_cong h.2.1 (cm b.1 c.1)).mul a.1).trans (rem_cong h.2.1 _))
  mul_comm a b := Fin.ext (by show rem P d (cm a.1 b.1) = rem P d (cm b.1 a.1); rw [cm_comm])
  one_mul a := Fin.ext (by
    show rem P d (cm 1 a.1) = a.1
    rw [one_cm]; exact rem_eq h.2.1 a.2 (.refl _ _))
  mul_add a b c := Fin.ext (by
    show rem P d (cm a.1 (b.1 ^^^ c.1)) = rem P d (cm a.1 b.1) ^^^ rem P d (cm a.1 c.1)
    rw [cm_xor]
    exact rem_eq h.2.1 (xor_lt (rem_lt h.2.1 _) (rem_lt h.2.1 _)) ((rem_cong h.2.1 _).xor (rem_cong h.2.1 _)))
  one_ne e := by
    have : (1 : Nat) = 0 := congrArg Fin.val e
    omega
  zero_div a b e := by
    have e1 : rem P d (cm a.1 b.1) = 0 := congrArg Fin.val e
    have c := rem_cong h.2.1 (cm a.1 b.1)
    rw [e1] at c
    rcases irr_no_zero h a.2 b.2 c with g | g
    · exact .inl (Fin.ext g)
    · exact .inr (Fin.ext g)
  elems := fins (2 ^ d)
  nodup := fins_nodup _
  full := fins_full _

/-- The field with p elements. -/
def PF (p : Nat) (_ : Pr p) : Type := Fin p
theorem pr_dvd {p a b : Nat} (hp : Pr p) (h : p ∣ a * b) : p ∣ a ∨ p ∣ b := by
  by_cases ha : p ∣ a
  · exact .inl ha
  · exact .inr (Nat.Coprime.dvd_of_dvd_mul_left (hp.coprime ha) h)
instance (p : Nat) (h : Pr p) : CF (PF p h) where
  add a b := ⟨(a.1 + b.1) % p, Nat.mod_lt _ (by have := h.1; omega)⟩
  mul a b := ⟨a.1 * b.1 % p, Nat.mod_lt _ (by have := h.1; omega)⟩
  neg a := ⟨(p - a.1) % p, Nat.mod_lt _ (by have := h.1; omega)⟩
  zero := ⟨0, by have := h.1; omega⟩
  one := ⟨1, by have := h.1; omega⟩
  dec := inferInstanceAs (DecidableEq (Fin p))
  add_assoc a b c := Fin.ext (by
    show ((a.1 + b.1) % p + c.1) % p = (a.1 + (b.1 + c.1) % p) % p
    rw [Nat.mod_add_mod, Nat.add_mod_mod, Nat.add_assoc])
  add_comm a b := Fin.ext (by show (a.1 + b.1) % p = (b.1 + a.1) % p; rw [Nat.add_comm])
  zero_add a := Fin.ext (by show (0 + a.1) % p = a.1; rw [Nat.zero_add]; exact Nat.mod_eq_of_lt a.2)
  neg_add a := Fin.ext (by
    show ((p - a.1) % p + a.1) % p = 0
    rw [Nat.mod_add_mod, show p - a.1 + a.1 = p from by have := a.2; omega, Nat.mod_self])
  mul_assoc a b c := Fin.ext (by
    show a.1 * b.1 % p * c.1 % p = a.1 * (b.1 * c.1 % p) % p
    rw [Nat.mod_mul_mod, Nat.mul_mod_mod, Nat.mul_assoc])
  mul_comm a b := Fin.ext (by show a.1 * b.1 % p = b.1 * a.1 % p; rw [Nat.mul_comm])
  one_mul a := Fin.ext (by show 1 * a.1 % p = a.1; rw [Nat.one_mul]; exact Nat.mod_eq_of_lt a.2)
  mul_add a b c := Fin.ext (by
    show a.1 * ((b.1 + c.1) % p) % p = (a.1 * b.1 % p + a.1 * c.1 % p) % p
    rw [Nat.mul_mod_mod, Nat.mul_add, Nat.add_mod])
  one_ne e := by
    have : (1 : Nat) = 0 := congrArg Fin.val e
    omega
  zero_div a b e := by
    have e1 : a.1 * b.1 % p = 0 := congrArg Fin.val e
    rcases pr_dvd h (Nat.dvd_of_mod_eq_zero e1) with g | g
    · exact .inl (Fin.ext (Nat.eq_zero_of_dvd_of_lt g a.2))
    · exact .inr (Fin.ext (Nat.eq_zero_of_dvd_of_lt g b.2))
  elems := fins p
  nodup := fins_nodup _
  full := fins_full _
end Go.Proofs.Ytlhaclammaaabaa.Alg
