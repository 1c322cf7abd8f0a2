/-! Commutative rings without zero divisors, with finitely many elements: powers, sums, Fermat. -/
namespace Go.Proofs.Ytlhaclammaaabaa.Alg

/-- A finite field, as a ring without zero divisors whose elements are listed. -/
class CF (K : Type) extends Add K, Mul K, Neg K, Zero K, One K where
  dec : DecidableEq K
  add_assoc : ∀ a b c : K, a + b + c = a + (b + c)
  add_comm : ∀ a b : K, a + b = b + a
  zero_add : ∀ a : K, 0 + a = a
  neg_add : ∀ a : K, -a + a = 0
  mul_assoc : ∀ a b c : K, a * b * c = a * (b * c)
  mul_comm : ∀ a b : K, a * b = b * a
  one_mul : ∀ a : K, 1 * a = a
  mul_add : ∀ a b c : K, a * (b + c) = a * b + a * c
  one_ne : (1 : K) ≠ 0
  zero_div : ∀ a b : K, a * b = 0 → a = 0 ∨ b = 0
  elems : List K
  nodup : elems.Nodup
  full : ∀ a : K, a ∈ elems

section
variable {K : Type} [CF K]

instance : DecidableEq K := CF.dec
instance : Sub K := ⟨fun a b => a + -b⟩

theorem sub_def (a b : K) : a - b = a + -b := rfl
theorem add_assoc (a b c : K) : a + b + c = a + (b + c) := CF.add_assoc a b c
theorem add_comm (a b : K) : a + b = b + a := CF.add_comm a b
theorem zero_add (a : K) : 0 + a = a := CF.zero_add a
theorem add_zero (a : K) : a + 0 = a := by rw [add_comm, zero_add]
theorem neg_add (a : K) : -a + a = 0 := CF.neg_add a
theorem add_neg (a : K) : a + -a = 0 := by rw [add_comm, neg_add]
theorem mul_assoc (a b c : K) : a * b * c = a * (b * c) := CF.mul_assoc a b c
theorem mul_comm (a b : K) : a * b = b * a := CF.mul_comm a b
theorem one_mul (a : K) : 1 * a = a := CF.one_mul a
theorem mul_one (a : K) : a * 1 = a := by rw [mul_comm, one_mul]
theorem mul_add (a b c : K) : a * (b + c) = a * b + a * c := CF.mul_add a b c
theorem add_mul (a b c : K) : (a + b) * c = a * c + b * c := by rw [mul_comm, mul_add, mul_comm c, mul_comm c]
theorem add_left_comm (a b c : K) : a + (b + c) = b + (a + c) := by rw [← add_assoc, add_comm a b, add_assoc]
theorem mul_left_comm (a b c : K) : a * (b * c) = b * (a * c) := by rw [← mul_assoc, mul_comm a b, mul_assoc]
theorem add_left_cancel {a b c : K} (h : a + b = a + c) : b = c := by
  rw [← zero_add b, ← zero_add c, ← neg_add a, add_assoc, add_assoc, h]
theorem add_right_cancel {a b c : K} (h : b + a = c + a) : b = c := by
  rw [add_comm b, add_comm c] at h; exact add_left_cancel h
theorem mul_zero (a : K) : a * 0 = 0 := by
  apply add_left_cancel (a := a * 0); rw [← mul_add, add_zero, add_zero]
theorem zero_mul (a : K) : 0 * a = 0 := by rw [mul_comm, mul_zero]
theorem neg_eq {a b : K} (h : a + b = 0) : b = -a := by
  apply add_left_cancel (a := a); rw [h, add_neg]
theorem neg_zero : -(0 : K) = 0 := (neg_eq (zero_add 0)).symm
theorem neg_neg (a : K) : - -a = a := (neg_eq (neg_add a)).symm
theorem neg_mul (a b : K) : -a * b = -(a * b) := neg_eq (by rw [← add_mul, add_neg, zero_mul])
theorem mul_neg (a b : K) : a * -b = -(a * b) := by rw [mul_comm, neg_mul, mul_comm]
theorem neg_add_rev (a b : K) : -(a + b) = -a + -b := by
  symm; apply neg_eq
  rw [add_assoc, add_left_comm b, add_neg, add_zero, add_neg]
theorem sub_self (a : K) : a - a = 0 := add_neg a
theorem sub_zero (a : K) : a - 0 = a := by rw [sub_def, neg_zero, add_zero]
theorem zero_sub (a : K) : 0 - a = -a := by rw [sub_def, zero_add]
theorem eq_of_sub {a b : K} (h : a - b = 0) : a = b := by
  apply add_right_cancel (a := -b); rw [add_neg]; exact h
theorem sub_add_cancel (a b : K) : a - b + b = a := by rw [sub_def, add_assoc, neg_add, add_zero]
theorem add_sub_cancel (a b : K) : a + b - b = a := by rw [sub_def, add_assoc, add_neg, add_zero]
theorem sub_mul (a b c : K) : (a - b) * c = a * c - b * c := by rw [sub_def, sub_def, add_mul, neg_mul]
theorem mul_sub (a b c : K) : a * (b - c) = a * b - a * c := by rw [sub_def, sub_def, mul_add, mul_neg]
theorem sub_eq_iff {a b c : K} : a - b = c ↔ a = c + b :=
  ⟨fun h => by rw [← h, sub_add_cancel], fun h => by rw [h, add_sub_cancel]⟩
theorem mul_ne {a b : K} (ha : a ≠ 0) (hb : b ≠ 0) : a * b ≠ 0 := fun h => (CF.zero_div a b h).elim ha hb
theorem mul_left_cancel {a b c : K} (ha : a ≠ 0) (h : a * b = a * c) : b = c := by
  apply eq_of_sub
  have : a * (b - c) = 0 := by rw [mul_sub, h, sub_self]
  exact (CF.zero_div _ _ this).resolve_left ha
theorem mul_right_cancel {a b c : K} (ha : a ≠ 0) (h : b * a = c * a) : b = c := by
  rw [mul_comm b, mul_comm c] at h; exact mul_left_cancel ha h
theorem one_ne : (1 : K) ≠ 0 := CF.one_ne

/-- Powers. -/
def pw (a : K) : Nat → K
  | 0 => 1
  | n + 1 => pw a n * a
theorem pw_zero (a : K) : pw a 0 = 1 := rfl
theorem pw_succ (a : K) (n : Nat) : pw a (n + 1) = pw a n * a := rfl
theorem pw_one (a : K) : pw a 1 = a := one_mul a
theorem pw_add (a : K) (m n : Nat) : pw a (m + n) = pw a m * pw a n := by
  induction n with
  | zero => rw [Nat.add_zero, pw_zero, mul_one]
  | succ n ih => rw [← Nat.add_assoc, pw_succ, ih, pw_succ, mul_assoc]
theorem one_pw (n : Nat) : pw (1 : K) n = 1 := by
  induction n with
  | zero => rfl
  | succ n ih => rw [pw_succ, ih, one_mul]
theorem pw_mul (a : K) (m n : Nat) : pw a (m * n) = pw (pw a m) n := by
  induction n with
  | zero => rfl
  | succ n ih => rw [Nat.mul_succ, pw_add, ih, pw_succ]
theorem mul_pw (a b : K) (n : Nat) : pw (a * b) n = pw a n * pw b n := by
  induction n with
  | zero => rw [pw_zero, pw_zero, pw_zero, one_mul]
  | succ n ih => rw [pw_succ, ih, pw_succ, pw_succ, mul_assoc, mul_assoc, mul_left_comm (pw b n)]
theorem zero_pw {n : Nat} (h : 0 < n) : pw (0 : K) n = 0 := by
  obtain ⟨m, rfl⟩ : ∃ m, n = m + 1 := ⟨n - 1, by omega⟩
  rw [pw_succ, mul_zero]
theorem pw_ne {a : K} (h : a ≠ 0) (n : Nat) : pw a n ≠ 0 := by
  induction n with
  | zero => exact one_ne
  | succ n ih => exact mul_ne ih h

/-- The number of the elements. -/
def card (K : Type) [CF K] : Nat := (CF.elems : List K).length

/-- The product of a list. -/
def prod : List K → K
  | [] => 1
  | a :: l => a * prod l
theorem prod_perm {l m : List K} (h : l.Perm m) : prod l = prod m := by
  induction h with
  | nil => rfl
  | cons a _ ih => show a * _ = a * _; rw [ih]
  | swap a b l => show b * (a * _) = a * (b * _); rw [mul_left_comm]
  | trans _ _ h1 h2 => rw [h1, h2]
theorem prod_map (a : K) (l : List K) : prod (l.map (a * ·)) = pw a l.length * prod l := by
  induction l with
  | nil => show (1 : K) = 1 * 1; rw [one_mul]
  | cons b l ih =>
    show a * b * prod (l.map (a * ·)) = pw a l.length * a * (b * prod l)
    rw [ih, mul_assoc, mul_assoc, mul_left_comm b, mul_left_comm a]
theorem prod_ne {l : List K} (h : ∀ a ∈ l, a ≠ 0) : prod l ≠ 0 := by
  induction l with
  | nil => exact one_ne
  | cons a l ih => exact mul_ne (h a (by simp)) (ih fun b hb => h b (by simp [hb]))

/-- Two lists without repetition and with the same members are permutations of each other. -/
theorem perm_of_same {α : Type} [DecidableEq α] {l m : List α} (hl : l.Nodup) (hm : m.Nodup) (h : ∀ a, a ∈ l ↔ a ∈ m) : l.Perm m := by
  rw [List.perm_iff_count]
  intro a
  rw [List.Nodup.count hl, List.Nodup.count hm]
  simp only [h a]

theorem length_le_of_subset {α : Type} [DecidableEq α] {l : List α} : ∀ {m : List α}, l.Nodup → l ⊆ m → l.length ≤ m.length := by
  induction l with
  | nil => intro m _ _; simp
  | cons a l ih =>
    intro m hn hs
    rw [List.nodup_cons] at hn
    have ha : a ∈ m := hs (by simp)
    have h := ih (m := m.erase a) hn.2 (by
      intro b hb
      have hne : b ≠ a := fun e => hn.1 (e ▸ hb)
      exact (List.mem_erase_of_ne hne).2 (hs (by simp [hb])))
    rw [List.length_erase_of_mem ha] at h
    have := List.length_pos_of_mem ha
    simp only [List.length_cons]; omega
theorem mem_of_length {α : Type} [DecidableEq α] {l m : List α} (hn : l.Nodup) (hs : l ⊆ m) (hl : m.length ≤ l.length) (a : α) (h : a ∈ m) : a ∈ l := by
  apply Decidable.byContradiction
  intro hne
  have := length_le_of_subset (l := a :: l) (m := m) (List.nodup_cons.2 ⟨hne, hn⟩) (by
    intro b hb
    rcases List.mem_cons.1 hb with rfl | hb
    · exact h
    · exact hs hb)
  simp only [List.length_cons] at this; omega

/-- The elements other than 0. -/
def units (K : Type) [CF K] : List K := (CF.elems : List K).filter (fun a => decide (a ≠ 0))
theorem mem_units (a : K) : a ∈ units K ↔ a ≠ 0 := by
  unfold units; simp [CF.full]
theorem units_nodup : (units K).Nodup := CF.nodup.filter _
theorem card_units : (units K).length + 1 = card K := by
  have h : (0 :: units K).Perm (CF.elems : List K) := by
    apply perm_of_same
    · rw [List.nodup_cons]; exact ⟨fun h => (mem_units 0).1 h rfl, units_nodup⟩
    · exact CF.nodup
    · intro a
      constructor
      · intro _; exact CF.full a
      · intro _
        by_cases e : a = 0
        · simp [e]
        · exact List.mem_cons_of_mem _ ((mem_units a).2 e)
  have := h.length_eq
  simpa [card] using this
theorem nodup_map_inj {α β : Type} {f : α → β} {l : List α} (hf : ∀ a b, f a = f b → a = b) (h : l.Nodup) : (l.map f).Nodup := by
  unfold List.Nodup at *
  rw [List.pairwise_map]
  exact h.imp fun hne he => hne (hf _ _ he)

/-- Each element other than 0 has the power 1 at the number of such elements. -/
theorem fermat {a : K} (ha : a ≠ 0) : pw a (card K - 1) = 1 := by
  have hc := card_units (K := K)
  have hp : ((units K).map (a * ·)).Perm (units K) := by
    have hn := nodup_map_inj (f := fun b : K => a * b) (fun b c h => mul_left_cancel ha h) (units_nodup (K := K))
    have hsub : (units K).map (a * ·) ⊆ units K := by
      intro b hb
      rw [List.mem_map] at hb
      obtain ⟨c, hc, rfl⟩ := hb
      exact (mem_units _).2 (mul_ne ha ((mem_units c).1 hc))
    refine perm_of_same hn units_nodup fun b => ⟨fun h => hsub h, fun h => ?_⟩
    exact mem_of_length hn hsub (by simp) b h
  have h1 := prod_perm hp
  rw [prod_map] at h1
  have h2 : (units K).length = card K - 1 := by omega
  rw [h2] at h1
  have hne : prod (units K) ≠ 0 := prod_ne fun b hb => (mem_units b).1 hb
  apply mul_right_cancel hne
  rw [h1, one_mul]
end
end Go.Proofs.Ytlhaclammaaabaa.Alg
