import Derived.Test.YtlhaclammaaabaaSer
/-! The group of a finite field is cyclic. -/
namespace Go.Proofs.Ytlhaclammaaabaa.Alg

/-- A number without divisors but 1 and itself. -/
def Pr (p : Nat) : Prop := 2 ≤ p ∧ ∀ d, d ∣ p → d = 1 ∨ d = p
theorem Pr.coprime {p m : Nat} (hp : Pr p) (h : ¬ p ∣ m) : Nat.Coprime p m := by
  rcases hp.2 _ (Nat.gcd_dvd_left p m) with e | e
  · exact e
  · exact absurd (e ▸ Nat.gcd_dvd_right p m) h
theorem exists_pr (n : Nat) : 2 ≤ n → ∃ p, Pr p ∧ p ∣ n := by
  induction n using Nat.strongRecOn with
  | _ n ih =>
    intro hn
    by_cases h : ∃ d, d ∣ n ∧ d ≠ 1 ∧ d ≠ n
    · obtain ⟨d, h1, h2, h3⟩ := h
      have hd : d ≤ n := Nat.le_of_dvd (by omega) h1
      have h0 : d ≠ 0 := by rintro rfl; have := Nat.zero_dvd.1 h1; omega
      obtain ⟨p, hp, hpd⟩ := ih d (by omega) (by omega)
      exact ⟨p, hp, Nat.dvd_trans hpd h1⟩
    · refine ⟨n, ⟨hn, fun d hd => ?_⟩, Nat.dvd_refl n⟩
      by_cases h1 : d = 1
      · exact .inl h1
      · by_cases h2 : d = n
        · exact .inr h2
        · exact absurd ⟨d, hd, h1, h2⟩ h
/-- The part of a number that a prime does not divide. -/
theorem factor_out {p : Nat} (hp : Pr p) (m : Nat) : 0 < m → ∃ f m', m = p ^ f * m' ∧ ¬ p ∣ m' := by
  induction m using Nat.strongRecOn with
  | _ m ih =>
    intro hm
    by_cases h : p ∣ m
    · obtain ⟨k, rfl⟩ := h
      have hk : 0 < k := by
        rcases Nat.eq_zero_or_pos k with e | e
        · subst e; simp at hm
        · exact e
      have hlt : k < p * k := by
        have := hp.1
        calc k < 2 * k := by omega
          _ ≤ p * k := Nat.mul_le_mul_right k this
      obtain ⟨f, m', e, h'⟩ := ih k hlt hk
      exact ⟨f + 1, m', by rw [e, Nat.pow_succ]; rw [Nat.mul_comm (p ^ f) p, Nat.mul_assoc], h'⟩
    · exact ⟨0, m, by simp, h⟩
theorem not_dvd_parts (m : Nat) (hm : 0 < m) (n : Nat) : 0 < n → ¬ n ∣ m → ∃ p e f n' m', Pr p ∧ n = p ^ e * n' ∧ m = p ^ f * m' ∧ ¬ p ∣ m' ∧ f < e := by
  induction n using Nat.strongRecOn with
  | _ n ih =>
    intro hn h
    have h2 : 2 ≤ n := by
      rcases Nat.lt_or_ge n 2 with g | g
      · have : n = 1 := by omega
        subst this; exact absurd (Nat.one_dvd m) h
      · exact g
    obtain ⟨p, hp, hpn⟩ := exists_pr n h2
    obtain ⟨e, n', en, hn'⟩ := factor_out hp n hn
    obtain ⟨f, m', em, hm'⟩ := factor_out hp m hm
    by_cases hf : f < e
    · exact ⟨p, e, f, n', m', hp, en, em, hm', hf⟩
    · have he : 0 < e := by
        rcases Nat.eq_zero_or_pos e with g | g
        · subst g; rw [Nat.pow_zero, Nat.one_mul] at en; rw [en] at hpn; exact absurd hpn hn'
        · exact g
      have hpe : p ^ e ∣ m := by
        rw [em]; exact Nat.dvd_mul_right_of_dvd (Nat.pow_dvd_pow p (by omega)) _
      have hn0 : 0 < n' := by
        rcases Nat.eq_zero_or_pos n' with g | g
        · subst g; simp at en; omega
        · exact g
      have hnd : ¬ n' ∣ m := fun g => h (by
        rw [en]
        exact Nat.Coprime.mul_dvd_of_dvd_of_dvd (Nat.Coprime.pow_left e (hp.coprime hn')) hpe g)
      have hlt : n' < n := by
        have h1 : 2 ≤ p ^ e := Nat.le_trans hp.1 (by
          calc p = p ^ 1 := (Nat.pow_one p).symm
            _ ≤ p ^ e := Nat.pow_le_pow_right (by have := hp.1; omega) he)
        rw [en]
        calc n' < 2 * n' := by omega
          _ ≤ p ^ e * n' := Nat.mul_le_mul_right n' h1
      obtain ⟨p2, e2, f2, n2, m2, h1, h2, h3, h4, h5⟩ := ih n' hlt hn0 hnd
      exact ⟨p2, e2, f2, p ^ e * n2, m2, h1, by rw [en, h2, Nat.mul_left_comm], h3, h4, h5⟩

section
variable {K : Type} [CF K]

/-- n is the order of a. -/
def Ord (a : K) (n : Nat) : Prop := 0 < n ∧ pw a n = 1 ∧ ∀ k, 0 < k → pw a k = 1 → n ≤ k
theorem ord_ne {a : K} {n : Nat} (h : Ord a n) : a ≠ 0 := by
  rintro rfl
  have := h.2.1
  rw [zero_pw h.1] at this
  exact one_ne this.symm
theorem ord_unique {a : K} {m n : Nat} (h : Ord a m) (h' : Ord a n) : m = n :=
  Nat.le_antisymm (h.2.2 n h'.1 h'.2.1) (h'.2.2 m h.1 h.2.1)
theorem card_pos : 2 ≤ card K := by
  have h := card_units (K := K)
  have : (1 : K) ∈ units K := (mem_units 1).2 one_ne
  have := List.length_pos_of_mem this
  omega
theorem exists_ord {a : K} (ha : a ≠ 0) : ∃ n, Ord a n := by
  have key : ∀ m, 0 < m → pw a m = 1 → ∃ n, Ord a n := by
    intro m
    induction m using Nat.strongRecOn with
    | _ m ih =>
      intro h0 h1
      by_cases h : ∃ k, 0 < k ∧ k < m ∧ pw a k = 1
      · obtain ⟨k, h2, h3, h4⟩ := h
        exact ih k h3 h2 h4
      · refine ⟨m, h0, h1, fun k hk he => ?_⟩
        rcases Nat.lt_or_ge k m with g | g
        · exact absurd ⟨k, hk, g, he⟩ h
        · exact g
  have := card_pos (K := K)
  exact key (card K - 1) (by omega) (fermat ha)
theorem pw_mod {a : K} {n : Nat} (h : pw a n = 1) (k : Nat) : pw a k = pw a (k % n) := by
  have := Nat.div_add_mod k n
  conv => lhs; rw [← this]
  rw [pw_add, pw_mul, h, one_pw, one_mul]
theorem ord_dvd {a : K} {n : Nat} (h : Ord a n) {k : Nat} (hk : pw a k = 1) : n ∣ k := by
  rcases Nat.eq_zero_or_pos (k % n) with e | e
  · exact Nat.dvd_of_mod_eq_zero e
  · rw [pw_mod h.2.1] at hk
    have := h.2.2 _ e hk
    have := Nat.mod_lt k h.1
    omega
theorem pw_of_dvd {a : K} {n k : Nat} (h : pw a n = 1) (hd : n ∣ k) : pw a k = 1 := by
  obtain ⟨c, rfl⟩ := hd
  rw [pw_mul, h, one_pw]
theorem ord_of {a : K} {n : Nat} (h0 : 0 < n) (h1 : pw a n = 1) (h : ∀ k, pw a k = 1 → n ∣ k) : Ord a n :=
  ⟨h0, h1, fun k hk he => Nat.le_of_dvd hk (h k he)⟩
theorem ord_le {a : K} {n : Nat} (h : Ord a n) : n ∣ card K - 1 := ord_dvd h (fermat (ord_ne h))
theorem ord_pw {a : K} {m n : Nat} (h : Ord a (m * n)) : Ord (pw a n) m := by
  have h0 := h.1
  have hm : 0 < m := Nat.pos_of_mul_pos_right h0
  have hn : 0 < n := Nat.pos_of_mul_pos_left h0
  refine ord_of hm (by rw [← pw_mul, Nat.mul_comm]; exact h.2.1) fun k hk => ?_
  rw [← pw_mul] at hk
  have := ord_dvd h hk
  rw [Nat.mul_comm] at this
  exact Nat.dvd_of_mul_dvd_mul_left hn this
theorem ord_mul {a b : K} {m n : Nat} (ha : Ord a m) (hb : Ord b n) (h : Nat.Coprime m n) : Ord (a * b) (m * n) := by
  refine ord_of (Nat.mul_pos ha.1 hb.1) ?_ fun k hk => ?_
  · rw [mul_pw, pw_mul, ha.2.1, one_pw, Nat.mul_comm, pw_mul, hb.2.1, one_pw, one_mul]
  · rw [mul_pw] at hk
    refine Nat.Coprime.mul_dvd_of_dvd_of_dvd h ?_ ?_
    · have : pw a (k * n) = 1 := by
        have e : pw (pw a k * pw b k) n = 1 := by rw [hk, one_pw]
        rw [mul_pw, ← pw_mul, ← pw_mul, Nat.mul_comm k n, pw_mul b, hb.2.1, one_pw, mul_one] at e
        rw [Nat.mul_comm]; exact e
      exact Nat.Coprime.dvd_of_dvd_mul_right h (ord_dvd ha this)
    · have : pw b (k * m) = 1 := by
        have e : pw (pw a k * pw b k) m = 1 := by rw [hk, one_pw]
        rw [mul_pw, ← pw_mul, ← pw_mul, Nat.mul_comm k m, pw_mul a, ha.2.1, one_pw, one_mul] at e
        rw [Nat.mul_comm]; exact e
      exact Nat.Coprime.dvd_of_dvd_mul_right h.symm (ord_dvd hb this)
/-- An element of the greatest order. -/
theorem exists_max : ∃ (g : K) (m : Nat), Ord g m ∧ ∀ (a : K) (n : Nat), Ord a n → n ≤ m := by
  have h1 : Ord (1 : K) 1 := ⟨by omega, one_pw 1, fun k hk _ => hk⟩
  have key : ∀ d (g : K) (m : Nat), Ord g m → card K - m ≤ d → ∃ (g : K) (m : Nat), Ord g m ∧ ∀ (a : K) (n : Nat), Ord a n → n ≤ m := by
    intro d
    induction d with
    | zero =>
      intro g m hg hd
      refine ⟨g, m, hg, fun a n ha => ?_⟩
      have := Nat.le_of_dvd (by have := card_pos (K := K); omega) (ord_le ha)
      omega
    | succ d ih =>
      intro g m hg hd
      by_cases h : ∃ (a : K) (n : Nat), Ord a n ∧ m < n
      · obtain ⟨a, n, ha, hn⟩ := h
        exact ih a n ha (by omega)
      · refine ⟨g, m, hg, fun a n ha => ?_⟩
        rcases Nat.lt_or_ge m n with e | e
        · exact absurd ⟨a, n, ha, e⟩ h
        · exact e
  exact key _ 1 1 h1 (Nat.le_refl _)
/-- Each order divides the greatest one. -/
theorem dvd_max {g : K} {m : Nat} (hg : Ord g m) (hmax : ∀ (a : K) (n : Nat), Ord a n → n ≤ m) {a : K} {n : Nat} (ha : Ord a n) : n ∣ m := by
  apply Decidable.byContradiction
  intro h
  obtain ⟨p, e, f, n', m', hp, en, em, hm', hf⟩ := not_dvd_parts m hg.1 n ha.1 h
  have h1 : Ord (pw a n') (p ^ e) := ord_pw (by rw [← en]; exact ha)
  have h2 : Ord (pw g (p ^ f)) m' := ord_pw (by rw [Nat.mul_comm, ← em]; exact hg)
  have h3 := hmax _ _ (ord_mul h1 h2 (Nat.Coprime.pow_left e (hp.coprime hm')))
  have h4 : p ^ f < p ^ e := Nat.pow_lt_pow_right (by have := hp.1; omega) hf
  have h5 : 0 < m' := h2.1
  have h6 : p ^ f * m' < p ^ e * m' := Nat.mul_lt_mul_of_pos_right h4 h5
  omega
/-- There is an element whose order is the number of all elements other than 0. -/
theorem exists_gen : ∃ g : K, Ord g (card K - 1) := by
  obtain ⟨g, m, hg, hmax⟩ := exists_max (K := K)
  have hm := ord_le hg
  have hc := card_pos (K := K)
  have hle := Nat.le_of_dvd (by omega) hm
  have hge : card K - 1 ≤ m := by
    apply Decidable.byContradiction
    intro hlt
    have hu := card_units (K := K)
    have hm0 := hg.1
    -- x^m - 1
    let f : Ser K := fun i => if i = 0 then -1 else if i = m then 1 else 0
    have hb : Bd f (m + 1) := fun i hi => by
      show (if i = 0 then (-1 : K) else if i = m then 1 else 0) = 0
      rw [if_neg (by omega), if_neg (by omega)]
    have hev : ∀ x : K, ev (m + 1) f x = -1 + pw x m := by
      intro x
      have hk : ∀ k, 0 < k → k ≤ m → ev k f x = -1 := by
        intro k
        induction k with
        | zero => intro h; omega
        | succ k ih =>
          intro _ hk
          rw [ev_succ_last]
          by_cases h0 : k = 0
          · subst h0; show (0 : K) + (-1) * 1 = -1; rw [zero_add, mul_one]
          · rw [ih (by omega) (by omega)]
            show -1 + (if k = 0 then (-1 : K) else if k = m then 1 else 0) * _ = -1
            rw [if_neg h0, if_neg (by omega), zero_mul, add_zero]
      rw [ev_succ_last, hk m hm0 (Nat.le_refl _)]
      show -1 + (if m = 0 then (-1 : K) else if m = m then 1 else 0) * _ = _
      rw [if_neg (by omega), if_pos rfl, one_mul]
    have hz := zero_of_roots hb (units K) units_nodup (by omega) (fun x hx => by
      rw [hev]
      obtain ⟨n, hn⟩ := exists_ord ((mem_units x).1 hx)
      rw [pw_of_dvd hn.2.1 (dvd_max hg hmax hn), neg_add])
    have : f m = 0 := congrFun hz m
    have h1 : f m = 1 := by
      show (if m = 0 then (-1 : K) else if m = m then 1 else 0) = 1
      rw [if_neg (by omega), if_pos rfl]
    rw [h1] at this
    exact one_ne this
  exact ⟨g, by rw [show card K - 1 = m from by omega]; exact hg⟩
/-- Each element other than 0 is a power of a generator. -/
theorem exists_log {g : K} (hg : Ord g (card K - 1)) {a : K} (ha : a ≠ 0) : ∃ n, n < card K - 1 ∧ pw g n = a := by
  have hu := card_units (K := K)
  have hinj : ∀ i j, i < card K - 1 → j < card K - 1 → pw g i = pw g j → i = j := by
    have key : ∀ i j, i < j → j < card K - 1 → pw g i = pw g j → False := by
      intro i j hij hj he
      have : pw g (j - i) = 1 := by
        apply mul_left_cancel (pw_ne (ord_ne hg) i)
        rw [← pw_add, mul_one, show i + (j - i) = j from by omega, he]
      have := hg.2.2 _ (by omega) this
      omega
    intro i j hi hj he
    rcases Nat.lt_trichotomy i j with h | h | h
    · exact (key i j h hj he).elim
    · exact h
    · exact (key j i h hi he.symm).elim
  have hn : ((List.range (card K - 1)).map (pw g)).Nodup := by
    unfold List.Nodup
    rw [List.pairwise_map]
    refine List.Pairwise.imp_of_mem ?_ List.nodup_range
    intro i j hi hj hne he
    exact hne (hinj i j (List.mem_range.1 hi) (List.mem_range.1 hj) he)
  have := mem_of_length hn (m := units K) (by
    intro b hb
    obtain ⟨i, _, rfl⟩ := List.mem_map.1 hb
    exact (mem_units _).2 (pw_ne (ord_ne hg) i)) (by simp; omega) a ((mem_units a).2 ha)
  obtain ⟨i, hi, he⟩ := List.mem_map.1 this
  exact ⟨i, List.mem_range.1 hi, he⟩
end
end Go.Proofs.Ytlhaclammaaabaa.Alg
