import Derived.Test.YtlhaclammaaabaaCyc
/-! Polynomials over GF(2) as numbers, and the fields that the program knows. -/
namespace Go.Proofs.Ytlhaclammaaabaa.Alg

instance : CF Bool where
  add := Bool.xor
  mul := Bool.and
  neg := id
  zero := false
  one := true
  dec := inferInstance
  add_assoc := by decide
  add_comm := by decide
  zero_add := by decide
  neg_add := by decide
  mul_assoc := by decide
  mul_comm := by decide
  one_mul := by decide
  mul_add := by decide
  one_ne := by decide
  zero_div := by decide
  elems := [false, true]
  nodup := by decide
  full := by decide

/-- The bits of a number. -/
def ser (n : Nat) : Ser Bool := fun i => n.testBit i
theorem ser_inj {a b : Nat} (h : ser a = ser b) : a = b := Nat.eq_of_testBit_eq fun i => congrFun h i
theorem ser_xor (a b : Nat) : ser (a ^^^ b) = sadd (ser a) (ser b) := by
  funext i; exact Nat.testBit_xor a b i
theorem ser_zero : ser 0 = fun _ => (0 : Bool) := by funext i; exact Nat.zero_testBit i
theorem ser_bd {a n : Nat} (h : a < 2 ^ n) : Bd (ser a) n := fun i hi =>
  Nat.testBit_lt_two_pow (Nat.lt_of_lt_of_le h (Nat.pow_le_pow_right (by omega) hi))
theorem lt_of_bd {a n : Nat} (h : Bd (ser a) n) : a < 2 ^ n :=
  Nat.lt_pow_two_of_testBit a fun i hi => h i hi
theorem ser_double (a : Nat) : ser (2 * a) = sh (ser a) := by
  funext i
  cases i with
  | zero => simp [ser, sh, Nat.testBit_zero]; rfl
  | succ i =>
    show (2 * a).testBit (i + 1) = a.testBit i
    rw [Nat.testBit_succ, show 2 * a / 2 = a from by omega]
theorem ser_half (a : Nat) : ser (a / 2) = tl (ser a) := by
  funext i; exact (Nat.testBit_succ a i).symm

/-- The product of polynomials over GF(2). -/
def cm (a b : Nat) : Nat := if h : b = 0 then 0 else (if b % 2 = 1 then a else 0) ^^^ (2 * cm a (b / 2))
termination_by b
decreasing_by omega
theorem cm_zero (a : Nat) : cm a 0 = 0 := by rw [cm]; simp
theorem cm_step (a b : Nat) : cm a b = (if b % 2 = 1 then a else 0) ^^^ (2 * cm a (b / 2)) := by
  by_cases h : b = 0
  · subst h; simp [cm_zero]
  · conv => lhs; rw [cm]
    rw [dif_neg h]
theorem ser_cm (a b : Nat) : ser (cm a b) = pmul (ser a) (ser b) := by
  induction b using Nat.strongRecOn with
  | _ b ih =>
    by_cases h : b = 0
    · subst h
      rw [cm_zero, ser_zero, pmul_comm, pmul_zero_left]
    · rw [cm_step, ser_xor, ser_double, ih (b / 2) (by omega), ser_half, pmul_comm (ser a) (ser b), pmul_split (ser b) (ser a), pmul_comm (ser a) (tl (ser b))]
      congr 1
      funext i
      show (ser (if b % 2 = 1 then a else 0)) i = (b.testBit 0 && a.testBit i)
      rw [Nat.testBit_zero]
      by_cases h2 : b % 2 = 1
      · simp [h2, ser]
      · simp [h2, ser]
theorem cm_comm (a b : Nat) : cm a b = cm b a := ser_inj (by rw [ser_cm, ser_cm, pmul_comm])
theorem cm_assoc (a b c : Nat) : cm (cm a b) c = cm a (cm b c) := ser_inj (by rw [ser_cm, ser_cm, ser_cm, ser_cm, pmul_assoc])
theorem cm_xor (a b c : Nat) : cm a (b ^^^ c) = cm a b ^^^ cm a c := ser_inj (by rw [ser_cm, ser_xor, ser_xor, ser_cm, ser_cm, pmul_sadd_right])
theorem xor_cm (a b c : Nat) : cm (a ^^^ b) c = cm a c ^^^ cm b c := by rw [cm_comm, cm_xor, cm_comm c, cm_comm c]
theorem zero_cm (a : Nat) : cm 0 a = 0 := by rw [cm_comm, cm_zero]
theorem one_cm (a : Nat) : cm 1 a = a := by
  rw [cm_comm, cm_step]; simp [cm_zero]
theorem cm_double (a b : Nat) : cm a (2 * b) = 2 * cm a b := by
  rw [cm_step, show (2 * b) % 2 = 0 from by omega, show 2 * b / 2 = b from by omega]; simp
theorem double_cm (a b : Nat) : cm (2 * a) b = 2 * cm a b := by rw [cm_comm, cm_double, cm_comm]
theorem cm_pow (a j : Nat) : cm a (2 ^ j) = a * 2 ^ j := by
  induction j with
  | zero => rw [Nat.pow_zero, Nat.mul_one, cm_comm, one_cm]
  | succ j ih => rw [Nat.pow_succ, Nat.mul_comm (2 ^ j) 2, cm_double, ih, Nat.mul_left_comm]
theorem cm_lt {a b m n : Nat} (ha : a < 2 ^ m) (hb : b < 2 ^ n) : cm a b < 2 ^ (m + n - 1) :=
  lt_of_bd (by rw [ser_cm]; exact (ser_bd ha).pmul (ser_bd hb))
theorem xor_lt {a b n : Nat} (ha : a < 2 ^ n) (hb : b < 2 ^ n) : a ^^^ b < 2 ^ n := Nat.xor_lt_two_pow ha hb
theorem xor_top {a b m : Nat} (ha : a < 2 ^ (m + 1)) (hb : b < 2 ^ (m + 1)) (h : a.testBit m = b.testBit m) : a ^^^ b < 2 ^ m := by
  apply lt_of_bd
  intro i hi
  show (a ^^^ b).testBit i = false
  rw [Nat.testBit_xor]
  by_cases e : i = m
  · subst e; rw [h, Bool.xor_self]
  · rw [show a.testBit i = false from ser_bd ha i (by omega), show b.testBit i = false from ser_bd hb i (by omega)]; rfl

/-- P is of degree d. -/
def Deg (P d : Nat) : Prop := P < 2 ^ (d + 1) ∧ P.testBit d = true
theorem Deg.le {P d : Nat} (h : Deg P d) : 2 ^ d ≤ P := by
  have := h.2
  exact Nat.ge_two_pow_of_testBit this
theorem deg_of {P d : Nat} (h1 : 2 ^ d ≤ P) (h2 : P < 2 ^ (d + 1)) : Deg P d := by
  refine ⟨h2, ?_⟩
  cases h : P.testBit d with
  | true => rfl
  | false =>
    have : P < 2 ^ d := lt_of_bd fun i hi => by
      by_cases e : i = d
      · subst e; exact h
      · exact ser_bd h2 i (by omega)
    omega
theorem exists_deg {P : Nat} (h : P ≠ 0) : ∃ d, Deg P d := ⟨Nat.log2 P, deg_of (Nat.log2_self_le h) Nat.lt_log2_self⟩
theorem deg_unique {P d e : Nat} (h : Deg P d) (h' : Deg P e) : d = e := by
  rcases Nat.lt_trichotomy d e with g | g | g
  · have := ser_bd h.1 e (by omega)
    exact absurd (h'.2.symm.trans this) (by decide)
  · exact g
  · have := ser_bd h'.1 d (by omega)
    exact absurd (h.2.symm.trans this) (by decide)
theorem deg_cm {a b m n : Nat} (ha : Deg a m) (hb : Deg b n) : Deg (cm a b) (m + n) := by
  have h := pmul_top (ser_bd ha.1) (ser_bd hb.1)
  rw [← ser_cm] at h
  refine ⟨lt_of_bd h.1, ?_⟩
  have h2 : (cm a b).testBit (m + n) = (a.testBit m && b.testBit n) := h.2
  rw [h2, ha.2, hb.2]; rfl
theorem cm_eq_zero {a b : Nat} (h : cm a b = 0) : a = 0 ∨ b = 0 := by
  by_cases ha : a = 0
  · exact .inl ha
  · by_cases hb : b = 0
    · exact .inr hb
    · obtain ⟨m, hm⟩ := exists_deg ha
      obtain ⟨n, hn⟩ := exists_deg hb
      have := (deg_cm hm hn).2
      rw [h] at this
      simp at this

/-- Equal modulo P. -/
def Cong (P x y : Nat) : Prop := ∃ s, x ^^^ y = cm P s
theorem Cong.refl (P x : Nat) : Cong P x x := ⟨0, by rw [Nat.xor_self, cm_zero]⟩
theorem Cong.symm {P x y : Nat} (h : Cong P x y) : Cong P y x := by
  obtain ⟨s, hs⟩ := h; exact ⟨s, by rw [Nat.xor_comm]; exact hs⟩
theorem xor_mid (a b c : Nat) : a ^^^ c = (a ^^^ b) ^^^ (b ^^^ c) := by
  rw [Nat.xor_assoc, ← Nat.xor_assoc b b c, Nat.xor_self, Nat.zero_xor]
theorem Cong.trans {P x y z : Nat} (h : Cong P x y) (k : Cong P y z) : Cong P x z := by
  obtain ⟨s, hs⟩ := h; obtain ⟨t, ht⟩ := k
  exact ⟨s ^^^ t, by rw [cm_xor, ← hs, ← ht]; exact xor_mid x y z⟩
theorem xor_swap (a b c d : Nat) : (a ^^^ b) ^^^ (c ^^^ d) = (a ^^^ c) ^^^ (b ^^^ d) := by
  rw [Nat.xor_assoc, ← Nat.xor_assoc b c d, Nat.xor_comm b c, Nat.xor_assoc c b d, ← Nat.xor_assoc a c]
theorem Cong.xor {P x y x' y' : Nat} (h : Cong P x y) (k : Cong P x' y') : Cong P (x ^^^ x') (y ^^^ y') := by
  obtain ⟨s, hs⟩ := h; obtain ⟨t, ht⟩ := k
  exact ⟨s ^^^ t, by rw [cm_xor, ← hs, ← ht]; exact xor_swap x x' y y'⟩
theorem Cong.mul {P x y : Nat} (c : Nat) (h : Cong P x y) : Cong P (cm c x) (cm c y) := by
  obtain ⟨s, hs⟩ := h
  exact ⟨cm c s, by rw [← cm_xor, hs, ← cm_assoc, cm_comm c P, cm_assoc]⟩
theorem Cong.mul_left {P x y : Nat} (c : Nat) (h : Cong P x y) : Cong P (cm x c) (cm y c) := by
  rw [cm_comm x, cm_comm y]; exact h.mul c
theorem cong_shift (P x j : Nat) : Cong P x (x ^^^ P * 2 ^ j) := ⟨2 ^ j, by rw [← Nat.xor_assoc, Nat.xor_self, Nat.zero_xor, cm_pow]⟩
theorem cong_unique {P d x y : Nat} (hP : Deg P d) (hx : x < 2 ^ d) (hy : y < 2 ^ d) (h : Cong P x y) : x = y := by
  obtain ⟨s, hs⟩ := h
  by_cases h0 : s = 0
  · subst h0
    rw [cm_zero] at hs
    rw [← Nat.xor_zero x, ← hs, ← Nat.xor_assoc, Nat.xor_self, Nat.zero_xor]
  · obtain ⟨n, hn⟩ := exists_deg h0
    have h1 := (deg_cm hP hn).le
    rw [← hs] at h1
    have h2 := xor_lt hx hy
    have h3 : 2 ^ d ≤ 2 ^ (d + n) := Nat.pow_le_pow_right (by omega) (by omega)
    omega
theorem exists_rem {P d : Nat} (hP : Deg P d) (n : Nat) : ∀ x, x < 2 ^ n → ∃ r, r < 2 ^ d ∧ Cong P x r := by
  induction n with
  | zero => intro x hx; exact ⟨x, by have := Nat.two_pow_pos d; simp at hx; omega, .refl _ _⟩
  | succ m ih =>
    intro x hx
    by_cases h : x < 2 ^ m
    · exact ih x h
    · by_cases hm : m < d
      · exact ⟨x, Nat.lt_of_lt_of_le hx (Nat.pow_le_pow_right (by omega) hm), .refl _ _⟩
      · have hd : Deg x m := deg_of (by omega) hx
        have hs : Deg (P * 2 ^ (m - d)) m := by
          rw [← cm_pow]
          have h1 : Deg (2 ^ (m - d)) (m - d) := deg_of (Nat.le_refl _) (Nat.pow_lt_pow_right (by omega) (by omega))
          have := deg_cm hP h1
          rwa [show d + (m - d) = m from by omega] at this
        obtain ⟨r, h1, h2⟩ := ih (x ^^^ P * 2 ^ (m - d)) (xor_top hx hs.1 (by rw [hd.2, hs.2]))
        exact ⟨r, h1, (cong_shift P x _).trans h2⟩
instance (P d : Nat) : Decidable (Deg P d) := inferInstanceAs (Decidable (_ ∧ _))
theorem exists_rem' {P d : Nat} (hP : Deg P d) (x : Nat) : ∃ r, r < 2 ^ d ∧ Cong P x r :=
  exists_rem hP (x + 1) x (Nat.lt_of_lt_of_le (Nat.lt_two_pow_self (n := x)) (Nat.pow_le_pow_right (by omega) (by omega)))
noncomputable def rem (P d x : Nat) : Nat := if h : Deg P d then Classical.choose (exists_rem' h x) else 0
theorem rem_lt {P d : Nat} (h : Deg P d) (x : Nat) : rem P d x < 2 ^ d := by
  unfold rem; rw [dif_pos h]; exact (Classical.choose_spec (exists_rem' h x)).1
theorem rem_cong {P d : Nat} (h : Deg P d) (x : Nat) : Cong P x (rem P d x) := by
  unfold rem; rw [dif_pos h]; exact (Classical.choose_spec (exists_rem' h x)).2
theorem rem_eq {P d x r : Nat} (h : Deg P d) (hr : r < 2 ^ d) (hc : Cong P x r) : rem P d x = r :=
  cong_unique h (rem_lt h x) hr ((rem_cong h x).symm.trans hc)

/-- No polynomial of at most half the degree divides P. -/
def Irr (P d : Nat) : Prop := 1 ≤ d ∧ Deg P d ∧ ∀ q e, Deg q e → 1 ≤ e → 2 * e ≤ d → ∀ s, cm q s ≠ P
theorem irr_no_zero {P d a b : Nat} (h : Irr P d) (ha : a < 2 ^ d) (hb : b < 2 ^ d) (hc : Cong P (cm a b) 0) : a = 0 ∨ b = 0 := by
  by_cases hb0 : b = 0
  · exact .inr hb0
  left
  apply Decidable.byContradiction
  intro ha0
  -- a least one
  have key : ∀ x, x ≠ 0 → x < 2 ^ d → Cong P (cm x b) 0 → False := by
    intro x
    induction x using Nat.strongRecOn with
    | _ x ih =>
      intro hx0 hxd hxc
      obtain ⟨e, he⟩ := exists_deg hx0
      have hed : e < d := by
        apply Decidable.byContradiction
        intro hn
        have := Nat.pow_le_pow_right (n := 2) (by omega) (show d ≤ e by omega)
        have := he.le
        omega
      obtain ⟨s, hs⟩ := rem_cong he P
      -- P ^^^ r = cm x s
      have hr := rem_lt he P
      by_cases hr0 : rem x e P = 0
      · rw [hr0, Nat.xor_zero] at hs
        by_cases e0 : e = 0
        · subst e0
          have hx1 : x = 1 := by
            have h1 := he.1
            have h2 := he.le
            simp at h1 h2
            omega
          subst hx1
          rw [one_cm] at hxc
          exact hb0 (cong_unique h.2.1 hb (Nat.two_pow_pos d) hxc)
        · by_cases hh : 2 * e ≤ d
          · exact h.2.2 x e he (by omega) hh s hs.symm
          · have hs0 : s ≠ 0 := by
              rintro rfl
              rw [cm_zero] at hs
              have := h.2.1.le
              have := Nat.two_pow_pos d
              omega
            obtain ⟨f, hf⟩ := exists_deg hs0
            have hdeg := deg_cm he hf
            rw [← hs] at hdeg
            have hef := deg_unique h.2.1 hdeg
            exact h.2.2 s f hf (by omega) (by omega) x (by rw [cm_comm]; exact hs.symm)
      · refine ih (rem x e P) (Nat.lt_of_lt_of_le hr he.le) hr0 (Nat.lt_trans hr (Nat.pow_lt_pow_right (by omega) hed)) ?_
        -- r = P ^^^ cm x s
        have e1 : rem x e P = P ^^^ cm x s := by
          rw [← hs, ← Nat.xor_assoc, Nat.xor_self, Nat.zero_xor]
        rw [e1, xor_cm]
        have c1 : Cong P (cm P b) 0 := ⟨b, by rw [Nat.xor_zero]⟩
        have c2 : Cong P (cm (cm x s) b) 0 := by
          rw [cm_comm x s, cm_assoc]
          have := hxc.mul s
          rwa [cm_zero] at this
        have := c1.xor c2
        rwa [Nat.xor_zero] at this
  exact key a ha0 ha hc

/-- The numbers below n, as a list of Fin's. -/
def fins (n : Nat) : List (Fin n) := (List.range n).attach.map fun x => ⟨x.1, List.mem_range.1 x.2⟩
theorem fins_map (n : Nat) : (fins n).map (·.1) = List.range n := by
  unfold fins
  rw [List.map_map]
  have : ((fun x : Fin n => x.1) ∘ fun x : { x // x ∈ List.range n } => (⟨x.1, List.mem_range.1 x.2⟩ : Fin n)) = fun x => x.1 := rfl
  rw [this, List.attach_map_subtype_val]
theorem fins_nodup (n : Nat) : (fins n).Nodup := by
  have h : ((fins n).map (·.1)).Nodup := by rw [fins_map]; exact List.nodup_range
  unfold List.Nodup at *
  rw [List.pairwise_map] at h
  exact h.imp fun hne he => hne (by rw [he])
theorem fins_full (n : Nat) (a : Fin n) : a ∈ fins n := by
  have h : a.1 ∈ (fins n).map (·.1) := by rw [fins_map]; exact List.mem_range.2 a.2
  obtain ⟨b, hb, e⟩ := List.mem_map.1 h
  rwa [← Fin.ext e]
theorem fins_length (n : Nat) : (fins n).length = n := by
  have := congrArg List.length (fins_map n)
  simpa using this

/-- The field with 2^d elements. -/
def BF (P d : Nat) (_ : Irr P d) : Type := Fin (2 ^ d)
noncomputable instance (P d : Nat) (h : Irr P d) : CF (BF P d h) where
  add a b := ⟨a.1 ^^^ b.1, xor_lt a.2 b.2⟩
  mul a b := ⟨rem P d (cm a.1 b.1), rem_lt h.2.1 _⟩
  neg a := a
  zero := ⟨0, Nat.two_pow_pos d⟩
  one := ⟨1, Nat.one_lt_two_pow (by have := h.1; omega)⟩
  dec := inferInstanceAs (DecidableEq (Fin (2 ^ d)))
  add_assoc a b c := Fin.ext (Nat.xor_assoc _ _ _)
  add_comm a b := Fin.ext (Nat.xor_comm _ _)
  zero_add a := Fin.ext (Nat.zero_xor _)
  neg_add a := Fin.ext (Nat.xor_self _)
  mul_assoc a b c := Fin.ext (by
    show rem P d (cm (rem P d (cm a.1 b.1)) c.1) = rem P d (cm a.1 (rem P d (cm b.1 c.1)))
    refine rem_eq h.2.1 (rem_lt h.2.1 _) ?_
    refine ((rem_cong h.2.1 (cm a.1 b.1)).symm.mul_left c.1).trans ?_
    rw [cm_assoc]
    exact ((rem_cong h.2.1 (cm b.1 c.1)).mul a.1).trans (rem_cong h.2.1 _))
  mul_comm a b := Fin.ext (by show rem P d (cm a.1 b.1) = rem P d (cm b.1 a.1); rw [cm_comm])
  one_mul a := Fin.ext (by
    show rem P d (cm 1 a.1) = a.1
    rw [one_cm]; exact rem_eq h.2.1 a.2 (.refl _ _))
  mul_add a b c := Fin.ext (by
    show rem P d (cm a.1 (b.1 ^^^ c.1)) = rem P d (cm a.1 b.1) ^^^ rem P d (cm a.1 c.1)
    rw [cm_xor]
    exact rem_eq h.2.1 (xor_lt (rem_lt h.2.1 _) (rem_lt h.2.1 _)) ((rem_cong h.2.1 _).xor (rem_cong h.2.1 _)))
  one_ne e := by
    have : (1 : Nat) = 0 := congrArg Fin.val e
    omega
  zero_div a b e := by
    have e1 : rem P d (cm a.1 b.1) = 0 := congrArg Fin.val e
    have c := rem_cong h.2.1 (cm a.1 b.1)
    rw [e1] at c
    rcases irr_no_zero h a.2 b.2 c with g | g
    · exact .inl (Fin.ext g)
    · exact .inr (Fin.ext g)
  elems := fins (2 ^ d)
  nodup := fins_nodup _
  full := fins_full _

/-- The field with p elements. -/
def PF (p : Nat) (_ : Pr p) : Type := Fin p
theorem pr_dvd {p a b : Nat} (hp : Pr p) (h : p ∣ a * b) : p ∣ a ∨ p ∣ b := by
  by_cases ha : p ∣ a
  · exact .inl ha
  · exact .inr (Nat.Coprime.dvd_of_dvd_mul_left (hp.coprime ha) h)
instance (p : Nat) (h : Pr p) : CF (PF p h) where
  add a b := ⟨(a.1 + b.1) % p, Nat.mod_lt _ (by have := h.1; omega)⟩
  mul a b := ⟨a.1 * b.1 % p, Nat.mod_lt _ (by have := h.1; omega)⟩
  neg a := ⟨(p - a.1) % p, Nat.mod_lt _ (by have := h.1; omega)⟩
  zero := ⟨0, by have := h.1; omega⟩
  one := ⟨1, by have := h.1; omega⟩
  dec := inferInstanceAs (DecidableEq (Fin p))
  add_assoc a b c := Fin.ext (by
    show ((a.1 + b.1) % p + c.1) % p = (a.1 + (b.1 + c.1) % p) % p
    rw [Nat.mod_add_mod, Nat.add_mod_mod, Nat.add_assoc])
  add_comm a b := Fin.ext (by show (a.1 + b.1) % p = (b.1 + a.1) % p; rw [Nat.add_comm])
  zero_add a := Fin.ext (by show (0 + a.1) % p = a.1; rw [Nat.zero_add]; exact Nat.mod_eq_of_lt a.2)
  neg_add a := Fin.ext (by
    show ((p - a.1) % p + a.1) % p = 0
    rw [Nat.mod_add_mod, show p - a.1 + a.1 = p from by have := a.2; omega, Nat.mod_self])
  mul_assoc a b c := Fin.ext (by
    show a.1 * b.1 % p * c.1 % p = a.1 * (b.1 * c.1 % p) % p
    rw [Nat.mod_mul_mod, Nat.mul_mod_mod, Nat.mul_assoc])
  mul_comm a b := Fin.ext (by show a.1 * b.1 % p = b.1 * a.1 % p; rw [Nat.mul_comm])
  one_mul a := Fin.ext (by show 1 * a.1 % p = a.1; rw [Nat.one_mul]; exact Nat.mod_eq_of_lt a.2)
  mul_add a b c := Fin.ext (by
    show a.1 * ((b.1 + c.1) % p) % p = (a.1 * b.1 % p + a.1 * c.1 % p) % p
    rw [Nat.mul_mod_mod, Nat.mul_add, Nat.add_mod])
  one_ne e := by
    have : (1 : Nat) = 0 := congrArg Fin.val e
    omega
  zero_div a b e := by
    have e1 : a.1 * b.1 % p = 0 := congrArg Fin.val e
    rcases pr_dvd h (Nat.dvd_of_mod_eq_zero e1) with g | g
    · exact .inl (Fin.ext (Nat.eq_zero_of_dvd_of_lt g a.2))
    · exact .inr (Fin.ext (Nat.eq_zero_of_dvd_of_lt g b.2))
  elems := fins p
  nodup := fins_nodup _
  full := fins_full _
end Go.Proofs.Ytlhaclammaaabaa.Alg
