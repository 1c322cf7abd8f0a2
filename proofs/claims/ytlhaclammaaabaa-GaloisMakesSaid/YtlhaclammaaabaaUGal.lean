import Derived.Test.YtlhaclammaaabaaP3
import Derived.Test.YtlhaclammaaabaaP7
import Derived.Test.YtlhaclammaaabaaP6
import Derived.Test.YtlhaclammaaabaaP8
import Derived.Test.YtlhaclammaaabaaGf2
import Derived.Laws.BitsLemmas
/-! What the bit loops of the two galois packages compute. -/
namespace Go.Proofs.Ytlhaclammaaabaa.Pg
open Go.RowKit Go.Proofs.YtlhaclammaaabaaW.PrintWords Go.Proofs.YtlhaclammaaabaaW.PrintLast Go.Proofs.YtlhaclammaaabaaW.PrintMore
open Go.Proofs.Ytlhaclammaaabaa.Alg (Deg rem Irr cm Cong deg_of exists_deg rem_eq rem_lt rem_cong cong_shift xor_top Pr deg_unique)
set_option linter.unusedVariables false
set_option linter.unusedSimpArgs false

theorem evs {α : Type} {g : Nat → Option α} {r : α} (h : Ev (fun k => g (k + 1)) r) : Ev g r := Ev.step (fun _ => rfl) h
theorem evn {α : Type} {g : Nat → Option α} {r r' : α} (e : r = r') (h : Ev g r) : Ev g r' := e ▸ h
theorem evt {α : Type} {c : Prop} [Decidable c] {f g : Nat → Option α} {r : α} (hc : c) (h : Ev f r) : Ev (fun k => if c then f k else g k) r := by simp only [if_pos hc]; exact h
theorem evf {α : Type} {c : Prop} [Decidable c] {f g : Nat → Option α} {r : α} (hc : ¬ c) (h : Ev g r) : Ev (fun k => if c then f k else g k) r := by simp only [if_neg hc]; exact h
theorem w64 {x : Int} (h0 : -9223372036854775808 ≤ x) (h1 : x < 9223372036854775808) : wrap64 x = x := by unfold wrap64; omega
theorem wi64 {x : Int} (h0 : -9223372036854775808 ≤ x) (h1 : x < 9223372036854775808) : IntKind.i64.wrap x = x := by rw [IntKind.wrap_i64]; omega
theorem wu64 {x : Int} (h0 : 0 ≤ x) (h1 : x < 18446744073709551616) : IntKind.u64.wrap x = x := by
  simp [IntKind.wrap, IntKind.bits, IntKind.signed]
  omega
theorem bxor {a b : Nat} (ha : a < 2 ^ 62) (hb : b < 2 ^ 62) : Go.bits .xor .i64 (a : Int) (b : Int) = ((a ^^^ b : Nat) : Int) := by
  have ha' : a % 2 ^ 64 = a := Nat.mod_eq_of_lt (by omega)
  have hb' : b % 2 ^ 64 = b := Nat.mod_eq_of_lt (by omega)
  have hx : a ^^^ b < 2 ^ 62 := Nat.xor_lt_two_pow ha hb
  show IntKind.i64.wrap (((BitVec.ofInt 64 (a : Int) ^^^ BitVec.ofInt 64 (b : Int)).toNat : Nat) : Int) = _
  rw [BitVec.toNat_xor, BitVec.ofInt_natCast, BitVec.ofInt_natCast, BitVec.toNat_ofNat, BitVec.toNat_ofNat, ha', hb']
  exact wi64 (by omega) (by omega)
theorem band1 {a : Nat} (ha : a < 2 ^ 62) : Go.bits .and .i64 (a : Int) 1 = ((a % 2 : Nat) : Int) := by
  have h := (bits_nat .i64 62 (by decide) (fun n h0 h1 => wi64 (by omega) (by omega)) a 1 ha (by decide)).1
  rw [Nat.and_one_is_mod] at h
  exact h
theorem shlN {a n : Nat} (h : a * 2 ^ n < 2 ^ 62) (hn : n ≤ 64) : shl .i64 (a : Int) (n : Int) = ((a * 2 ^ n : Nat) : Int) := by
  unfold shl
  rw [show min ((n : Int)).toNat IntKind.i64.bits = n from by simp [IntKind.bits]; omega]
  rw [show (a : Int) * 2 ^ n = ((a * 2 ^ n : Nat) : Int) from by simp]
  exact wi64 (by omega) (by omega)
theorem shrN {a n : Nat} (hn : n ≤ 64) : shr .i64 (a : Int) (n : Int) = ((a / 2 ^ n : Nat) : Int) := by
  unfold shr
  rw [show min ((n : Int)).toNat IntKind.i64.bits = n from by simp [IntKind.bits]; omega]
  simp

/-- The number of the binary digits. -/
def blen (n : Nat) : Nat := if h : n = 0 then 0 else blen (n / 2) + 1
termination_by n
decreasing_by omega
theorem blen_zero : blen 0 = 0 := by rw [blen]; simp
theorem blen_pos {n : Nat} (h : n ≠ 0) : blen n = blen (n / 2) + 1 := by rw [blen, dif_neg h]
theorem blen_le {b : Nat} : ∀ {n : Nat}, n < 2 ^ b → blen n ≤ b := by
  induction b with
  | zero => intro n h; have : n = 0 := by omega
            subst this; rw [blen_zero]; omega
  | succ b ih =>
    intro n h
    by_cases h0 : n = 0
    · subst h0; rw [blen_zero]; omega
    · rw [blen_pos h0]
      have := ih (n := n / 2) (by rw [Nat.pow_succ] at h; omega)
      omega
theorem blen_deg {d : Nat} : ∀ {n : Nat}, Deg n d → blen n = d + 1 := by
  induction d with
  | zero =>
    intro n h
    have h1 := h.1
    have h2 := h.le
    have : n = 1 := by omega
    subst this
    rw [blen_pos (by omega), blen_zero]
  | succ d ih =>
    intro n h
    have h1 := h.1
    have h2 := h.le
    have hp := Nat.two_pow_pos d
    rw [Nat.pow_succ] at h1 h2
    rw [Nat.pow_succ] at h1
    rw [blen_pos (by omega), ih (n := n / 2) (deg_of (by omega) (by rw [Nat.pow_succ]; omega))]

theorem ev_length_l (b : Nat) : ∀ (n x : Nat), n < 2 ^ b → x + b < 2 ^ 62 → Ev (fun k => galois_length.l0 k (n : Int) (x : Int)) ((x + blen n : Nat) : Int) := by
  induction b with
  | zero =>
    intro n x h _
    have : n = 0 := by omega
    subst this
    refine evs ?_
    simp only [galois_length.l0, blen_zero]
    exact Ev.now _
  | succ b ih =>
    intro n x h hx
    refine evs ?_
    by_cases h0 : n = 0
    · subst h0
      simp only [galois_length.l0, blen_zero]
      exact Ev.now _
    · have hp : ((n : Nat) : Int) > 0 := by omega
      have h2 : wrap64 ((x : Int) + 1) = ((x + 1 : Nat) : Int) := by rw [w64 (by omega) (by omega)]; rfl
      have h3 : ((n : Nat) : Int) / 2 = ((n / 2 : Nat) : Int) := by omega
      simp only [galois_length.l0, if_pos hp, h2, h3]
      refine evn ?_ ((ih (n / 2) (x + 1) (by rw [Nat.pow_succ] at h; omega) (by omega)))
      rw [blen_pos h0]; congr 1; omega
theorem ev_length {n : Nat} (h : n < 2 ^ 63) : Ev (fun k => galois_length.f k (n : Int)) ((blen n : Nat) : Int) := by
  simp only [galois_length.f]
  refine evn ?_ ((ev_length_l 63 n 0 h (by omega)))
  rw [Nat.zero_add]
theorem ev_length_neg {n : Int} (h : n ≤ 0) : Ev (fun k => galois_length.f k n) 0 := by
  simp only [galois_length.f]
  refine evs ?_
  simp only [galois_length.l0]
  exact evf (by omega) (Ev.now _)

theorem ev_reduce_l {q e : Nat} (hq : Deg q e) (he : e ≤ 40) (b : Nat) : ∀ v : Nat, v < 2 ^ b → b ≤ 40 →
    Ev (fun k => galois_reduce.l0 k (v : Int) (q : Int) ((e + 1 : Nat) : Int) ((blen v : Nat) : Int)) ((rem q e v : Nat) : Int) := by
  have hqe := hq.1
  have small : ∀ v : Nat, blen v < e + 1 → Ev (fun k => galois_reduce.l0 k (v : Int) (q : Int) ((e + 1 : Nat) : Int) ((blen v : Nat) : Int)) ((rem q e v : Nat) : Int) := by
    intro v hv
    refine evs ?_
    have hn : ¬ ((blen v : Nat) : Int) ≥ ((e + 1 : Nat) : Int) := by omega
    simp only [galois_reduce.l0, if_neg hn]
    have hlt : v < 2 ^ e := by
      by_cases h0 : v = 0
      · subst h0; exact Nat.two_pow_pos e
      · obtain ⟨m, hm⟩ := exists_deg h0
        rw [blen_deg hm] at hv
        exact Nat.lt_of_lt_of_le hm.1 (Nat.pow_le_pow_right (by omega) (by omega))
    rw [rem_eq hq hlt (.refl _ _)]
    exact Ev.now _
  induction b with
  | zero =>
    intro v hv _
    have : v = 0 := by omega
    subst this
    exact small 0 (by rw [blen_zero]; omega)
  | succ b ih =>
    intro v hv hb
    by_cases hs : blen v < e + 1
    · exact small v hs
    · have h0 : v ≠ 0 := by rintro rfl; rw [blen_zero] at hs; omega
      obtain ⟨m, hm⟩ := exists_deg h0
      have hbm := blen_deg hm
      have hml : m ≤ b := by
        apply Decidable.byContradiction
        intro hn
        have := Nat.pow_le_pow_right (n := 2) (by omega) (show b + 1 ≤ m by omega)
        have := hm.le
        omega
      refine evs ?_
      have c1 : ((blen v : Nat) : Int) ≥ ((e + 1 : Nat) : Int) := by omega
      have c2 : wrap64 (((blen v : Nat) : Int) - ((e + 1 : Nat) : Int)) = ((m - e : Nat) : Int) := by rw [w64 (by omega) (by omega)]; omega
      have c3 : (0 : Int) ≤ ((m - e : Nat) : Int) := by omega
      have hqs : Deg (q * 2 ^ (m - e)) m := by
        rw [← Alg.cm_pow]
        have := Alg.deg_cm hq (deg_of (d := m - e) (Nat.le_refl _) (Nat.pow_lt_pow_right (by omega) (by omega)))
        rwa [show e + (m - e) = m from by omega] at this
      have l1 : (2 : Nat) ^ (m + 1) ≤ 2 ^ 41 := Nat.pow_le_pow_right (by omega) (by omega)
      have c4 : shl .i64 (q : Int) ((m - e : Nat) : Int) = ((q * 2 ^ (m - e) : Nat) : Int) := shlN (by have := hqs.1; omega) (by omega)
      have c5 : Go.bits .xor .i64 (v : Int) ((q * 2 ^ (m - e) : Nat) : Int) = ((v ^^^ q * 2 ^ (m - e) : Nat) : Int) := bxor (by have := hm.1; omega) (by have := hqs.1; omega)
      simp only [galois_reduce.l0, if_pos c1, c2, if_pos c3, c4, c5]
      have hlt : v ^^^ q * 2 ^ (m - e) < 2 ^ m := xor_top hm.1 hqs.1 (by rw [hm.2, hqs.2])
      have l2 : (2 : Nat) ^ m ≤ 2 ^ b := Nat.pow_le_pow_right (by omega) hml
      have l3 : (2 : Nat) ^ b ≤ 2 ^ 40 := Nat.pow_le_pow_right (by omega) (by omega)
      refine Ev.bind (ev_length (by omega)) ?_
      refine evn ?_ ((ih _ (by omega) (by omega)))
      rw [rem_eq hq (rem_lt hq v) ((cong_shift q v (m - e)).symm.trans (rem_cong hq v))]
theorem ev_reduce {q e v : Nat} (hq : Deg q e) (he : e ≤ 40) (hv : v < 2 ^ 40) : Ev (fun k => galois_reduce.f k (v : Int) (q : Int)) ((rem q e v : Nat) : Int) := by
  simp only [galois_reduce.f]
  have l1 : (2 : Nat) ^ (e + 1) ≤ 2 ^ 41 := Nat.pow_le_pow_right (by omega) (by omega)
  have hqe := hq.1
  refine Ev.bind (ev_length (by omega)) ?_
  refine Ev.bind (ev_length (by omega)) ?_
  rw [blen_deg hq]
  exact ev_reduce_l hq he 40 v hv (by omega)

noncomputable def irrB (v d : Nat) : Bool := @decide (Irr v d) (Classical.propDecidable _)
theorem irrB_iff {v d : Nat} : irrB v d = true ↔ Irr v d := by unfold irrB; exact @decide_eq_true_iff _ (Classical.propDecidable _)
theorem irrB_false {v d : Nat} (h : ¬ Irr v d) : irrB v d = false := by
  cases e : irrB v d
  · rfl
  · exact absurd (irrB_iff.1 e) h
theorem rem_zero {q e v : Nat} (hq : Deg q e) : rem q e v = 0 ↔ ∃ s, cm q s = v := by
  constructor
  · intro h
    obtain ⟨s, hs⟩ := rem_cong hq v
    rw [h, Nat.xor_zero] at hs
    exact ⟨s, hs.symm⟩
  · rintro ⟨s, rfl⟩
    exact rem_eq hq (Nat.two_pow_pos e) ⟨s, Nat.xor_zero _⟩
theorem irr_of {v d : Nat} (hd : 1 ≤ d) (hv : Deg v d) (h : ∀ q e, Deg q e → 1 ≤ e → 2 * e ≤ d → rem q e v ≠ 0) : Irr v d :=
  ⟨hd, hv, fun q e hq h1 h2 s hs => h q e hq h1 h2 ((rem_zero hq).2 ⟨s, hs⟩)⟩

/-- The two searches for a divisor, alike. -/
theorem ev_search {v d : Nat} (hd : 1 ≤ d) (hv : Deg v d) (hd' : d ≤ 30) (L : Nat → Int → Option Bool)
    (stop : ∀ c e : Nat, Deg c e → e ≤ 40 → d < 2 * e → Ev (fun k => L k (c : Int)) true)
    (hit : ∀ c e : Nat, Deg c e → 1 ≤ e → 2 * e ≤ d → rem c e v = 0 → Ev (fun k => L k (c : Int)) false)
    (go : ∀ c e : Nat, ∀ r, Deg c e → 1 ≤ e → 2 * e ≤ d → rem c e v ≠ 0 → Ev (fun k => L k ((c + 1 : Nat) : Int)) r → Ev (fun k => L k (c : Int)) r)
    (n : Nat) : ∀ c : Nat, 2 ≤ c → c ≤ 2 ^ (d + 1) → 2 ^ (d + 1) ≤ c + n → (∀ q e, Deg q e → 1 ≤ e → q < c → 2 * e ≤ d → rem q e v ≠ 0) → Ev (fun k => L k (c : Int)) (irrB v d) := by
  have done : ∀ c e : Nat, Deg c e → e ≤ 40 → d < 2 * e → (∀ q e, Deg q e → 1 ≤ e → q < c → 2 * e ≤ d → rem q e v ≠ 0) → Ev (fun k => L k (c : Int)) (irrB v d) := by
    intro c e hc h4 he hh
    refine evn ?_ ((stop c e hc h4 he))
    refine (irrB_iff.2 (irr_of hd hv fun q f hq h1 h2 => hh q f hq h1 ?_ h2)).symm
    have h3 := Nat.pow_le_pow_right (n := 2) (by omega) (show f + 1 ≤ e by omega)
    have h4 := hc.le
    have h5 := hq.1
    omega
  induction n with
  | zero =>
    intro c h2 hc hn hh
    have h1 : c = 2 ^ (d + 1) := by omega
    have hcd : Deg c (d + 1) := deg_of (by omega) (by rw [h1]; exact Nat.pow_lt_pow_right (by omega) (by omega))
    exact done c (d + 1) hcd (by omega) (by omega) hh
  | succ n ih =>
    intro c h2 hc hn hh
    obtain ⟨e, he⟩ := exists_deg (show c ≠ 0 by omega)
    have he1 : e ≤ d + 1 := by
      apply Decidable.byContradiction
      intro hk
      have := Nat.pow_lt_pow_right (a := 2) (by omega) (show d + 1 < e by omega)
      have := he.le
      omega
    by_cases h4 : 2 * e ≤ d
    · have e0 : 1 ≤ e := by
        rcases Nat.eq_zero_or_pos e with h | h
        · subst h
          have := he.1
          omega
        · exact h
      have hlt : c < 2 ^ (d + 1) := Nat.lt_of_lt_of_le he.1 (Nat.pow_le_pow_right (by omega) (by omega))
      by_cases hr : rem c e v = 0
      · refine evn (irrB_false ?_).symm (hit c e he e0 h4 hr)
        intro hi
        obtain ⟨s, hs⟩ := (rem_zero he).1 hr
        exact hi.2.2 c e he e0 h4 s hs
      · refine go c e _ he e0 h4 hr (ih (c + 1) (by omega) (by omega) (by omega) ?_)
        intro q f hq h1 hqc h2
        by_cases hqe : q = c
        · subst hqe
          rw [deg_unique hq he]
          exact hr
        · exact hh q f hq h1 (by omega) h2
    · exact done c e he (by omega) (by omega) hh

theorem ev_irreducible {v d : Nat} (hd : 1 ≤ d) (hv : Deg v d) (hd' : d ≤ 30) : Ev (fun k => galois_irreducible.f k (v : Int)) (irrB v d) := by
  have l1 : (2 : Nat) ^ (d + 1) ≤ 2 ^ 31 := Nat.pow_le_pow_right (by omega) (by omega)
  have hv1 := hv.1
  simp only [galois_irreducible.f]
  refine Ev.bind (ev_length (by omega)) ?_
  have e1 : wrap64 (((blen v : Nat) : Int) - 1) = (d : Int) := by rw [blen_deg hv, w64 (by omega) (by omega)]; omega
  have e2 : ¬ (d : Int) < 1 := by omega
  simp only [e1, if_neg e2]
  have hde : ∀ c e : Nat, Deg c e → e ≤ 40 → wrap64 (2 * wrap64 (((blen c : Nat) : Int) - 1)) = ((2 * e : Nat) : Int) := by
    intro c e h h1
    rw [blen_deg h, w64 (x := ((e + 1 : Nat) : Int) - 1) (by omega) (by omega), w64 (by omega) (by omega)]; omega
  have hb : ∀ c e : Nat, Deg c e → e ≤ 40 → c < 2 ^ 41 := fun c e h h1 => Nat.lt_of_lt_of_le h.1 (Nat.pow_le_pow_right (by omega) (by omega))
  refine ev_search hd hv hd' (fun k c => galois_irreducible.l0 k (v : Int) (d : Int) c) ?_ ?_ ?_ (2 ^ (d + 1)) 2 (by omega) ?_ (by omega) ?_
  · intro c e h h4 he
    refine evs ?_
    simp only [galois_irreducible.l0]
    refine Ev.bind (ev_length (by have := hb c e h h4; omega)) ?_
    simp only [hde c e h h4]
    exact evf (by omega) (Ev.now _)
  · intro c e h h1 he hr
    refine evs ?_
    simp only [galois_irreducible.l0]
    refine Ev.bind (ev_length (by have := hb c e h (by omega); omega)) ?_
    simp only [hde c e h (by omega)]
    refine evt (by omega) ?_
    refine Ev.bind (ev_reduce h (by omega) (by omega)) ?_
    exact evt (by omega) (Ev.now _)
  · intro c e r h h1 he hr hg
    refine evs ?_
    have := hb c e h (by omega)
    simp only [galois_irreducible.l0]
    refine Ev.bind (ev_length (by omega)) ?_
    simp only [hde c e h (by omega)]
    refine evt (by omega) ?_
    refine Ev.bind (ev_reduce h (by omega) (by omega)) ?_
    refine evf (by omega) ?_
    rw [show wrap64 ((c : Int) + 1) = ((c + 1 : Nat) : Int) from w64 (by omega) (by omega)]
    exact hg
  · have := Nat.pow_le_pow_right (n := 2) (by omega) (show 1 ≤ d + 1 by omega)
    omega
  · intro q e hq h1 h2 _
    have := hq.le
    have := Nat.pow_le_pow_right (n := 2) (by omega) h1
    omega

/-! The reference. -/
theorem ev_degree_l (b : Nat) : ∀ (n : Nat) (x : Int), n < 2 ^ b → b ≤ 63 → -1 ≤ x → x + b < 2 ^ 62 → Ev (fun k => barscanref04_degree.l0 k (n : Int) x) (x + (blen n : Int)) := by
  induction b with
  | zero =>
    intro n x h _ _ _
    have : n = 0 := by omega
    subst this
    refine evs ?_
    simp only [barscanref04_degree.l0, blen_zero]
    refine evf (by omega) ?_
    exact evn (by omega) (Ev.now _)
  | succ b ih =>
    intro n x h hb hx0 hx
    refine evs ?_
    simp only [barscanref04_degree.l0]
    by_cases h0 : n = 0
    · subst h0
      refine evf (by omega) ?_
      rw [blen_zero]
      exact evn (by omega) (Ev.now _)
    · refine evt (by omega) ?_
      have h2 : wrap64 (x + 1) = x + 1 := w64 (by omega) (by omega)
      have l1 : (2 : Nat) ^ (b + 1) ≤ 2 ^ 63 := Nat.pow_le_pow_right (by omega) hb
      have h3 : wrap64 (Int.tdiv ((n : Nat) : Int) 2) = ((n / 2 : Nat) : Int) := by
        rw [show (2 : Int) = ((2 : Nat) : Int) from rfl, ← Int.ofNat_tdiv, w64 (by omega) (by omega)]
      rw [h2, h3]
      refine evn ?_ (ih (n / 2) (x + 1) (by rw [Nat.pow_succ] at h; omega) (by omega) (by omega) (by omega))
      rw [blen_pos h0]; omega
theorem ev_degree {n : Nat} (h : n < 2 ^ 63) : Ev (fun k => barscanref04_degree.f k (n : Int)) ((blen n : Int) - 1) := by
  simp only [barscanref04_degree.f]
  exact evn (by omega) (ev_degree_l 63 n (-1) h (by omega) (by omega) (by omega))
theorem ev_degree_neg {n : Int} (h : n ≤ 0) : Ev (fun k => barscanref04_degree.f k n) (-1) := by
  simp only [barscanref04_degree.f]
  refine evs ?_
  simp only [barscanref04_degree.l0]
  exact evf (by omega) (Ev.now _)
theorem ev_deg {n d : Nat} (h : Deg n d) (hd : d ≤ 62) : Ev (fun k => barscanref04_degree.f k (n : Int)) (d : Int) := by
  have l1 : (2 : Nat) ^ (d + 1) ≤ 2 ^ 63 := Nat.pow_le_pow_right (by omega) (by omega)
  have h1 := h.1
  refine evn ?_ (ev_degree (by omega))
  rw [blen_deg h]; omega

theorem ev_rest_l {q e : Nat} (hq : Deg q e) (he : 1 ≤ e) (he' : e ≤ 40) (b : Nat) : ∀ v : Nat, v < 2 ^ b → b ≤ 40 →
    Ev (fun k => barscanref04_rest.l0 k (v : Int) (q : Int) (e : Int) ((b : Int) - 1)) ((rem q e v : Nat) : Int) := by
  have small : ∀ b v : Nat, v < 2 ^ b → b ≤ e → Ev (fun k => barscanref04_rest.l0 k (v : Int) (q : Int) (e : Int) ((b : Int) - 1)) ((rem q e v : Nat) : Int) := by
    intro b v hv hb
    refine evs ?_
    simp only [barscanref04_rest.l0]
    refine evf (by omega) ?_
    have hlt : v < 2 ^ e := Nat.lt_of_lt_of_le hv (Nat.pow_le_pow_right (by omega) hb)
    rw [rem_eq hq hlt (.refl _ _)]
    exact Ev.now _
  induction b with
  | zero =>
    intro v hv _
    exact small 0 v hv (by omega)
  | succ b ih =>
    intro v hv hb
    by_cases hs : b + 1 ≤ e
    · exact small (b + 1) v hv hs
    · rw [show (((b + 1 : Nat) : Int) - 1) = (b : Int) from by omega]
      have l1 : (2 : Nat) ^ (b + 1) ≤ 2 ^ 41 := Nat.pow_le_pow_right (by omega) (by omega)
      have u1 : IntKind.u64.wrap ((b : Nat) : Int) = (b : Int) := wu64 (by omega) (by omega)
      have u2 : IntKind.u64.wrap (wrap64 ((b : Int) - (e : Int))) = ((b - e : Nat) : Int) := by rw [w64 (by omega) (by omega), wu64 (by omega) (by omega)]; omega
      have u3 : wrap64 ((b : Int) - 1) = (b : Int) - 1 := w64 (by omega) (by omega)
      have u4 : Go.bits .and .i64 (shr .i64 (v : Int) (b : Int)) 1 = ((v / 2 ^ b % 2 : Nat) : Int) := by
        rw [shrN (by omega)]
        have : v / 2 ^ b ≤ v := Nat.div_le_self _ _
        exact band1 (by omega)
      refine evs ?_
      simp only [barscanref04_rest.l0, u1, u2, u3, u4]
      refine evt (by omega) (evt (by omega) ?_)
      have htb : v.testBit b = decide (v / 2 ^ b % 2 = 1) := Nat.testBit_eq_decide_div_mod_eq
      by_cases hbit : v / 2 ^ b % 2 = 1
      · refine evt (by omega) (evt (by omega) ?_)
        have hqs : Deg (q * 2 ^ (b - e)) b := by
          rw [← Alg.cm_pow]
          have := Alg.deg_cm hq (deg_of (d := b - e) (Nat.le_refl _) (Nat.pow_lt_pow_right (by omega) (by omega)))
          rwa [show e + (b - e) = b from by omega] at this
        have c4 : shl .i64 (q : Int) ((b - e : Nat) : Int) = ((q * 2 ^ (b - e) : Nat) : Int) := shlN (by have := hqs.1; omega) (by omega)
        have c5 : Go.bits .xor .i64 (v : Int) ((q * 2 ^ (b - e) : Nat) : Int) = ((v ^^^ q * 2 ^ (b - e) : Nat) : Int) := bxor (by omega) (by have := hqs.1; omega)
        rw [c4, c5]
        have hlt : v ^^^ q * 2 ^ (b - e) < 2 ^ b := xor_top hv hqs.1 (by rw [htb, hqs.2, decide_eq_true hbit])
        refine evn ?_ (ih _ hlt (by omega))
        rw [rem_eq hq (rem_lt hq v) ((cong_shift q v (b - e)).symm.trans (rem_cong hq v))]
      · refine evf (by omega) ?_
        refine ih _ ?_ (by omega)
        have h1 : v / 2 ^ b < 2 := by rw [Nat.pow_succ] at hv; exact Nat.div_lt_of_lt_mul (by omega)
        have h2 : v / 2 ^ b = 0 := by revert h1 hbit; generalize v / 2 ^ b = t; intro h1 hbit; omega
        rcases Nat.div_eq_zero_iff.1 h2 with h3 | h3
        · have := Nat.two_pow_pos b; omega
        · exact h3
theorem ev_rest {q e v : Nat} (hq : Deg q e) (he : 1 ≤ e) (he' : e ≤ 40) (hv : v < 2 ^ 40) : Ev (fun k => barscanref04_rest.f k (v : Int) (q : Int)) ((rem q e v : Nat) : Int) := by
  simp only [barscanref04_rest.f]
  refine Ev.bind (ev_deg hq (by omega)) ?_
  refine Ev.bind (ev_degree (by omega)) ?_
  refine ev_rest_l hq he he' (blen v) v ?_ (blen_le hv)
  by_cases h0 : v = 0
  · subst h0; rw [blen_zero]; omega
  · obtain ⟨m, hm⟩ := exists_deg h0
    rw [blen_deg hm]; exact hm.1

theorem ev_irreducible' {v d : Nat} (hd : 1 ≤ d) (hv : Deg v d) (hd' : d ≤ 30) : Ev (fun k => barscanref04_irreducible.f k (v : Int) (d : Int)) (irrB v d) := by
  simp only [barscanref04_irreducible.f]
  refine evf (by omega) ?_
  refine Ev.bind (ev_deg hv (by omega)) ?_
  refine evs ?_
  simp only [barscanref04_irreducible.j0, bne_self_eq_false]
  refine evf (by simp) ?_
  have hb : ∀ c e : Nat, Deg c e → e ≤ 40 → wrap64 (2 * (e : Int)) = ((2 * e : Nat) : Int) := fun c e h h1 => by rw [w64 (by omega) (by omega)]; omega
  have hv40 : v < 2 ^ 40 := Nat.lt_of_lt_of_le hv.1 (Nat.pow_le_pow_right (by omega) (by omega))
  have hb' : ∀ c e : Nat, Deg c e → e ≤ 40 → c < 2 ^ 41 := fun c e h h1 => Nat.lt_of_lt_of_le h.1 (Nat.pow_le_pow_right (by omega) (by omega))
  refine ev_search hd hv hd' (fun k c => barscanref04_irreducible.l0 k (v : Int) (d : Int) c) ?_ ?_ ?_ (2 ^ (d + 1)) 2 (by omega) ?_ (by omega) ?_
  · intro c e h h4 he
    refine evs ?_
    simp only [barscanref04_irreducible.l0]
    refine Ev.bind (ev_deg h (by omega)) ?_
    simp only [hb c e h h4]
    exact evf (by omega) (Ev.now _)
  · intro c e h h1 he hr
    refine evs ?_
    simp only [barscanref04_irreducible.l0]
    refine Ev.bind (ev_deg h (by omega)) ?_
    simp only [hb c e h (by omega)]
    refine evt (by omega) ?_
    refine Ev.bind (ev_rest h h1 (by omega) hv40) ?_
    exact evt (by omega) (Ev.now _)
  · intro c e r h h1 he hr hg
    refine evs ?_
    have := hb' c e h (by omega)
    simp only [barscanref04_irreducible.l0]
    refine Ev.bind (ev_deg h (by omega)) ?_
    simp only [hb c e h (by omega)]
    refine evt (by omega) ?_
    refine Ev.bind (ev_rest h h1 (by omega) hv40) ?_
    refine evf (by omega) ?_
    rw [show wrap64 ((c : Int) + 1) = ((c + 1 : Nat) : Int) from w64 (by omega) (by omega)]
    exact hg
  · have := Nat.pow_le_pow_right (n := 2) (by omega) (show 1 ≤ d + 1 by omega)
    omega
  · intro q e hq h1 h2 _
    have := hq.le
    have := Nat.pow_le_pow_right (n := 2) (by omega) h1
    omega

/-! Primes. -/
theorem ref_prime_l (k : Nat) : ∀ x c, barscanref04_prime.l0 k x c = galois_prime.l0 k x c := by
  induction k with
  | zero => intros; rfl
  | succ k ih => intro x c; simp only [barscanref04_prime.l0, galois_prime.l0, ih]
theorem ref_prime (k : Nat) (x : Int) : barscanref04_prime.f k x = galois_prime.f k x := ref_prime_l k x 2
noncomputable def prB (p : Nat) : Bool := @decide (Pr p) (Classical.propDecidable _)
theorem prB_iff {p : Nat} : prB p = true ↔ Pr p := by unfold prB; exact @decide_eq_true_iff _ (Classical.propDecidable _)
theorem prB_false {p : Nat} (h : ¬ Pr p) : prB p = false := by
  cases e : prB p
  · rfl
  · exact absurd (prB_iff.1 e) h
theorem ev_prime_l {p : Nat} (hp : 2 ≤ p) (hp' : p ≤ 2 ^ 30) (n : Nat) : ∀ c : Nat, 2 ≤ c → c ≤ 2 ^ 16 → 2 ^ 16 ≤ c + n → (∀ q, 2 ≤ q → q < c → ¬ q ∣ p) → Ev (fun k => galois_prime.l0 k (p : Int) (c : Int)) (prB p) := by
  have done : ∀ c : Nat, p < c * c → c ≤ 2 ^ 16 → (∀ q, 2 ≤ q → q < c → ¬ q ∣ p) → Ev (fun k => galois_prime.l0 k (p : Int) (c : Int)) (prB p) := by
    intro c hc hc' hh
    refine evs ?_
    simp only [galois_prime.l0]
    have hcc : c * c ≤ 2 ^ 16 * 2 ^ 16 := Nat.mul_le_mul hc' hc'
    have w : wrap64 ((c : Int) * (c : Int)) = ((c * c : Nat) : Int) := by
      rw [← Int.natCast_mul]; exact w64 (by omega) (by omega)
    rw [w]
    refine evf (by omega) ?_
    refine evn ?_ (Ev.now _)
    rw [decide_eq_true (show (p : Int) ≥ 2 by omega)]
    refine (prB_iff.2 ⟨hp, fun d hd => ?_⟩).symm
    obtain ⟨e, he⟩ := hd
    have hd0 : d ≠ 0 := by rintro rfl; simp at he; omega
    have he0 : e ≠ 0 := by rintro rfl; simp at he; omega
    by_cases h1 : d = 1
    · exact .inl h1
    · right
      by_cases h2 : e = 1
      · subst h2; omega
      · exfalso
        have hdc : c ≤ d := by
          apply Decidable.byContradiction
          intro hn
          exact hh d (by omega) (by omega) ⟨e, he⟩
        have hec : c ≤ e := by
          apply Decidable.byContradiction
          intro hn
          exact hh e (by omega) (by omega) ⟨d, by rw [he, Nat.mul_comm]⟩
        have := Nat.mul_le_mul hdc hec
        omega
  induction n with
  | zero =>
    intro c h2 hc hn hh
    have : c = 65536 := by omega
    subst this
    exact done _ (by omega) (by omega) hh
  | succ n ih =>
    intro c h2 hc hn hh
    by_cases hlt : p < c * c
    · exact done c hlt hc hh
    · refine evs ?_
      simp only [galois_prime.l0]
      have hcc : c * c ≤ 2 ^ 16 * 2 ^ 16 := Nat.mul_le_mul hc hc
      have w : wrap64 ((c : Int) * (c : Int)) = ((c * c : Nat) : Int) := by
        rw [← Int.natCast_mul]; exact w64 (by omega) (by omega)
      have hm : Int.tmod (p : Int) (c : Int) = ((p % c : Nat) : Int) := (Int.ofNat_tmod p c).symm
      rw [w, hm]
      refine evt (by omega) (evf (by omega) ?_)
      by_cases hd : p % c = 0
      · refine evt (by omega) ?_
        refine evn (prB_false ?_).symm (Ev.now _)
        intro hpr
        have hle : c * 2 ≤ c * c := Nat.mul_le_mul_left c h2
        rcases hpr.2 c (Nat.dvd_of_mod_eq_zero hd) with h | h
        · omega
        · omega
      · refine evf (by omega) ?_
        rw [show wrap64 ((c : Int) + 1) = ((c + 1 : Nat) : Int) from w64 (by omega) (by omega)]
        refine ih (c + 1) (by omega) ?_ (by omega) ?_
        · apply Decidable.byContradiction
          intro hk
          have : c = 65536 := by omega
          subst this
          omega
        · intro q hq hqc hdv
          by_cases e : q = c
          · subst e; exact hd (Nat.mod_eq_zero_of_dvd hdv)
          · exact hh q hq (by omega) hdv
theorem ev_prime {p : Nat} (hp : 2 ≤ p) (hp' : p ≤ 2 ^ 30) : Ev (fun k => galois_prime.f k (p : Int)) (prB p) :=
  ev_prime_l hp hp' (2 ^ 16) 2 (by omega) (by omega) (by omega) (fun q h1 h2 _ => by omega)
end Go.Proofs.Ytlhaclammaaabaa.Pg
