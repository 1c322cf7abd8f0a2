import Derived.Test.YtlhaclammaaabaaB0
import Derived.Test.YtlhaclammaaabaaMat
import Derived.Laws.BitsLemmas
import Derived.Test.YtlhaclammaaabaaB1
import Derived.Test.YtlhaclammaaabaaHGen
/-! What the bit loops of the two galois packages compute. -/
namespace Go.Proofs.Ytlhaclammaaabaa.Pg
open Go.RowKit Go.Proofs.YtlhaclammaaabaaW.PrintWords Go.Proofs.YtlhaclammaaabaaW.PrintLast Go.Proofs.YtlhaclammaaabaaW.PrintMore
open Go.Proofs.Ytlhaclammaaabaa.Alg (Deg rem Irr cm Cong deg_of exists_deg rem_eq rem_lt rem_cong cong_shift xor_top Pr deg_unique)
set_option linter.unusedVariables false
set_option linter.unusedSimpArgs false

theorem evs {α : Type} {g : Nat → Option α} {r : α} (h : Ev (fun k => g (k + 1)) r) : Ev g r := Ev.step (fun _ => rfl) h
theorem evn {α : Type} {g : Nat → Option α} {r r' : α} (e : r = r') (h : Ev g r) : Ev g r' := e ▸ h
theorem evt {α : Type} {c : Prop} [Decidable c] {f g : Nat → Option α} {r : α} (hc : c) (h : Ev f r) : Ev (fun k => if c then f k else g k) r := by simp only [if_pos hc]; exact h
theorem evf {α : Type} {c : Prop} [Decidable c] {f g : Nat → Option α} {r : α} (hc : ¬ c) (h : Ev g r) : Ev (fun k => if c then f k else g k) r := by simp only [if_neg hc]; exact h
theorem w64 {x : Int} (h0 : -9223372036854775808 ≤ x) (h1 : x < 9223372036854775808) : wrap64 x = x := by unfold wrap64; omega
theorem wi64 {x : Int} (h0 : -9223372036854775808 ≤ x) (h1 : x < 9223372036854775808) : IntKind.i64.wrap x = x := by rw [IntKind.wrap_i64]; omega
theorem wu64 {x : Int} (h0 : 0 ≤ x) (h1 : x < 18446744073709551616) : IntKind.u64.wrap x = x := by
  simp [IntKind.wrap, IntKind.bits, IntKind.signed]
  omega
theorem bxor {a b : Nat} (ha : a < 2 ^ 62) (hb : b < 2 ^ 62) : Go.bits .xor .i64 (a : Int) (b : Int) = ((a ^^^ b : Nat) : Int) := by
  have ha' : a % 2 ^ 64 = a := Nat.mod_eq_of_lt (by omega)
  have hb' : b % 2 ^ 64 = b := Nat.mod_eq_of_lt (by omega)
  have hx : a ^^^ b < 2 ^ 62 := Nat.xor_lt_two_pow ha hb
  show IntKind.i64.wrap (((BitVec.ofInt 64 (a : Int) ^^^ BitVec.ofInt 64 (b : Int)).toNat : Nat) : Int) = _
  rw [BitVec.toNat_xor, BitVec.ofInt_natCast, BitVec.ofInt_natCast, BitVec.toNat_ofNat, BitVec.toNat_ofNat, ha', hb']
  exact wi64 (by omega) (by omega)
theorem band1 {a : Nat} (ha : a < 2 ^ 62) : Go.bits .and .i64 (a : Int) 1 = ((a % 2 : Nat) : Int) := by
  have h := (bits_nat .i64 62 (by decide) (fun n h0 h1 => wi64 (by omega) (by omega)) a 1 ha (by decide)).1
  rw [Nat.and_one_is_mod] at h
  exact h
theorem shlN {a n : Nat} (h : a * 2 ^ n < 2 ^ 62) (hn : n ≤ 64) : shl .i64 (a : Int) (n : Int) = ((a * 2 ^ n : Nat) : Int) := by
  unfold shl
  rw [show min ((n : Int)).toNat IntKind.i64.bits = n from by simp [IntKind.bits]; omega]
  rw [show (a : Int) * 2 ^ n = ((a * 2 ^ n : Nat) : Int) from by simp]
  exact wi64 (by omega) (by omega)
theorem shrN {a n : Nat} (hn : n ≤ 64) : shr .i64 (a : Int) (n : Int) = ((a / 2 ^ n : Nat) : Int) := by
  unfold shr
  rw [show min ((n : Int)).toNat IntKind.i64.bits = n from by simp [IntKind.bits]; omega]
  simp

/-- The number of the binary digits. -/
def blen (n : Nat) : Nat := if h : n = 0 then 0 else blen (n / 2) + 1
termination_by n
decreasing_by omega
theorem blen_zero : blen 0 = 0 := by rw [blen]; simp
theorem blen_pos {n : Nat} (h : n ≠ 0) : blen n = blen (n / 2) + 1 := by rw [blen, dif_neg h]
theorem blen_le {b : Nat} : ∀ {n : Nat}, n < 2 ^ b → blen n ≤ b := by
  induction b with
  | zero => intro n h; have : n = 0 := by omega
            subst this; rw [blen_zero]; omega
  | succ b ih =>
    intro n h
    by_cases h0 : n = 0
    · subst h0; rw [blen_zero]; omega
    · rw [blen_pos h0]
      have := ih (n := n / 2) (by rw [Nat.pow_succ] at h; omega)
      omega
theorem blen_deg {d : Nat} : ∀ {n : Nat}, Deg n d → blen n = d + 1 := by
  induction d with
  | zero =>
    intro n h
    have h1 := h.1
    have h2 := h.le
    have : n = 1 := by omega
    subst this
    rw [blen_pos (by omega), blen_zero]
  | succ d ih =>
    intro n h
    have h1 := h.1
    have h2 := h.le
    have hp := Nat.two_pow_pos d
    rw [Nat.pow_succ] at h1 h2
    rw [Nat.pow_succ] at h1
    rw [blen_pos (by omega), ih (n := n / 2) (deg_of (by omega) (by rw [Nat.pow_succ]; omega))]

theorem ev_length_l (b : Nat) : ∀ (n x : Nat), n < 2 ^ b → x + b < 2 ^ 62 → Ev (fun k => galois_length.l0 k (n : Int) (x : Int)) ((x + blen n : Nat) : Int) := by
  induction b with
  | zero =>
    intro n x h _
    have : n = 0 := by omega
    subst this
    refine evs ?_
    simp only [galois_length.l0, blen_zero]
    exact Ev.now _
  | succ b ih =>
    intro n x h hx
    refine evs ?_
    by_cases h0 : n = 0
    · subst h0
      simp only [galois_length.l0, blen_zero]
      exact Ev.now _
    · have hp : ((n : Nat) : Int) > 0 := by omega
      have h2 : wrap64 ((x : Int) + 1) = ((x + 1 : Nat) : Int) := by rw [w64 (by omega) (by omega)]; rfl
      have h3 : ((n : Nat) : Int) / 2 = ((n / 2 : Nat) : Int) := by omega
      simp only [galois_length.l0, if_pos hp, h2, h3]
      refine evn ?_ ((ih (n / 2) (x + 1) (by rw [Nat.pow_succ] at h; omega) (by omega)))
      rw [blen_pos h0]; congr 1; omega
theorem ev_length {n : Nat} (h : n < 2 ^ 63) : Ev (fun k => galois_length.f k (n : Int)) ((blen n : Nat) : Int) := by
  simp only [galois_length.f]
  refine evn ?_ ((ev_length_l 63 n 0 h (by omega)))
  rw [Nat.zero_add]
theorem ev_length_neg {n : Int} (h : n ≤ 0) : Ev (fun k => galois_length.f k n) 0 := by
  simp only [galois_length.f]
  refine evs ?_
  simp only [galois_length.l0]
  exact evf (by omega) (Ev.now _)

theorem ev_reduce_l {q e : Nat} (hq : Deg q e) (he : e ≤ 40) (b : Nat) : ∀ v : Nat, v < 2 ^ b → b ≤ 40 →
    Ev (fun k => galois_reduce.l0 k (v : Int) (q : Int) ((e + 1 : Nat) : Int) ((blen v : Nat) : Int)) ((rem q e v : Nat) : Int) := by
  have hqe := hq.1
  have small : ∀ v : Nat, blen v < e + 1 → Ev (fun k => galois_reduce.l0 k (v : Int) (q : Int) ((e + 1 : Nat) : Int) ((blen v : Nat) : Int)) ((rem q e v : Nat) : Int) := by
    intro v hv
    refine evs ?_
    have hn : ¬ ((blen v : Nat) : Int) ≥ ((e + 1 : Nat) : Int) := by omega
    simp only [galois_reduce.l0, if_neg hn]
    have hlt : v < 2 ^ e := by
      by_cases h0 : v = 0
      · subst h0; exact Nat.two_pow_pos e
      · obtain ⟨m, hm⟩ := exists_deg h0
        rw [blen_deg hm] at hv
        exact Nat.lt_of_lt_of_le hm.1 (Nat.pow_le_pow_right (by omega) (by omega))
    rw [rem_eq hq hlt (.refl _ _)]
    exact Ev.now _
  induction b with
  | zero =>
    intro v hv _
    have : v = 0 := by omega
    subst this
    exact small 0 (by rw [blen_zero]; omega)
  | succ b ih =>
    intro v hv hb
    by_cases hs : blen v < e + 1
    · exact small v hs
    · have h0 : v ≠ 0 := by rintro rfl; rw [blen_zero] at hs; omega
      obtain ⟨m, hm⟩ := exists_deg h0
      have hbm := blen_deg hm
      have hml : m ≤ b := by
        apply Decidable.byContradiction
        intro hn
        have := Nat.pow_le_pow_right (n := 2) (by omega) (show b + 1 ≤ m by omega)
        have := hm.le
        omega
      refine evs ?_
      have c1 : ((blen v : Nat) : Int) ≥ ((e + 1 : Nat) : Int) := by omega
      have c2 : wrap64 (((blen v : Nat) : Int) - ((e + 1 : Nat) : Int)) = ((m - e : Nat) : Int) := by rw [w64 (by omega) (by omega)]; omega
      have c3 : (0 : Int) ≤ ((m - e : Nat) : Int) := by omega
      have hqs : Deg (q * 2 ^ (m - e)) m := by
        rw [← Alg.cm_pow]
        have := Alg.deg_cm hq (deg_of (d := m - e) (Nat.le_refl _) (Nat.pow_lt_pow_right (by omega) (by omega)))
        rwa [show e + (m - e) = m from by omega] at this
      have l1 : (2 : Nat) ^ (m + 1) ≤ 2 ^ 41 := Nat.pow_le_pow_right (by omega) (by omega)
      have c4 : shl .i64 (q : Int) ((m - e : Nat) : Int) = ((q * 2 ^ (m - e) : Nat) : Int) := shlN (by have := hqs.1; omega) (by omega)
      have c5 : Go.bits .xor .i64 (v : Int) ((q * 2 ^ (m - e) : Nat) : Int) = ((v ^^^ q * 2 ^ (m - e) : Nat) : Int) := bxor (by have := hm.1; omega) (by have := hqs.1; omega)
      simp only [galois_reduce.l0, if_pos c1, c2, if_pos c3, c4, c5]
      have hlt : v ^^^ q * 2 ^ (m - e) < 2 ^ m := xor_top hm.1 hqs.1 (by rw [hm.2, hqs.2])
      have l2 : (2 : Nat) ^ m ≤ 2 ^ b := Nat.pow_le_pow_right (by omega) hml
      have l3 : (2 : Nat) ^ b ≤ 2 ^ 40 := Nat.pow_le_pow_right (by omega) (by omega)
      refine Ev.bind (ev_length (by omega)) ?_
      refine evn ?_ ((ih _ (by omega) (by omega)))
      rw [rem_eq hq (rem_lt hq v) ((cong_shift q v (m - e)).symm.trans (rem_cong hq v))]
theorem ev_reduce {q e v : Nat} (hq : Deg q e) (he : e ≤ 40) (hv : v < 2 ^ 40) : Ev (fun k => galois_reduce.f k (v : Int) (q : Int)) ((rem q e v : Nat) : Int) := by
  simp only [galois_reduce.f]
  have l1 : (2 : Nat) ^ (e + 1) ≤ 2 ^ 41 := Nat.pow_le_pow_right (by omega) (by omega)
  have hqe := hq.1
  refine Ev.bind (ev_length (by omega)) ?_
  refine Ev.bind (ev_length (by omega)) ?_
  rw [blen_deg hq]
  exact ev_reduce_l hq he 40 v hv (by omega)

noncomputable def irrB (v d : Nat) : Bool := @decide (Irr v d) (Classical.propDecidable _)
theorem irrB_iff {v d : Nat} : irrB v d = true ↔ Irr v d := by unfold irrB; exact @decide_eq_true_iff _ (Classical.propDecidable _)
theorem irrB_false {v d : Nat} (h : ¬ Irr v d) : irrB v d = false := by
  cases e : irrB v d
  · rfl
  · exact absurd (irrB_iff.1 e) h
theorem rem_zero {q e v : Nat} (hq : Deg q e) : rem q e v = 0 ↔ ∃ s, cm q s = v := by
  constructor
  · intro h
    obtain ⟨s, hs⟩ := rem_cong hq v
    rw [h, Nat.xor_zero] at hs
    exact ⟨s, hs.symm⟩
  · rintro ⟨s, rfl⟩
    exact rem_eq hq (Nat.two_pow_pos e) ⟨s, Nat.xor_zero _⟩
theorem irr_of {v d : Nat} (hd : 1 ≤ d) (hv : Deg v d) (h : ∀ q e, Deg q e → 1 ≤ e → 2 * e ≤ d → rem q e v ≠ 0) : Irr v d :=
  ⟨hd, hv, fun q e hq h1 h2 s hs => h q e hq h1 h2 ((rem_zero hq).2 ⟨s, hs⟩)⟩

/-- The two searches for a divisor, alike. -/
theorem ev_search {v d : Nat} (hd : 1 ≤ d) (hv : Deg v d) (hd' : d ≤ 30) (L : Nat → Int → Option Bool)
    (stop : ∀ c e : Nat, Deg c e → e ≤ 40 → d < 2 * e → Ev (fun k => L k (c : Int)) true)
    (hit : ∀ c e : Nat, Deg c e → 1 ≤ e → 2 * e ≤ d → rem c e v = 0 → Ev (fun k => L k (c : Int)) false)
    (go : ∀ c e : Nat, ∀ r, Deg c e → 1 ≤ e → 2 * e ≤ d → rem c e v ≠ 0 → Ev (fun k => L k ((c + 1 : Nat) : Int)) r → Ev (fun k => L k (c : Int)) r)
    (n : Nat) : ∀ c : Nat, 2 ≤ c → c ≤ 2 ^ (d + 1) → 2 ^ (d + 1) ≤ c + n → (∀ q e, Deg q e → 1 ≤ e → q < c → 2 * e ≤ d → rem q e v ≠ 0) → Ev (fun k => L k (c : Int)) (irrB v d) := by
  have done : ∀ c e : Nat, Deg c e → e ≤ 40 → d < 2 * e → (∀ q e, Deg q e → 1 ≤ e → q < c → 2 * e ≤ d → rem q e v ≠ 0) → Ev (fun k => L k (c : Int)) (irrB v d) := by
    intro c e hc h4 he hh
    refine evn ?_ ((stop c e hc h4 he))
    refine (irrB_iff.2 (irr_of hd hv fun q f hq h1 h2 => hh q f hq h1 ?_ h2)).symm
    have h3 := Nat.pow_le_pow_right (n := 2) (by omega) (show f + 1 ≤ e by omega)
    have h4 := hc.le
    have h5 := hq.1
    omega
  induction n with
  | zero =>
    intro c h2 hc hn hh
    have h1 : c = 2 ^ (d + 1) := by omega
    have hcd : Deg c (d + 1) := deg_of (by omega) (by rw [h1]; exact Nat.pow_lt_pow_right (by omega) (by omega))
    exact done c (d + 1) hcd (by omega) (by omega) hh
  | succ n ih =>
    intro c h2 hc hn hh
    obtain ⟨e, he⟩ := exists_deg (show c ≠ 0 by omega)
    have he1 : e ≤ d + 1 := by
      apply Decidable.byContradiction
      intro hk
      have := Nat.pow_lt_pow_right (a := 2) (by omega) (show d + 1 < e by omega)
      have := he.le
      omega
    by_cases h4 : 2 * e ≤ d
    · have e0 : 1 ≤ e := by
        rcases Nat.eq_zero_or_pos e with h | h
        · subst h
          have := he.1
          omega
        · exact h
      have hlt : c < 2 ^ (d + 1) := Nat.lt_of_lt_of_le he.1 (Nat.pow_le_pow_right (by omega) (by omega))
      by_cases hr : rem c e v = 0
      · refine evn (irrB_false ?_).symm (hit c e he e0 h4 hr)
        intro hi
        obtain ⟨s, hs⟩ := (rem_zero he).1 hr
        exact hi.2.2 c e he e0 h4 s hs
      · refine go c e _ he e0 h4 hr (ih (c + 1) (by omega) (by omega) (by omega) ?_)
        intro q f hq h1 hqc h2
        by_cases hqe : q = c
        · subst hqe
          rw [deg_unique hq he]
          exact hr
        · exact hh q f hq h1 (by omega) h2
    · exact done c e he (by omega) (by omega) hh

theorem ev_irreducible {v d : Nat} (hd : 1 ≤ d) (hv : Deg v d) (hd' : d ≤ 30) : Ev (fun k => galois_irreducible.f k (v : Int)) (irrB v d) := by
  have l1 : (2 : Nat) ^ (d + 1) ≤ 2 ^ 31 := Nat.pow_le_pow_right (by omega) (by omega)
  have hv1 := hv.1
  simp only [galois_irreducible.f]
  refine Ev.bind (ev_length (by omega)) ?_
  have e1 : wrap64 (((blen v : Nat) : Int) - 1) = (d : Int) := by rw [blen_deg hv, w64 (by omega) (by omega)]; omega
  have e2 : ¬ (d : Int) < 1 := by omega
  simp only [e1, if_neg e2]
  have hde : ∀ c e : Nat, Deg c e → e ≤ 40 → wrap64 (2 * wrap64 (((blen c : Nat) : Int) - 1)) = ((2 * e : Nat) : Int) := by
    intro c e h h1
    rw [blen_deg h, w64 (x := ((e + 1 : Nat) : Int) - 1) (by omega) (by omega), w64 (by omega) (by omega)]; omega
  have hb : ∀ c e : Nat, Deg c e → e ≤ 40 → c < 2 ^ 41 := fun c e h h1 => Nat.lt_of_lt_of_le h.1 (Nat.pow_le_pow_right (by omega) (by omega))
  refine ev_search hd hv hd' (fun k c => galois_irreducible.l0 k (v : Int) (d : Int) c) ?_ ?_ ?_ (2 ^ (d + 1)) 2 (by omega) ?_ (by omega) ?_
  · intro c e h h4 he
    refine evs ?_
    simp only [galois_irreducible.l0]
    refine Ev.bind (ev_length (by have := hb c e h h4; omega)) ?_
    simp only [hde c e h h4]
    exact evf (by omega) (Ev.now _)
  · intro c e h h1 he hr
    refine evs ?_
    simp only [galois_irreducible.l0]
    refine Ev.bind (ev_length (by have := hb c e h (by omega); omega)) ?_
    simp only [hde c e h (by omega)]
    refine evt (by omega) ?_
    refine Ev.bind (ev_reduce h (by omega) (by omega)) ?_
    exact evt (by omega) (Ev.now _)
  · intro c e r h h1 he hr hg
    refine evs ?_
    have := hb c e h (by omega)
    simp only [galois_irreducible.l0]
    refine Ev.bind (ev_length (by omega)) ?_
    simp only [hde c e h (by omega)]
    refine evt (by omega) ?_
    refine Ev.bind (ev_reduce h (by omega) (by omega)) ?_
    refine evf (by omega) ?_
    rw [show wrap64 ((c : Int) + 1) = ((c + 1 : Nat) : Int) from w64 (by omega) (by omega)]
    exact hg
  · have := Nat.pow_le_pow_right (n := 2) (by omega) (show 1 ≤ d + 1 by omega)
    omega
  · intro q e hq h1 h2 _
    have := hq.le
    have := Nat.pow_le_pow_right (n := 2) (by omega) h1
    omega

/-! The reference. -/
theorem ev_degree_l (b : Nat) : ∀ (n : Nat) (x : Int), n < 2 ^ b → b ≤ 63 → -1 ≤ x → x + b < 2 ^ 62 → Ev (fun k => barscanref04_degree.l0 k (n : Int) x) (x + (blen n : Int)) := by
  induction b with
  | zero =>
    intro n x h _ _ _
    have : n = 0 := by omega
    subst this
    refine evs ?_
    simp only [barscanref04_degree.l0, blen_zero]
    refine evf (by omega) ?_
    exact evn (by omega) (Ev.now _)
  | succ b ih =>
    intro n x h hb hx0 hx
    refine evs ?_
    simp only [barscanref04_degree.l0]
    by_cases h0 : n = 0
    · subst h0
      refine evf (by omega) ?_
      rw [blen_zero]
      exact evn (by omega) (Ev.now _)
    · refine evt (by omega) ?_
      have h2 : wrap64 (x + 1) = x + 1 := w64 (by omega) (by omega)
      have l1 : (2 : Nat) ^ (b + 1) ≤ 2 ^ 63 := Nat.pow_le_pow_right (by omega) hb
      have h3 : wrap64 (Int.tdiv ((n : Nat) : Int) 2) = ((n / 2 : Nat) : Int) := by
        rw [show (2 : Int) = ((2 : Nat) : Int) from rfl, ← Int.ofNat_tdiv, w64 (by omega) (by omega)]
      rw [h2, h3]
      refine evn ?_ (ih (n / 2) (x + 1) (by rw [Nat.pow_succ] at h; omega) (by omega) (by omega) (by omega))
      rw [blen_pos h0]; omega
theorem ev_degree {n : Nat} (h : n < 2 ^ 63) : Ev (fun k => barscanref04_degree.f k (n : Int)) ((blen n : Int) - 1) := by
  simp only [barscanref04_degree.f]
  exact evn (by omega) (ev_degree_l 63 n (-1) h (by omega) (by omega) (by omega))
theorem ev_degree_neg {n : Int} (h : n ≤ 0) : Ev (fun k => barscanref04_degree.f k n) (-1) := by
  simp only [barscanref04_degree.f]
  refine evs ?_
  simp only [barscanref04_degree.l0]
  exact evf (by omega) (Ev.now _)
theorem ev_deg {n d : Nat} (h : Deg n d) (hd : d ≤ 62) : Ev (fun k => barscanref04_degree.f k (n : Int)) (d : Int) := by
  have l1 : (2 : Nat) ^ (d + 1) ≤ 2 ^ 63 := Nat.pow_le_pow_right (by omega) (by omega)
  have h1 := h.1
  refine evn ?_ (ev_degree (by omega))
  rw [blen_deg h]; omega

theorem ev_rest_l {q e : Nat} (hq : Deg q e) (he : 1 ≤ e) (he' : e ≤ 40) (b : Nat) : ∀ v : Nat, v < 2 ^ b → b ≤ 40 →
    Ev (fun k => barscanref04_rest.l0 k (v : Int) (q : Int) (e : Int) ((b : Int) - 1)) ((rem q e v : Nat) : Int) := by
  have small : ∀ b v : Nat, v < 2 ^ b → b ≤ e → Ev (fun k => barscanref04_rest.l0 k (v : Int) (q : Int) (e : Int) ((b : Int) - 1)) ((rem q e v : Nat) : Int) := by
    intro b v hv hb
    refine evs ?_
    simp only [barscanref04_rest.l0]
    refine evf (by omega) ?_
    have hlt : v < 2 ^ e := Nat.lt_of_lt_of_le hv (Nat.pow_le_pow_right (by omega) hb)
    rw [rem_eq hq hlt (.refl _ _)]
    exact Ev.now _
  induction b with
  | zero =>
    intro v hv _
    exact small 0 v hv (by omega)
  | succ b ih =>
    intro v hv hb
    by_cases hs : b + 1 ≤ e
    · exact small (b + 1) v hv hs
    · rw [show (((b + 1 : Nat) : Int) - 1) = (b : Int) from by omega]
      have l1 : (2 : Nat) ^ (b + 1) ≤ 2 ^ 41 := Nat.pow_le_pow_right (by omega) (by omega)
      have u1 : IntKind.u64.wrap ((b : Nat) : Int) = (b : Int) := wu64 (by omega) (by omega)
      have u2 : IntKind.u64.wrap (wrap64 ((b : Int) - (e : Int))) = ((b - e : Nat) : Int) := by rw [w64 (by omega) (by omega), wu64 (by omega) (by omega)]; omega
      have u3 : wrap64 ((b : Int) - 1) = (b : Int) - 1 := w64 (by omega) (by omega)
      have u4 : Go.bits .and .i64 (shr .i64 (v : Int) (b : Int)) 1 = ((v / 2 ^ b % 2 : Nat) : Int) := by
        rw [shrN (by omega)]
        have : v / 2 ^ b ≤ v := Nat.div_le_self _ _
        exact band1 (by omega)
      refine evs ?_
      simp only [barscanref04_rest.l0, u1, u2, u3, u4]
      refine evt (by omega) (evt (by omega) ?_)
      have htb : v.testBit b = decide (v / 2 ^ b % 2 = 1) := Nat.testBit_eq_decide_div_mod_eq
      by_cases hbit : v / 2 ^ b % 2 = 1
      · refine evt (by omega) (evt (by omega) ?_)
        have hqs : Deg (q * 2 ^ (b - e)) b := by
          rw [← Alg.cm_pow]
          have := Alg.deg_cm hq (deg_of (d := b - e) (Nat.le_refl _) (Nat.pow_lt_pow_right (by omega) (by omega)))
          rwa [show e + (b - e) = b from by omega] at this
        have c4 : shl .i64 (q : Int) ((b - e : Nat) : Int) = ((q * 2 ^ (b - e) : Nat) : Int) := shlN (by have := hqs.1; omega) (by omega)
        have c5 : Go.bits .xor .i64 (v : Int) ((q * 2 ^ (b - e) : Nat) : Int) = ((v ^^^ q * 2 ^ (b - e) : Nat) : Int) := bxor (by omega) (by have := hqs.1; omega)
        rw [c4, c5]
        have hlt : v ^^^ q * 2 ^ (b - e) < 2 ^ b := xor_top hv hqs.1 (by rw [htb, hqs.2, decide_eq_true hbit])
        refine evn ?_ (ih _ hlt (by omega))
        rw [rem_eq hq (rem_lt hq v) ((cong_shift q v (b - e)).symm.trans (rem_cong hq v))]
      · refine evf (by omega) ?_
        refine ih _ ?_ (by omega)
        have h1 : v / 2 ^ b < 2 := by rw [Nat.pow_succ] at hv; exact Nat.div_lt_of_lt_mul (by omega)
        have h2 : v / 2 ^ b = 0 := by revert h1 hbit; generalize v / 2 ^ b = t; intro h1 hbit; omega
        rcases Nat.div_eq_zero_iff.1 h2 with h3 | h3
        · have := Nat.two_pow_pos b; omega
        · exact h3
theorem ev_rest {q e v : Nat} (hq : Deg q e) (he : 1 ≤ e) (he' : e ≤ 40) (hv : v < 2 ^ 40) : Ev (fun k => barscanref04_rest.f k (v : Int) (q : Int)) ((rem q e v : Nat) : Int) := by
  simp only [barscanref04_rest.f]
  refine Ev.bind (ev_deg hq (by omega)) ?_
  refine Ev.bind (ev_degree (by omega)) ?_
  refine ev_rest_l hq he he' (blen v) v ?_ (blen_le hv)
  by_cases h0 : v = 0
  · subst h0; rw [blen_zero]; omega
  · obtain ⟨m, hm⟩ := exists_deg h0
    rw [blen_deg hm]; exact hm.1

theorem ev_irreducible' {v d : Nat} (hd : 1 ≤ d) (hv : Deg v d) (hd' : d ≤ 30) : Ev (fun k => barscanref04_irreducible.f k (v : Int) (d : Int)) (irrB v d) := by
  simp only [barscanref04_irreducible.f]
  refine evf (by omega) ?_
  refine Ev.bind (ev_deg hv (by omega)) ?_
  refine evs ?_
  simp only [barscanref04_irreducible.j0, bne_self_eq_false]
  refine evf (by simp) ?_
  have hb : ∀ c e : Nat, Deg c e → e ≤ 40 → wrap64 (2 * (e : Int)) = ((2 * e : Nat) : Int) := fun c e h h1 => by rw [w64 (by omega) (by omega)]; omega
  have hv40 : v < 2 ^ 40 := Nat.lt_of_lt_of_le hv.1 (Nat.pow_le_pow_right (by omega) (by omega))
  have hb' : ∀ c e : Nat, Deg c e → e ≤ 40 → c < 2 ^ 41 := fun c e h h1 => Nat.lt_of_lt_of_le h.1 (Nat.pow_le_pow_right (by omega) (by omega))
  refine ev_search hd hv hd' (fun k c => barscanref04_irreducible.l0 k (v : Int) (d : Int) c) ?_ ?_ ?_ (2 ^ (d + 1)) 2 (by omega) ?_ (by omega) ?_
  · intro c e h h4 he
    refine evs ?_
    simp only [barscanref04_irreducible.l0]
    refine Ev.bind (ev_deg h (by omega)) ?_
    simp only [hb c e h h4]
    exact evf (by omega) (Ev.now _)
  · intro c e h h1 he hr
    refine evs ?_
    simp only [barscanref04_irreducible.l0]
    refine Ev.bind (ev_deg h (by omega)) ?_
    simp only [hb c e h (by omega)]
    refine evt (by omega) ?_
    refine Ev.bind (ev_rest h h1 (by omega) hv40) ?_
    exact evt (by omega) (Ev.now _)
  · intro c e r h h1 he hr hg
    refine evs ?_
    have := hb' c e h (by omega)
    simp only [barscanref04_irreducible.l0]
    refine Ev.bind (ev_deg h (by omega)) ?_
    simp only [hb c e h (by omega)]
    refine evt (by omega) ?_
    refine Ev.bind (ev_rest h h1 (by omega) hv40) ?_
    refine evf (by omega) ?_
    rw [show wrap64 ((c : Int) + 1) = ((c + 1 : Nat) : Int) from w64 (by omega) (by omega)]
    exact hg
  · have := Nat.pow_le_pow_right (n := 2) (by omega) (show 1 ≤ d + 1 by omega)
    omega
  · intro q e hq h1 h2 _
    have := hq.le
    have := Nat.pow_le_pow_right (n := 2) (by omega) h1
    omega

/-! Primes. -/
theorem ref_prime_l (k : Nat) : ∀ x c, barscanref04_prime.l0 k x c = galois_prime.l0 k x c := by
  induction k with
  | zero => intros; rfl
  | succ k ih => intro x c; simp only [barscanref04_prime.l0, galois_prime.l0, ih]
theorem ref_prime (k : Nat) (x : Int) : barscanref04_prime.f k x = galois_prime.f k x := ref_prime_l k x 2
noncomputable def prB (p : Nat) : Bool := @decide (Pr p) (Classical.propDecidable _)
theorem prB_iff {p : Nat} : prB p = true ↔ Pr p := by unfold prB; exact @decide_eq_true_iff _ (Classical.propDecidable _)
theorem prB_false {p : Nat} (h : ¬ Pr p) : prB p = false := by
  cases e : prB p
  · rfl
  · exact absurd (prB_iff.1 e) h
theorem ev_prime_l {p : Nat} (hp : 2 ≤ p) (hp' : p ≤ 2 ^ 30) (n : Nat) : ∀ c : Nat, 2 ≤ c → c ≤ 2 ^ 16 → 2 ^ 16 ≤ c + n → (∀ q, 2 ≤ q → q < c → ¬ q ∣ p) → Ev (fun k => galois_prime.l0 k (p : Int) (c : Int)) (prB p) := by
  have done : ∀ c : Nat, p < c * c → c ≤ 2 ^ 16 → (∀ q, 2 ≤ q → q < c → ¬ q ∣ p) → Ev (fun k => galois_prime.l0 k (p : Int) (c : Int)) (prB p) := by
    intro c hc hc' hh
    refine evs ?_
    simp only [galois_prime.l0]
    have hcc : c * c ≤ 2 ^ 16 * 2 ^ 16 := Nat.mul_le_mul hc' hc'
    have w : wrap64 ((c : Int) * (c : Int)) = ((c * c : Nat) : Int) := by
      rw [← Int.natCast_mul]; exact w64 (by omega) (by omega)
    rw [w]
    refine evf (by omega) ?_
    refine evn ?_ (Ev.now _)
    rw [decide_eq_true (show (p : Int) ≥ 2 by omega)]
    refine (prB_iff.2 ⟨hp, fun d hd => ?_⟩).symm
    obtain ⟨e, he⟩ := hd
    have hd0 : d ≠ 0 := by rintro rfl; simp at he; omega
    have he0 : e ≠ 0 := by rintro rfl; simp at he; omega
    by_cases h1 : d = 1
    · exact .inl h1
    · right
      by_cases h2 : e = 1
      · subst h2; omega
      · exfalso
        have hdc : c ≤ d := by
          apply Decidable.byContradiction
          intro hn
          exact hh d (by omega) (by omega) ⟨e, he⟩
        have hec : c ≤ e := by
          apply Decidable.byContradiction
          intro hn
          exact hh e (by omega) (by omega) ⟨d, by rw [he, Nat.mul_comm]⟩
        have := Nat.mul_le_mul hdc hec
        omega
  induction n with
  | zero =>
    intro c h2 hc hn hh
    have : c = 65536 := by omega
    subst this
    exact done _ (by omega) (by omega) hh
  | succ n ih =>
    intro c h2 hc hn hh
    by_cases hlt : p < c * c
    · exact done c hlt hc hh
    · refine evs ?_
      simp only [galois_prime.l0]
      have hcc : c * c ≤ 2 ^ 16 * 2 ^ 16 := Nat.mul_le_mul hc hc
      have w : wrap64 ((c : Int) * (c : Int)) = ((c * c : Nat) : Int) := by
        rw [← Int.natCast_mul]; exact w64 (by omega) (by omega)
      have hm : Int.tmod (p : Int) (c : Int) = ((p % c : Nat) : Int) := (Int.ofNat_tmod p c).symm
      rw [w, hm]
      refine evt (by omega) (evf (by omega) ?_)
      by_cases hd : p % c = 0
      · refine evt (by omega) ?_
        refine evn (prB_false ?_).symm (Ev.now _)
        intro hpr
        have hle : c * 2 ≤ c * c := Nat.mul_le_mul_left c h2
        rcases hpr.2 c (Nat.dvd_of_mod_eq_zero hd) with h | h
        · omega
        · omega
      · refine evf (by omega) ?_
        rw [show wrap64 ((c : Int) + 1) = ((c + 1 : Nat) : Int) from w64 (by omega) (by omega)]
        refine ih (c + 1) (by omega) ?_ (by omega) ?_
        · apply Decidable.byContradiction
          intro hk
          have : c = 65536 := by omega
          subst this
          omega
        · intro q hq hqc hdv
          by_cases e : q = c
          · subst e; exact hd (Nat.mod_eq_zero_of_dvd hdv)
          · exact hh q hq (by omega) hdv
theorem ev_prime {p : Nat} (hp : 2 ≤ p) (hp' : p ≤ 2 ^ 30) : Ev (fun k => galois_prime.f k (p : Int)) (prB p) :=
  ev_prime_l hp hp' (2 ^ 16) 2 (by omega) (by omega) (by omega) (fun q h1 h2 _ => by omega)
end Go.Proofs.Ytlhaclammaaabaa.Pg

/-! Which fields the two packages take. -/
namespace Go.Proofs.Ytlhaclammaaabaa.Pg
open Go.RowKit Go.Proofs.YtlhaclammaaabaaW.PrintWords Go.Proofs.YtlhaclammaaabaaW.PrintLast Go.Proofs.YtlhaclammaaabaaW.PrintMore
open Go.Proofs.Ytlhaclammaaabaa.Alg (Deg rem Irr cm Cong deg_of exists_deg rem_eq rem_lt rem_cong cong_shift xor_top Pr deg_unique)
set_option linter.unusedVariables false
set_option linter.unusedSimpArgs false

theorem shl1 {d : Nat} (hd : d ≤ 40) : shl .i64 1 (d : Int) = ((2 ^ d : Nat) : Int) := by
  have l1 : (2 : Nat) ^ d ≤ 2 ^ 40 := Nat.pow_le_pow_right (by omega) (by omega)
  have := shlN (a := 1) (n := d) (by omega) (by omega)
  rw [Nat.one_mul] at this
  exact this
theorem shl2 {d : Nat} (hd : d ≤ 40) : shl .i64 2 (d : Int) = ((2 ^ (d + 1) : Nat) : Int) := by
  have l1 : (2 : Nat) ^ (d + 1) ≤ 2 ^ 41 := Nat.pow_le_pow_right (by omega) (by omega)
  have := shlN (a := 2) (n := d) (by rw [Nat.pow_succ] at l1; omega) (by omega)
  rw [Nat.mul_comm, ← Nat.pow_succ] at this
  exact this

/-- What Binary answers at a degree that it takes. -/
noncomputable def binS (d : Nat) (p : Int) : Int × Int × Int × Int :=
  @ite _ (∃ q : Nat, p = q ∧ Irr q d) (Classical.propDecidable _) (2, ((2 ^ d : Nat) : Int), p, 0) (0, 0, 0, 38)
theorem binS_irr {d q : Nat} (h : Irr q d) : binS d (q : Int) = (2, ((2 ^ d : Nat) : Int), (q : Int), 0) := by
  unfold binS; rw [if_pos ⟨q, rfl, h⟩]
theorem binS_not {d : Nat} {p : Int} (h : ∀ q : Nat, p = q → ¬ Irr q d) : binS d p = (0, 0, 0, 38) := by
  unfold binS; rw [if_neg (fun ⟨q, e, i⟩ => h q e i)]
theorem ev_Binary_in {d : Nat} (h1 : 1 ≤ d) (h2 : d ≤ 12) (p : Int) : Ev (fun k => galois_Binary.f k (d : Int) p) (binS d p) := by
  simp only [galois_Binary.f]
  refine evf (by omega) ?_
  refine evs ?_
  simp only [galois_Binary.j0]
  refine evf (by simp; omega) (evt (by omega) ?_)
  rw [shl1 (by omega), shl2 (by omega)]
  by_cases c1 : p < ((2 ^ d : Nat) : Int)
  · refine evt c1 (evn (binS_not ?_).symm (Ev.now _))
    rintro q rfl hi
    have := hi.2.1.le
    omega
  · refine evf c1 ?_
    by_cases c2 : p ≥ ((2 ^ (d + 1) : Nat) : Int)
    · refine evt c2 (evn (binS_not ?_).symm (Ev.now _))
      rintro q rfl hi
      have := hi.2.1.1
      omega
    · refine evf c2 ?_
      obtain ⟨q, rfl⟩ : ∃ q : Nat, p = q := ⟨p.toNat, by omega⟩
      have hq : Deg q d := deg_of (by omega) (by omega)
      refine Ev.bind (ev_irreducible h1 hq (by omega)) ?_
      by_cases hi : Irr q d
      · rw [irrB_iff.2 hi]
        exact evt rfl (evn (binS_irr hi).symm (Ev.now _))
      · rw [irrB_false hi]
        refine evf (by simp) (evn (binS_not ?_).symm (Ev.now _))
        intro q' e
        have : q = q' := by omega
        exact this ▸ hi
theorem ev_Binary_out {m p : Int} (h : m < 1 ∨ 12 < m) : Ev (fun k => galois_Binary.f k m p) (0, 0, 0, 3) := by
  simp only [galois_Binary.f]
  by_cases c : m < 1
  · refine evt c (evs ?_)
    simp only [galois_Binary.j0]
    exact evt (by simp) (Ev.now _)
  · refine evf c (evs ?_)
    simp only [galois_Binary.j0]
    exact evt (by simp; omega) (Ev.now _)
theorem rBinary_in {d : Nat} (h1 : 1 ≤ d) (h2 : d ≤ 12) (p : Int) : Ev (fun k => barscanref04_Binary.f k (d : Int) p) (binS d p) := by
  simp only [barscanref04_Binary.f]
  refine evf (by omega) ?_
  refine evs ?_
  have u1 : IntKind.u64.wrap (wrap64 ((d : Int) + 1)) = ((d + 1 : Nat) : Int) := by rw [w64 (by omega) (by omega), wu64 (by omega) (by omega)]; rfl
  have u2 : IntKind.u64.wrap (d : Int) = (d : Int) := wu64 (by omega) (by omega)
  simp only [barscanref04_Binary.j0, u1, u2]
  refine evf (by simp; omega) (evt (by omega) ?_)
  rw [shl1 (by omega), shl1 (by omega)]
  by_cases c2 : p ≥ ((2 ^ (d + 1) : Nat) : Int)
  · refine evt c2 (evn (binS_not ?_).symm (Ev.now _))
    rintro q rfl hi
    have := hi.2.1.1
    omega
  · refine evf c2 ?_
    have hneg : (∀ q : Nat, p = q → ¬ Deg q d) → binS d p = (0, 0, 0, 38) := fun h => binS_not fun q e i => h q e i.2.1
    by_cases c0 : p < 0
    · refine Ev.bind (a := false) ?_ ?_
      · simp only [barscanref04_irreducible.f]
        refine evt c0 (evs ?_)
        simp only [barscanref04_irreducible.j0]
        exact evt (by simp) (Ev.now _)
      · refine evf (by simp) (evn (hneg ?_).symm (Ev.now _))
        rintro q rfl _
        omega
    · obtain ⟨q, rfl⟩ : ∃ q : Nat, p = q := ⟨p.toNat, by omega⟩
      by_cases hq : Deg q d
      · refine Ev.bind (ev_irreducible' h1 hq (by omega)) ?_
        by_cases hi : Irr q d
        · rw [irrB_iff.2 hi]
          exact evt rfl (evt (by omega) (evn (binS_irr hi).symm (Ev.now _)))
        · rw [irrB_false hi]
          refine evf (by simp) (evn (binS_not ?_).symm (Ev.now _))
          intro q' e
          have : q = q' := by omega
          exact this ▸ hi
      · have l1 : (2 : Nat) ^ (d + 1) ≤ 2 ^ 13 := Nat.pow_le_pow_right (by omega) (by omega)
        refine Ev.bind (a := false) ?_ ?_
        · simp only [barscanref04_irreducible.f]
          refine evf (by omega) ?_
          refine Ev.bind (ev_degree (by omega)) ?_
          refine evs ?_
          simp only [barscanref04_irreducible.j0]
          refine evt ?_ (Ev.now _)
          rw [bne_iff_ne]
          intro e
          apply hq
          by_cases h0 : q = 0
          · subst h0
            rw [blen_zero] at e
            omega
          · obtain ⟨m, hm⟩ := exists_deg h0
            rw [blen_deg hm] at e
            have : m = d := by omega
            exact this ▸ hm
        · refine evf (by simp) (evn (hneg ?_).symm (Ev.now _))
          intro q' e
          have : q = q' := by omega
          exact this ▸ hq
theorem rBinary_out {m p : Int} (h : m < 1 ∨ 12 < m) : Ev (fun k => barscanref04_Binary.f k m p) (0, 0, 0, 3) := by
  simp only [barscanref04_Binary.f]
  by_cases c : m < 1
  · refine evt c (evs ?_)
    simp only [barscanref04_Binary.j0]
    exact evt (by simp) (Ev.now _)
  · refine evf c (evs ?_)
    simp only [barscanref04_Binary.j0]
    exact evt (by simp; omega) (Ev.now _)
theorem irr_two : Irr 2 1 := ⟨by omega, ⟨by decide, by decide⟩, fun q e _ h1 h2 => by omega⟩

theorem ev_Prime_out {p : Int} (h : p < 2 ∨ 4096 < p) : Ev (fun k => galois_Prime.f k p) (0, 0, 0, 3) := by
  simp only [galois_Prime.f]
  by_cases c : p < 2
  · refine evt c (evs ?_)
    simp only [galois_Prime.j0]
    exact evt (by simp) (Ev.now _)
  · refine evf c (evs ?_)
    simp only [galois_Prime.j0]
    exact evt (by simp; omega) (Ev.now _)
theorem rPrime_out {p : Int} (h : p < 2 ∨ 4096 < p) : Ev (fun k => barscanref04_Prime.f k p) (0, 0, 0, 3) := by
  simp only [barscanref04_Prime.f]
  by_cases c : p < 2
  · refine evt c (evs ?_)
    simp only [barscanref04_Prime.j0]
    exact evt (by simp) (Ev.now _)
  · refine evf c (evs ?_)
    simp only [barscanref04_Prime.j0]
    exact evt (by simp; omega) (Ev.now _)
/-- What Prime answers at a number that it takes. -/
noncomputable def primS (p : Nat) : Int × Int × Int × Int := if prB p = true then (if p = 2 then (2, 2, 2, 0) else ((p : Int), (p : Int), 0, 0)) else (0, 0, 0, 1)
theorem ev_Prime_in {p : Nat} (h1 : 2 ≤ p) (h2 : p ≤ 4096) : Ev (fun k => galois_Prime.f k (p : Int)) (primS p) := by
  simp only [galois_Prime.f]
  refine evf (by omega) (evs ?_)
  simp only [galois_Prime.j0]
  refine evf (by simp; omega) (Ev.bind (ev_prime h1 (by omega)) ?_)
  by_cases hp : prB p = true
  · unfold primS
    simp only [if_pos hp]
    by_cases h : p = 2
    · refine evt (by omega) ?_
      rw [if_pos h]
      refine Ev.bind (ev_Binary_in (d := 1) (by omega) (by omega) 2) ?_
      rw [show binS 1 2 = (2, 2, 2, 0) from binS_irr irr_two]
      exact Ev.now _
    · refine evf (by omega) ?_
      rw [if_neg h]
      exact Ev.now _
  · unfold primS
    simp only [if_neg hp]
    exact Ev.now _
theorem rPrime_in {p : Nat} (h1 : 2 ≤ p) (h2 : p ≤ 4096) : Ev (fun k => barscanref04_Prime.f k (p : Int)) (primS p) := by
  simp only [barscanref04_Prime.f]
  refine evf (by omega) (evs ?_)
  simp only [barscanref04_Prime.j0, ref_prime]
  refine evf (by simp; omega) (Ev.bind (ev_prime h1 (by omega)) ?_)
  by_cases hp : prB p = true
  · unfold primS
    simp only [if_pos hp]
    by_cases h : p = 2
    · refine evt (by omega) ?_
      rw [if_pos h]
      exact Ev.now _
    · refine evf (by omega) ?_
      rw [if_neg h]
      exact Ev.now _
  · unfold primS
    simp only [if_neg hp]
    exact Ev.now _

/-- A field that both packages take. -/
def Good (c s p : Int) : Prop := (c = 2 ∧ ∃ d q : Nat, d ≤ 12 ∧ s = ((2 ^ d : Nat) : Int) ∧ p = q ∧ Irr q d) ∨ (p = 0 ∧ ∃ q : Nat, c = q ∧ s = q ∧ 3 ≤ q ∧ q ≤ 4096 ∧ Pr q)
noncomputable def goodB (c s p : Int) : Bool := @decide (Good c s p) (Classical.propDecidable _)
theorem goodB_iff {c s p : Int} : goodB c s p = true ↔ Good c s p := by unfold goodB; exact @decide_eq_true_iff _ (Classical.propDecidable _)
theorem goodB_false {c s p : Int} (h : ¬ Good c s p) : goodB c s p = false := by
  cases e : goodB c s p
  · rfl
  · exact absurd (goodB_iff.1 e) h
theorem good_two {s p : Int} (h : Good 2 s p) : ∃ d q : Nat, 1 ≤ d ∧ d ≤ 12 ∧ s = ((2 ^ d : Nat) : Int) ∧ p = q ∧ Irr q d := by
  rcases h with ⟨_, d, q, h1, h2, h3, h4⟩ | ⟨_, q, h1, _, h3, _⟩
  · exact ⟨d, q, h4.1, h1, h2, h3, h4⟩
  · omega
theorem good_odd {c s p : Int} (hc : c ≠ 2) (h : Good c s p) : p = 0 ∧ ∃ q : Nat, c = q ∧ s = q ∧ 3 ≤ q ∧ q ≤ 4096 ∧ Pr q := by
  rcases h with ⟨h, _⟩ | h
  · exact absurd h hc
  · exact h

theorem ev_Valid {c s p : Int} : Ev (fun k => galois_Valid.f k c s p) (goodB c s p) := by
  simp only [galois_Valid.f]
  by_cases hc : c = 2
  · subst hc
    refine evt rfl ?_
    by_cases hs : s < 2 ∨ 4096 < s
    · have hno : goodB 2 s p = false := by
        refine goodB_false fun hg => ?_
        obtain ⟨d, q, h1, h2, h3, _⟩ := good_two hg
        have := Nat.pow_le_pow_right (n := 2) (by omega) h1
        have := Nat.pow_le_pow_right (n := 2) (by omega) h2
        omega
      rw [hno]
      by_cases c1 : s < 2
      · refine evt c1 (evs ?_)
        simp only [galois_Valid.j0]
        exact evt (by simp) (Ev.now _)
      · refine evf c1 (evs ?_)
        simp only [galois_Valid.j0]
        exact evt (by simp; omega) (Ev.now _)
    · refine evf (by omega) (evs ?_)
      simp only [galois_Valid.j0]
      refine evf (by simp; omega) ?_
      obtain ⟨n, rfl⟩ : ∃ n : Nat, s = n := ⟨s.toNat, by omega⟩
      refine Ev.bind (ev_length (by omega)) ?_
      obtain ⟨d, hd⟩ := exists_deg (show n ≠ 0 by omega)
      have hd12 : d ≤ 12 := by
        apply Decidable.byContradiction
        intro hn
        have := Nat.pow_le_pow_right (n := 2) (by omega) (show 13 ≤ d by omega)
        have := hd.le
        omega
      have hd1 : 1 ≤ d := by
        rcases Nat.eq_zero_or_pos d with h | h
        · subst h
          have := hd.1
          omega
        · exact h
      rw [show wrap64 (((blen n : Nat) : Int) - 1) = (d : Int) from by rw [blen_deg hd, w64 (by omega) (by omega)]; omega]
      refine Ev.bind (ev_Binary_in hd1 hd12 p) ?_
      by_cases hi : ∃ q : Nat, p = q ∧ Irr q d
      · obtain ⟨q, rfl, hi⟩ := hi
        rw [binS_irr hi]
        refine evt rfl (evn ?_ (Ev.now _))
        by_cases hn : n = 2 ^ d
        · rw [goodB_iff.2 (.inl ⟨rfl, d, q, hd12, by rw [hn], rfl, hi⟩)]
          simp [hn]
        · rw [goodB_false]
          · simp
            intro h
            exact absurd (Int.natCast_inj.1 (by rw [← h]; simp)) hn
          · intro hg
            obtain ⟨d', q', h1, h2, h3, _⟩ := good_two hg
            have hdd : Deg n d' := deg_of (by omega) (by have := Nat.pow_lt_pow_right (a := 2) (by omega) (show d' < d' + 1 by omega); omega)
            rw [deg_unique hd hdd] at hn
            omega
      · rw [binS_not (fun q e i => hi ⟨q, e, i⟩)]
        refine evf (by simp) (evn (goodB_false ?_).symm (Ev.now _))
        intro hg
        obtain ⟨d', q', h1, h2, h3, h4, h5⟩ := good_two hg
        have hdd : Deg n d' := deg_of (by omega) (by have := Nat.pow_lt_pow_right (a := 2) (by omega) (show d' < d' + 1 by omega); omega)
        exact hi ⟨q', h4, deg_unique hd hdd ▸ h5⟩
  · refine evf hc ?_
    by_cases hs : s < 2 ∨ 4096 < s
    · refine Ev.bind (ev_Prime_out hs) (evf (by simp) (evn (goodB_false ?_).symm (Ev.now _)))
      intro hg
      obtain ⟨_, q, h1, h2, h3, h4, _⟩ := good_odd hc hg
      omega
    · obtain ⟨n, rfl⟩ : ∃ n : Nat, s = n := ⟨s.toNat, by omega⟩
      refine Ev.bind (ev_Prime_in (by omega) (by omega)) ?_
      unfold primS
      by_cases hp : prB n = true
      · rw [if_pos hp]
        by_cases h2 : n = 2
        · rw [if_pos h2]
          refine evt rfl (evn ?_ (Ev.now _))
          rw [goodB_false]
          · simp; intro h; exact absurd h.symm hc
          · intro hg
            obtain ⟨_, q, h1, h2, h3, h4, _⟩ := good_odd hc hg
            omega
        · rw [if_neg h2]
          refine evt rfl (evn ?_ (Ev.now _))
          by_cases hg : Good c (n : Int) p
          · rw [goodB_iff.2 hg]
            obtain ⟨h0, q, h1, h2, h3, h4, _⟩ := good_odd hc hg
            simp [h0, h1, ← h2]
          · rw [goodB_false hg]
            cases e : ((n : Int) == c && ((n : Int) == (n : Int) && (0 : Int) == p))
            · rfl
            · simp only [Bool.and_eq_true, beq_iff_eq] at e
              exact absurd (.inr ⟨e.2.2.symm, n, e.1.symm, rfl, by omega, by omega, prB_iff.1 hp⟩) hg
      · rw [if_neg hp]
        refine evf (by simp) (evn (goodB_false ?_).symm (Ev.now _))
        intro hg
        obtain ⟨_, q, h1, h2, h3, h4, h5⟩ := good_odd hc hg
        have : n = q := by omega
        exact hp (prB_iff.2 (this ▸ h5))

theorem rValid {c s p : Int} (hs' : s < 2 ^ 63) : Ev (fun k => barscanref04_Valid.f k c s p) (goodB c s p) := by
  simp only [barscanref04_Valid.f]
  by_cases hc : c = 2
  · subst hc
    refine evt rfl ?_
    by_cases hs : s ≤ 0
    · refine Ev.bind (ev_degree_neg hs) (evf (by omega) (evn (goodB_false ?_).symm (Ev.now _)))
      intro hg
      obtain ⟨d, q, h1, h2, h3, _⟩ := good_two hg
      have := Nat.two_pow_pos d
      omega
    · obtain ⟨n, rfl⟩ : ∃ n : Nat, s = n := ⟨s.toNat, by omega⟩
      obtain ⟨d, hd⟩ := exists_deg (show n ≠ 0 by omega)
      have hd50 : d ≤ 62 := by
        apply Decidable.byContradiction
        intro hn
        have := Nat.pow_le_pow_right (n := 2) (by omega) (show 63 ≤ d by omega)
        have := hd.le
        omega
      refine Ev.bind (ev_deg hd hd50) ?_
      have hgd : ∀ {P : Prop}, (∀ q : Nat, 1 ≤ d → d ≤ 12 → n = 2 ^ d → p = q → Irr q d → P) → Good 2 (n : Int) p → P := by
        intro P h hg
        obtain ⟨d', q', h1, h2, h3, h4, h5⟩ := good_two hg
        have hdd : Deg n d' := deg_of (by omega) (by have := Nat.pow_lt_pow_right (a := 2) (by omega) (show d' < d' + 1 by omega); omega)
        have := deg_unique hd hdd
        subst this
        exact h q' h1 h2 (by omega) h4 h5
      by_cases h1 : 1 ≤ d
      rotate_left
      · exact evf (by omega) (evn (goodB_false (hgd fun q a _ _ _ _ => h1 a)).symm (Ev.now _))
      refine evt (by omega) ?_
      by_cases h2 : d ≤ 12
      rotate_left
      · exact evf (by omega) (evn (goodB_false (hgd fun q _ a _ _ _ => h2 a)).symm (Ev.now _))
      refine evt (by omega) ?_
      have u1 : IntKind.u64.wrap (wrap64 ((d : Int) + 1)) = ((d + 1 : Nat) : Int) := by rw [w64 (by omega) (by omega), wu64 (by omega) (by omega)]; rfl
      have u2 : IntKind.u64.wrap (d : Int) = (d : Int) := wu64 (by omega) (by omega)
      rw [u1, u2, shl1 (by omega), shl1 (by omega)]
      refine evt (by omega) ?_
      by_cases h3 : n = 2 ^ d
      rotate_left
      · exact evf (by omega) (evn (goodB_false (hgd fun q _ _ a _ _ => h3 a)).symm (Ev.now _))
      refine evt (by omega) (evt (by omega) ?_)
      by_cases h4 : p < ((2 ^ (d + 1) : Nat) : Int)
      rotate_left
      · refine evf (by omega) (evn (goodB_false (hgd fun q _ _ _ a i => ?_)).symm (Ev.now _))
        have := i.2.1.1
        omega
      refine evt h4 ?_
      by_cases c0 : p < 0
      · refine Ev.bind (a := false) ?_ (evn (goodB_false (hgd fun q _ _ _ a i => ?_)).symm (Ev.now _))
        · simp only [barscanref04_irreducible.f]
          refine evt c0 (evs ?_)
          simp only [barscanref04_irreducible.j0]
          exact evt (by simp) (Ev.now _)
        · omega
      · obtain ⟨q, rfl⟩ : ∃ q : Nat, p = q := ⟨p.toNat, by omega⟩
        have l1 : (2 : Nat) ^ (d + 1) ≤ 2 ^ 13 := Nat.pow_le_pow_right (by omega) (by omega)
        by_cases hq : Deg q d
        · refine Ev.bind (ev_irreducible' h1 hq (by omega)) (evn ?_ (Ev.now _))
          by_cases hi : Irr q d
          · rw [irrB_iff.2 hi, goodB_iff.2 (.inl ⟨rfl, d, q, h2, by rw [h3], rfl, hi⟩)]
          · rw [irrB_false hi, goodB_false (hgd fun q' _ _ _ a i => hi (by rw [show q = q' by omega]; exact i))]
        · refine Ev.bind (a := false) ?_ (evn (goodB_false (hgd fun q' _ _ _ a i => hq (by rw [show q = q' by omega]; exact i.2.1))).symm (Ev.now _))
          simp only [barscanref04_irreducible.f]
          refine evf (by omega) ?_
          refine Ev.bind (ev_degree (by omega)) ?_
          refine evs ?_
          simp only [barscanref04_irreducible.j0]
          refine evt ?_ (Ev.now _)
          rw [bne_iff_ne]
          intro e
          apply hq
          by_cases h0 : q = 0
          · subst h0
            rw [blen_zero] at e
            omega
          · obtain ⟨m, hm⟩ := exists_deg h0
            rw [blen_deg hm] at e
            have : m = d := by omega
            exact this ▸ hm
  · refine evf hc ?_
    have hgd : ∀ {P : Prop}, (∀ q : Nat, c = s → p = 0 → s = q → 3 ≤ q → q ≤ 4096 → Pr q → P) → Good c s p → P := by
      intro P h hg
      obtain ⟨h0, q, h1, h2, h3, h4, h5⟩ := good_odd hc hg
      exact h q (by omega) h0 h2 h3 h4 h5
    by_cases h1 : c = s
    rotate_left
    · exact evf h1 (evn (goodB_false (hgd fun q a _ _ _ _ _ => h1 a)).symm (Ev.now _))
    refine evt h1 ?_
    by_cases h2 : p = 0
    rotate_left
    · exact evf h2 (evn (goodB_false (hgd fun q _ a _ _ _ _ => h2 a)).symm (Ev.now _))
    refine evt h2 ?_
    by_cases h3 : s ≥ 3
    rotate_left
    · exact evf h3 (evn (goodB_false (hgd fun q _ _ _ _ _ _ => by omega)).symm (Ev.now _))
    refine evt h3 ?_
    by_cases h4 : s ≤ 4096
    rotate_left
    · exact evf h4 (evn (goodB_false (hgd fun q _ _ _ _ _ _ => by omega)).symm (Ev.now _))
    refine evt h4 ?_
    obtain ⟨n, rfl⟩ : ∃ n : Nat, s = n := ⟨s.toNat, by omega⟩
    simp only [ref_prime]
    refine Ev.bind (ev_prime (by omega) (by omega)) (evn ?_ (Ev.now _))
    by_cases hp : Pr n
    · rw [prB_iff.2 hp, goodB_iff.2 (.inr ⟨h2, n, h1, rfl, by omega, by omega, hp⟩)]
    · rw [prB_false hp, goodB_false (hgd fun q _ _ a _ _ i => hp (by rw [show n = q by omega]; exact i))]
end Go.Proofs.Ytlhaclammaaabaa.Pg

/-! The fields that the packages take, as fields: sums, products. -/
namespace Go.Proofs.Ytlhaclammaaabaa.Pg
open Go.RowKit Go.Proofs.YtlhaclammaaabaaW.PrintWords Go.Proofs.YtlhaclammaaabaaW.PrintLast Go.Proofs.YtlhaclammaaabaaW.PrintMore
open Go.Proofs.Ytlhaclammaaabaa.Alg (Deg rem Irr cm Cong deg_of exists_deg rem_eq rem_lt rem_cong cong_shift xor_top Pr deg_unique CF BF PF card pw)
set_option linter.unusedVariables false
set_option linter.unusedSimpArgs false

theorem rem_small {q d x : Nat} (hq : Deg q d) (hx : x < 2 ^ d) : rem q d x = x := rem_eq hq hx (.refl _ _)
theorem rem_xor {q d : Nat} (hq : Deg q d) (x y : Nat) : rem q d (x ^^^ y) = rem q d x ^^^ rem q d y :=
  rem_eq hq (Alg.xor_lt (rem_lt hq x) (rem_lt hq y)) ((rem_cong hq x).xor (rem_cong hq y))
theorem rem_congr {q d x y : Nat} (hq : Deg q d) (h : Cong q x y) : rem q d x = rem q d y :=
  rem_eq hq (rem_lt hq y) (h.trans (rem_cong hq y))

theorem xor_mul_pow (x y i : Nat) : (x ^^^ y) * 2 ^ i = x * 2 ^ i ^^^ y * 2 ^ i := by
  rw [← Alg.cm_pow (x ^^^ y) i, ← Alg.cm_pow x i, ← Alg.cm_pow y i, Alg.xor_cm]
theorem cm_half (a b : Nat) : cm a b = (if b % 2 = 1 then a else 0) ^^^ cm (2 * a) (b / 2) := by
  rw [Alg.cm_step, Alg.double_cm]

theorem ev_times_l {q d : Nat} (hq : Deg q d) (hd : d ≤ 12) (n : Nat) : ∀ a b r : Nat, a < 2 ^ d → b < 2 ^ n → n ≤ 40 → r < 2 ^ d →
    Ev (fun k => galois_times.l0 k (a : Int) (b : Int) (r : Int) 2 ((2 ^ d : Nat) : Int) (q : Int)) ((r ^^^ rem q d (cm a b) : Nat) : Int) := by
  have l1 : (2 : Nat) ^ d ≤ 2 ^ 12 := Nat.pow_le_pow_right (by omega) hd
  have hq1 := hq.1
  have hq2 := hq.le
  rw [Nat.pow_succ] at hq1
  have zero : ∀ a r : Nat, r < 2 ^ d → Ev (fun k => galois_times.l0 k (a : Int) ((0 : Nat) : Int) (r : Int) 2 ((2 ^ d : Nat) : Int) (q : Int)) ((r ^^^ rem q d (cm a 0) : Nat) : Int) := by
    intro a r hr
    refine evs ?_
    simp only [galois_times.l0]
    refine evf (by omega) ?_
    rw [Alg.cm_zero, rem_small hq (Nat.two_pow_pos d), Nat.xor_zero]
    exact Ev.now _
  induction n with
  | zero =>
    intro a b r _ hb _ hr
    have : b = 0 := by omega
    subst this
    exact zero a r hr
  | succ n ih =>
    intro a b r ha hb hn hr
    by_cases h0 : b = 0
    · subst h0; exact zero a r hr
    have l2 : (2 : Nat) ^ (n + 1) ≤ 2 ^ 40 := Nat.pow_le_pow_right (by omega) hn
    have hb2 : b / 2 < 2 ^ n := by rw [Nat.pow_succ] at hb; omega
    -- the next a
    obtain ⟨a', ha', hc, hrun⟩ : ∃ a' : Nat, a' < 2 ^ d ∧ Cong q (2 * a) a' ∧ ∀ (r' : Nat) R, Ev (fun k => galois_times.l0 k (a' : Int) ((b / 2 : Nat) : Int) (r' : Int) 2 ((2 ^ d : Nat) : Int) (q : Int)) R →
        Ev (fun k => if wrap64 ((a : Int) * 2) ≥ ((2 ^ d : Nat) : Int) then galois_times.l0 k (Go.bits .xor .i64 (wrap64 ((a : Int) * 2)) (q : Int)) ((b / 2 : Nat) : Int) (r' : Int) 2 ((2 ^ d : Nat) : Int) (q : Int) else galois_times.l0 k (wrap64 ((a : Int) * 2)) ((b / 2 : Nat) : Int) (r' : Int) 2 ((2 ^ d : Nat) : Int) (q : Int)) R := by
      have w : wrap64 ((a : Int) * 2) = ((2 * a : Nat) : Int) := by rw [w64 (by omega) (by omega)]; omega
      by_cases hge : 2 * a ≥ 2 ^ d
      · have hda : Deg (2 * a) d := deg_of hge (by rw [Nat.pow_succ]; omega)
        refine ⟨2 * a ^^^ q, xor_top hda.1 hq.1 (by rw [hda.2, hq.2]), ?_, ?_⟩
        · have := cong_shift q (2 * a) 0
          rwa [Nat.pow_zero, Nat.mul_one] at this
        · intro r' R hR
          rw [w]
          refine evt (by omega) ?_
          rw [bxor (by omega) (by omega)]
          exact hR
      · refine ⟨2 * a, by omega, .refl _ _, ?_⟩
        intro r' R hR
        rw [w]
        exact evf (by omega) hR
    have e2 : (b : Int) / 2 = ((b / 2 : Nat) : Int) := by omega
    have hrem : rem q d (cm a' (b / 2)) = rem q d (cm (2 * a) (b / 2)) := (rem_congr hq (hc.mul_left _)).symm
    refine evs ?_
    simp only [galois_times.l0, e2, band1 (show b < 2 ^ 62 by omega)]
    refine evt (by omega) ?_
    by_cases hodd : b % 2 = 1
    · refine evt (by omega) ?_
      rw [bxor (show r < 2 ^ 62 by omega) (show a < 2 ^ 62 by omega)]
      refine evn ?_ (hrun (r ^^^ a) _ (ih a' (b / 2) (r ^^^ a) ha' hb2 (by omega) (Alg.xor_lt hr ha)))
      rw [cm_half a b, if_pos hodd, rem_xor hq, rem_small hq ha, hrem, Nat.xor_assoc]
    · refine evf (by omega) ?_
      refine evn ?_ (hrun r _ (ih a' (b / 2) r ha' hb2 (by omega) hr))
      rw [cm_half a b, if_neg hodd, Nat.zero_xor, hrem]

theorem times_next (a b i : Nat) : cm a (b / 2 ^ i) * 2 ^ i = (if b / 2 ^ i % 2 = 1 then a * 2 ^ i else 0) ^^^ cm a (b / 2 ^ (i + 1)) * 2 ^ (i + 1) := by
  have hnext : b / 2 ^ (i + 1) = b / 2 ^ i / 2 := by rw [Nat.pow_succ, Nat.div_div_eq_div_mul]
  rw [hnext]
  generalize b / 2 ^ i = t
  have e1 : (if t % 2 = 1 then a else 0) * 2 ^ i = if t % 2 = 1 then a * 2 ^ i else 0 := by
    by_cases h : t % 2 = 1
    · rw [if_pos h, if_pos h]
    · rw [if_neg h, if_neg h, Nat.zero_mul]
  have e2 : 2 * cm a (t / 2) * 2 ^ i = cm a (t / 2) * 2 ^ (i + 1) := by
    generalize cm a (t / 2) = z
    rw [Nat.pow_succ, Nat.mul_comm 2 z, Nat.mul_assoc, Nat.mul_comm 2]
  rw [Alg.cm_step a t, xor_mul_pow, e1, e2]
theorem times_odd (a b i r : Nat) (h : b / 2 ^ i % 2 = 1) : (r ^^^ a * 2 ^ i) ^^^ cm a (b / 2 ^ (i + 1)) * 2 ^ (i + 1) = r ^^^ cm a (b / 2 ^ i) * 2 ^ i := by
  rw [times_next a b i, if_pos h, Nat.xor_assoc]
theorem times_even (a b i r : Nat) (h : ¬ b / 2 ^ i % 2 = 1) : r ^^^ cm a (b / 2 ^ (i + 1)) * 2 ^ (i + 1) = r ^^^ cm a (b / 2 ^ i) * 2 ^ i := by
  rw [times_next a b i, if_neg h, Nat.zero_xor]
theorem rTimes_l {q d : Nat} (hq : Deg q d) (hd1 : 1 ≤ d) (hd : d ≤ 12) {a b : Nat} (ha : a < 2 ^ 12) (hb : b < 2 ^ 12) (n : Nat) : ∀ i r : Nat, i + n = 12 → r < 2 ^ 30 → r ^^^ cm a (b / 2 ^ i) * 2 ^ i < 2 ^ 40 →
    Ev (fun k => barscanref04_Times.l0 k (a : Int) (b : Int) (r : Int) (i : Int) 2 ((2 ^ d : Nat) : Int) (q : Int)) ((rem q d (r ^^^ cm a (b / 2 ^ i) * 2 ^ i) : Nat) : Int) := by
  have fin : ∀ i r : Nat, i ≤ 12 → r < 2 ^ 30 → b / 2 ^ i = 0 → Ev (fun k => barscanref04_Times.l0 k (a : Int) (b : Int) (r : Int) (i : Int) 2 ((2 ^ d : Nat) : Int) (q : Int)) ((rem q d (r ^^^ cm a (b / 2 ^ i) * 2 ^ i) : Nat) : Int) := by
    intro i r hi hr h0
    refine evs ?_
    have u1 : IntKind.u64.wrap (i : Int) = (i : Int) := wu64 (by omega) (by omega)
    simp only [barscanref04_Times.l0, u1, shrN (show i ≤ 64 by omega), h0]
    refine evt (by omega) (evf (by omega) ?_)
    rw [Alg.cm_zero, Nat.zero_mul, Nat.xor_zero]
    exact Ev.bind (ev_rest hq hd1 (by omega) (by omega)) (Ev.now _)
  induction n with
  | zero =>
    intro i r hi hr _
    have : i = 12 := by omega
    subst this
    exact fin 12 r (by omega) hr (by omega)
  | succ n ih =>
    intro i r hi hr hbig
    by_cases h0 : b / 2 ^ i = 0
    · exact fin i r (by omega) hr h0
    have u1 : IntKind.u64.wrap (i : Int) = (i : Int) := wu64 (by omega) (by omega)
    have hle : b / 2 ^ i ≤ b := Nat.div_le_self _ _
    have w1 : wrap64 ((i : Int) + 1) = ((i + 1 : Nat) : Int) := w64 (by omega) (by omega)
    have step : ∀ R r', ((b / 2 ^ i % 2 = 1 ∧ r' = r ^^^ a * 2 ^ i) ∨ (¬ b / 2 ^ i % 2 = 1 ∧ r' = r)) → Ev (fun k => barscanref04_Times.l0 k (a : Int) (b : Int) (r' : Int) ((i + 1 : Nat) : Int) 2 ((2 ^ d : Nat) : Int) (q : Int)) R →
        Ev (fun k => barscanref04_Times.l0 k (a : Int) (b : Int) (r : Int) (i : Int) 2 ((2 ^ d : Nat) : Int) (q : Int)) R := by
      clear hbig ih
      intro R r' hr' hR
      have hp : (2 : Nat) ^ i ≤ 2 ^ 12 := Nat.pow_le_pow_right (by omega) (by omega)
      have hai : a * 2 ^ i < 2 ^ 30 := by
        have := Nat.mul_le_mul (show a ≤ 2 ^ 12 by omega) hp
        omega
      have s1 := shrN (a := b) (n := i) (by omega)
      have s2 := band1 (a := b / 2 ^ i) (by omega)
      have s3 := shlN (a := a) (n := i) (by omega) (by omega)
      have s4 := bxor (a := r) (b := a * 2 ^ i) (by omega) (by omega)
      generalize a * 2 ^ i = ai at *
      generalize b / 2 ^ i = t at *
      refine evs ?_
      simp only [barscanref04_Times.l0, u1, s1, s2, s3, s4, w1]
      refine evt (by omega) (evt (by omega) ?_)
      rcases hr' with ⟨hodd, rfl⟩ | ⟨hodd, rfl⟩
      · exact evt (by omega) hR
      · exact evf (by omega) hR
    by_cases hodd : b / 2 ^ i % 2 = 1
    · have hp : (2 : Nat) ^ i ≤ 2 ^ 12 := Nat.pow_le_pow_right (by omega) (by omega)
      have hai : a * 2 ^ i < 2 ^ 30 := by
        clear hbig
        have := Nat.mul_le_mul (show a ≤ 2 ^ 12 by omega) hp
        omega
      have e3 := times_odd a b i r hodd
      have hx := ih (i + 1) (r ^^^ a * 2 ^ i) (by clear e3 hbig; omega) (Nat.xor_lt_two_pow hr hai) (by rw [e3]; exact hbig)
      rw [e3] at hx
      exact step _ _ (.inl ⟨hodd, rfl⟩) hx
    · have e3 := times_even a b i r hodd
      have hx := ih (i + 1) r (by clear e3 hbig; omega) hr (by rw [e3]; exact hbig)
      rw [e3] at hx
      exact step _ _ (.inr ⟨hodd, rfl⟩) hx

/-- A field of the packages, as a field. -/
structure Model (c s p : Int) where
  K : Type
  [cf : CF K]
  v : K → Int
  inj : ∀ a b, v a = v b → a = b
  low : ∀ a, 0 ≤ v a
  high : ∀ a, v a < s
  of : ∀ n : Int, 0 ≤ n → n < s → ∃ a, v a = n
  zero : v 0 = 0
  one : v 1 = 1
  size : s = (card K : Int)
  small : s ≤ 4096
  big : 2 ≤ s
  good : Good c s p
  xadd : c = 2 → ∀ a b, Go.bits .xor .i64 (v a) (v b) = v (a + b)
  xneg : c = 2 → ∀ a : K, -a = a
  madd : c ≠ 2 → ∀ a b, Int.tmod (wrap64 (v a + v b)) s = v (a + b)
  msub : c ≠ 2 → ∀ a b, Int.tmod (wrap64 (wrap64 (v a - v b) + s)) s = v (a - b)
  msub' : c ≠ 2 → ∀ a b, Int.tmod (wrap64 (wrap64 (v a + s) - v b)) s = v (a - b)
  times : ∀ a b, Ev (fun k => galois_times.f k c s p (v a) (v b)) (v (a * b))
  rtimes : ∀ a b, Ev (fun k => barscanref04_Times.f k c s p (v a) (v b)) (v (a * b))
attribute [instance] Model.cf

noncomputable def modelBin {q d : Nat} (h : Irr q d) (hd : d ≤ 12) : Model 2 ((2 ^ d : Nat) : Int) (q : Int) :=
  have l1 : (2 : Nat) ^ d ≤ 2 ^ 12 := Nat.pow_le_pow_right (by omega) hd
  have l0 : (2 : Nat) ^ 1 ≤ 2 ^ d := Nat.pow_le_pow_right (by omega) h.1
  { K := BF q d h
    v := fun a => (a.1 : Int)
    inj := fun a b e => Fin.ext (by omega)
    low := fun a => by omega
    high := fun a => by have := a.2; omega
    of := fun n h0 h1 => ⟨⟨n.toNat, by omega⟩, by show ((n.toNat : Nat) : Int) = n; omega⟩
    zero := rfl
    one := rfl
    size := by show _ = ((Alg.fins (2 ^ d)).length : Int); rw [Alg.fins_length]
    small := by omega
    big := by omega
    good := .inl ⟨rfl, d, q, hd, rfl, rfl, h⟩
    xadd := fun _ a b => bxor (show a.1 < 2 ^ 62 by have := a.2; omega) (show b.1 < 2 ^ 62 by have := b.2; omega)
    xneg := fun _ a => rfl
    madd := fun hn => absurd rfl hn
    msub := fun hn => absurd rfl hn
    msub' := fun hn => absurd rfl hn
    times := fun a b => by
      show Ev (fun k => galois_times.f k 2 ((2 ^ d : Nat) : Int) (q : Int) (a.1 : Int) (b.1 : Int)) ((rem q d (cm a.1 b.1) : Nat) : Int)
      simp only [galois_times.f]
      refine evt trivial (evn ?_ (ev_times_l h.2.1 hd d a.1 b.1 0 a.2 b.2 (by omega) (Nat.two_pow_pos d)))
      rw [Nat.zero_xor]
    rtimes := fun a b => by
      show Ev (fun k => barscanref04_Times.f k 2 ((2 ^ d : Nat) : Int) (q : Int) (a.1 : Int) (b.1 : Int)) ((rem q d (cm a.1 b.1) : Nat) : Int)
      simp only [barscanref04_Times.f]
      have ha : a.1 < 2 ^ 12 := Nat.lt_of_lt_of_le a.2 l1
      have hb : b.1 < 2 ^ 12 := Nat.lt_of_lt_of_le b.2 l1
      have hc : cm a.1 b.1 < 2 ^ (12 + 12 - 1) := Alg.cm_lt ha hb
      refine evt trivial (evn ?_ (rTimes_l h.2.1 h.1 hd ha hb 12 0 0 (by omega) (by omega) (by rw [Nat.pow_zero, Nat.div_one, Nat.mul_one, Nat.zero_xor]; omega)))
      rw [Nat.pow_zero, Nat.div_one, Nat.mul_one, Nat.zero_xor] }

theorem mod_once {x p : Nat} (h : x < 2 * p) : x % p = if x < p then x else x - p := by
  split
  · exact Nat.mod_eq_of_lt (by assumption)
  · rw [Nat.mod_eq_sub_mod (by omega), Nat.mod_eq_of_lt (by omega)]
theorem tmod_nat (x p : Nat) : Int.tmod (x : Int) (p : Int) = ((x % p : Nat) : Int) := (Int.ofNat_tmod x p).symm
theorem pf_sub {p : Nat} (h : Pr p) (a b : PF p h) : (a - b).1 = if b.1 ≤ a.1 then a.1 - b.1 else a.1 + p - b.1 := by
  have ha := a.2
  have hb := b.2
  show (a.1 + (p - b.1) % p) % p = _
  rw [mod_once (x := p - b.1) (by omega)]
  split <;> rw [mod_once (by omega)] <;> split <;> split <;> omega
def modelPrime {q : Nat} (h : Pr q) (h3 : 3 ≤ q) (hq : q ≤ 4096) : Model (q : Int) (q : Int) 0 :=
  { K := PF q h
    v := fun a => (a.1 : Int)
    inj := fun a b e => Fin.ext (by omega)
    low := fun a => by omega
    high := fun a => by have := a.2; omega
    of := fun n h0 h1 => ⟨⟨n.toNat, by omega⟩, by show ((n.toNat : Nat) : Int) = n; omega⟩
    zero := rfl
    one := rfl
    size := by show _ = ((Alg.fins q).length : Int); rw [Alg.fins_length]
    small := by omega
    big := by omega
    good := .inr ⟨rfl, q, rfl, rfl, h3, hq, h⟩
    xadd := fun hn => by omega
    xneg := fun hn => by omega
    madd := fun _ a b => by
      have ha := a.2
      have hb := b.2
      show Int.tmod (wrap64 ((a.1 : Int) + (b.1 : Int))) (q : Int) = (((a.1 + b.1) % q : Nat) : Int)
      rw [w64 (by omega) (by omega), ← Int.natCast_add, tmod_nat]
    msub := fun _ a b => by
      have ha := a.2
      have hb := b.2
      show Int.tmod (wrap64 (wrap64 ((a.1 : Int) - (b.1 : Int)) + (q : Int))) (q : Int) = (((a - b).1 : Nat) : Int)
      rw [w64 (x := (a.1 : Int) - (b.1 : Int)) (by omega) (by omega), w64 (by omega) (by omega), show (a.1 : Int) - (b.1 : Int) + (q : Int) = ((a.1 + q - b.1 : Nat) : Int) from by omega, tmod_nat, pf_sub h a b, mod_once (by omega)]
      congr 1
      split <;> split <;> omega
    msub' := fun _ a b => by
      have ha := a.2
      have hb := b.2
      show Int.tmod (wrap64 (wrap64 ((a.1 : Int) + (q : Int)) - (b.1 : Int))) (q : Int) = (((a - b).1 : Nat) : Int)
      rw [w64 (x := (a.1 : Int) + (q : Int)) (by omega) (by omega), w64 (by omega) (by omega), show (a.1 : Int) + (q : Int) - (b.1 : Int) = ((a.1 + q - b.1 : Nat) : Int) from by omega, tmod_nat, pf_sub h a b, mod_once (by omega)]
      congr 1
      split <;> split <;> omega
    times := fun a b => by
      have ha := a.2
      have hb := b.2
      have hm : a.1 * b.1 ≤ 4096 * 4096 := Nat.mul_le_mul (by omega) (by omega)
      show Ev (fun k => galois_times.f k (q : Int) (q : Int) 0 (a.1 : Int) (b.1 : Int)) ((a.1 * b.1 % q : Nat) : Int)
      simp only [galois_times.f]
      refine evf (by omega) (evf (by omega) ?_)
      rw [← Int.natCast_mul, w64 (by omega) (by omega), tmod_nat]
      exact Ev.now _
    rtimes := fun a b => by
      have ha := a.2
      have hb := b.2
      have hm : a.1 * b.1 ≤ 4096 * 4096 := Nat.mul_le_mul (by omega) (by omega)
      show Ev (fun k => barscanref04_Times.f k (q : Int) (q : Int) 0 (a.1 : Int) (b.1 : Int)) ((a.1 * b.1 % q : Nat) : Int)
      simp only [barscanref04_Times.f]
      refine evf (by omega) (evf (by omega) ?_)
      rw [← Int.natCast_mul, w64 (by omega) (by omega), tmod_nat]
      exact Ev.now _ }
theorem model {c s p : Int} (h : Good c s p) : Nonempty (Model c s p) := by
  rcases h with ⟨rfl, d, q, h1, rfl, rfl, h2⟩ | ⟨rfl, q, rfl, rfl, h1, h2, h3⟩
  · exact ⟨modelBin h2 h1⟩
  · exact ⟨modelPrime h3 h1 h2⟩
end Go.Proofs.Ytlhaclammaaabaa.Pg

/-! The fields whose generator the program knows: the search tells the same (by the kernel). -/
namespace Go.Proofs.Ytlhaclammaaabaa.Pg
set_option maxRecDepth 1000000
theorem prim16 : barscanref04_Primitive.f 100 2 16 19 = some 2 := by decide +kernel
theorem prim64 : barscanref04_Primitive.f 200 2 64 67 = some 2 := by decide +kernel
theorem prim256 : barscanref04_Primitive.f 300 2 256 285 = some 2 := by decide +kernel
theorem prim256' : barscanref04_Primitive.f 300 2 256 301 = some 2 := by decide +kernel
theorem prim1024 : barscanref04_Primitive.f 1100 2 1024 1033 = some 2 := by decide +kernel
theorem prim4096 : barscanref04_Primitive.f 4200 2 4096 4201 = some 2 := by decide +kernel
theorem prim929 : barscanref04_Primitive.f 1000 929 929 0 = some 3 := by decide +kernel
end Go.Proofs.Ytlhaclammaaabaa.Pg

/-! Powers, orders, the least generator, over the fields of the packages. -/
namespace Go.Proofs.Ytlhaclammaaabaa.Pg
open Go.RowKit Go.Proofs.YtlhaclammaaabaaW.PrintWords Go.Proofs.YtlhaclammaaabaaW.PrintLast Go.Proofs.YtlhaclammaaabaaW.PrintMore
open Go.Proofs.Ytlhaclammaaabaa.Alg (CF card pw)
set_option linter.unusedVariables false
set_option linter.unusedSimpArgs false

theorem ev_unique {α : Type} {g : Nat → Option α} {a b : α} (h : Ev g a) (k : Ev g b) : a = b := by
  obtain ⟨K, h⟩ := h
  obtain ⟨K', k⟩ := k
  have h1 := h (max K K') (by omega)
  have h2 := k (max K K') (by omega)
  rw [h1] at h2
  exact Option.some.inj h2
theorem exists_least {P : Nat → Prop} (h : ∃ n, P n) : ∃ n, P n ∧ ∀ m, m < n → ¬ P m := by
  obtain ⟨n, hn⟩ := h
  induction n using Nat.strongRecOn with
  | _ n ih =>
    by_cases hm : ∃ m, m < n ∧ P m
    · obtain ⟨m, h1, h2⟩ := hm
      exact ih m h1 h2
    · exact ⟨n, hn, fun m h1 h2 => hm ⟨m, h1, h2⟩⟩
section
variable {K : Type} [CF K]
theorem pw_sq (a : K) (m : Nat) : pw (a * a) m = pw a (2 * m) := by
  rw [Alg.pw_mul]; congr 1; rw [Alg.pw_succ, Alg.pw_one]
theorem pw_odd (a : K) {e : Nat} (h : e % 2 = 1) : pw a e = a * pw (a * a) (e / 2) := by
  rw [pw_sq, Alg.mul_comm, ← Alg.pw_succ]; congr 1; omega
theorem pw_even (a : K) {e : Nat} (h : e % 2 = 0) : pw a e = pw (a * a) (e / 2) := by
  rw [pw_sq]; congr 1; omega
end
section
variable {c s p : Int} (M : Model c s p)

theorem ev_power_l (n : Nat) : ∀ (e : Nat) (a r : M.K), e < 2 ^ n → n ≤ 60 → Ev (fun k => galois_power.l0 k (M.v a) (e : Int) (M.v r) c s p) (M.v (r * pw a e)) := by
  have zero : ∀ (a r : M.K), Ev (fun k => galois_power.l0 k (M.v a) ((0 : Nat) : Int) (M.v r) c s p) (M.v (r * pw a 0)) := by
    intro a r
    refine evs ?_
    simp only [galois_power.l0]
    refine evf (by omega) ?_
    rw [Alg.pw_zero, Alg.mul_one]
    exact Ev.now _
  induction n with
  | zero =>
    intro e a r he _
    have : e = 0 := by omega
    subst this
    exact zero a r
  | succ n ih =>
    intro e a r he hn
    by_cases h0 : e = 0
    · subst h0; exact zero a r
    have l2 : (2 : Nat) ^ (n + 1) ≤ 2 ^ 60 := Nat.pow_le_pow_right (by omega) hn
    have he2 : e / 2 < 2 ^ n := by rw [Nat.pow_succ] at he; omega
    have e2 : (e : Int) / 2 = ((e / 2 : Nat) : Int) := by omega
    refine evs ?_
    simp only [galois_power.l0, e2, band1 (show e < 2 ^ 62 by omega)]
    refine evt (by omega) ?_
    by_cases hodd : e % 2 = 1
    · refine evt (by omega) (Ev.bind (M.times r a) (Ev.bind (M.times a a) ?_))
      refine evn ?_ (ih (e / 2) (a * a) (r * a) he2 (by omega))
      rw [pw_odd a hodd, Alg.mul_assoc]
    · refine evf (by omega) (Ev.bind (M.times a a) ?_)
      refine evn ?_ (ih (e / 2) (a * a) r he2 (by omega))
      rw [pw_even a (e := e) (by omega)]
theorem ev_power (a : M.K) {e : Nat} (h : e < 2 ^ 60) : Ev (fun k => galois_power.f k c s p (M.v a) (e : Int)) (M.v (pw a e)) := by
  have := ev_power_l M 60 e a 1 h (by omega)
  rw [Alg.one_mul, M.one] at this
  exact this
theorem rPower_l (n : Nat) : ∀ (e : Nat) (a r : M.K), e < 2 ^ n → n ≤ 60 → Ev (fun k => barscanref04_Power.l0 k (M.v a) (e : Int) (M.v r) c s p) (M.v (r * pw a e)) := by
  have zero : ∀ (a r : M.K), Ev (fun k => barscanref04_Power.l0 k (M.v a) ((0 : Nat) : Int) (M.v r) c s p) (M.v (r * pw a 0)) := by
    intro a r
    refine evs ?_
    simp only [barscanref04_Power.l0]
    refine evf (by omega) ?_
    rw [Alg.pw_zero, Alg.mul_one]
    exact Ev.now _
  induction n with
  | zero =>
    intro e a r he _
    have : e = 0 := by omega
    subst this
    exact zero a r
  | succ n ih =>
    intro e a r he hn
    by_cases h0 : e = 0
    · subst h0; exact zero a r
    have l2 : (2 : Nat) ^ (n + 1) ≤ 2 ^ 60 := Nat.pow_le_pow_right (by omega) hn
    have he2 : e / 2 < 2 ^ n := by rw [Nat.pow_succ] at he; omega
    have e2 : wrap64 (Int.tdiv (e : Int) 2) = ((e / 2 : Nat) : Int) := by
      rw [show (2 : Int) = ((2 : Nat) : Int) from rfl, ← Int.ofNat_tdiv, w64 (by omega) (by omega)]
    have e3 : Int.tmod (e : Int) 2 = ((e % 2 : Nat) : Int) := tmod_nat e 2
    refine evs ?_
    simp only [barscanref04_Power.l0, e2, e3]
    refine evt (by omega) ?_
    by_cases hodd : e % 2 = 1
    · refine evt (by omega) (Ev.bind (M.rtimes r a) (Ev.bind (M.rtimes a a) ?_))
      refine evn ?_ (ih (e / 2) (a * a) (r * a) he2 (by omega))
      rw [pw_odd a hodd, Alg.mul_assoc]
    · refine evf (by omega) (Ev.bind (M.rtimes a a) ?_)
      refine evn ?_ (ih (e / 2) (a * a) r he2 (by omega))
      rw [pw_even a (e := e) (by omega)]
theorem rPower (a : M.K) {e : Nat} (h : e < 2 ^ 60) : Ev (fun k => barscanref04_Power.f k c s p (M.v a) (e : Int)) (M.v (pw a e)) := by
  have := rPower_l M 60 e a 1 h (by omega)
  rw [Alg.one_mul, M.one] at this
  exact this

theorem v_one_iff (a : M.K) : M.v a = 1 ↔ a = 1 := ⟨fun h => M.inj _ _ (h.trans M.one.symm), fun h => by rw [h, M.one]⟩
theorem v_zero_iff (a : M.K) : M.v a = 0 ↔ a = 0 := ⟨fun h => M.inj _ _ (h.trans M.zero.symm), fun h => by rw [h, M.zero]⟩
theorem ord_lt {a : M.K} {m : Nat} (h : Alg.Ord a m) : (m : Int) < s := by
  have h1 := Nat.le_of_dvd (by have := M.size; have := M.big; omega) (Alg.ord_le h)
  have := M.size
  have := M.big
  omega
theorem ev_order_l {a : M.K} {m : Nat} (h : Alg.Ord a m) (j : Nat) : ∀ n : Nat, 1 ≤ n → n + j = m → Ev (fun k => galois_order.l0 k (M.v a) (n : Int) (M.v (pw a n)) c s p) (m : Int) := by
  have hm := ord_lt M h
  have hs := M.small
  induction j with
  | zero =>
    intro n h1 hn
    have : n = m := by omega
    subst this
    refine evs ?_
    simp only [galois_order.l0]
    exact evt ((v_one_iff M _).2 h.2.1) (Ev.now _)
  | succ j ih =>
    intro n h1 hn
    refine evs ?_
    simp only [galois_order.l0]
    refine evf ?_ (Ev.bind (M.times _ _) ?_)
    · intro e
      have := h.2.2 n h1 ((v_one_iff M _).1 e)
      omega
    · rw [show wrap64 ((n : Int) + 1) = ((n + 1 : Nat) : Int) from w64 (by omega) (by omega)]
      exact ih (n + 1) (by omega) (by omega)
theorem ev_order {a : M.K} {m : Nat} (h : Alg.Ord a m) : Ev (fun k => galois_order.f k c s p (M.v a)) (m : Int) := by
  have h0 := h.1
  have := ev_order_l M h (m - 1) 1 (by omega) (by omega)
  rw [Alg.pw_one] at this
  exact this
theorem rOrder_l {a : M.K} {m : Nat} (h : Alg.Ord a m) (j : Nat) : ∀ n : Nat, 1 ≤ n → n + j = m → Ev (fun k => barscanref04_order.l0 k (M.v a) (n : Int) (M.v (pw a n)) c s p) (m : Int) := by
  have hm := ord_lt M h
  have hs := M.small
  induction j with
  | zero =>
    intro n h1 hn
    have : n = m := by omega
    subst this
    refine evs ?_
    simp only [barscanref04_order.l0]
    exact evt ((v_one_iff M _).2 h.2.1) (Ev.now _)
  | succ j ih =>
    intro n h1 hn
    refine evs ?_
    simp only [barscanref04_order.l0]
    refine evf ?_ (evt (by omega) (Ev.bind (M.rtimes _ _) ?_))
    · intro e
      have := h.2.2 n h1 ((v_one_iff M _).1 e)
      omega
    · rw [show wrap64 ((n : Int) + 1) = ((n + 1 : Nat) : Int) from w64 (by omega) (by omega)]
      exact ih (n + 1) (by omega) (by omega)
theorem rOrder {a : M.K} {m : Nat} (h : Alg.Ord a m) : Ev (fun k => barscanref04_order.f k c s p (M.v a)) (m : Int) := by
  have h0 := h.1
  have := rOrder_l M h (m - 1) 1 (by omega) (by omega)
  rw [Alg.pw_one] at this
  exact this

/-- The least generator. -/
def Least (g : M.K) : Prop := Alg.Ord g (card M.K - 1) ∧ ∀ a : M.K, M.v a < M.v g → a ≠ 0 → ∀ m, Alg.Ord a m → m ≠ card M.K - 1
theorem exists_gen_least : ∃ g : M.K, Least M g := by
  obtain ⟨n, ⟨a, h1, h2⟩, h3⟩ := exists_least (P := fun n : Nat => ∃ a : M.K, M.v a = n ∧ Alg.Ord a (card M.K - 1)) (by
    obtain ⟨g, hg⟩ := Alg.exists_gen (K := M.K)
    exact ⟨(M.v g).toNat, g, by have := M.low g; omega, hg⟩)
  refine ⟨a, h2, fun b hb hb0 m hm e => ?_⟩
  refine h3 (M.v b).toNat (by have := M.low b; omega) ⟨b, by have := M.low b; omega, e ▸ hm⟩
theorem v_pos {a : M.K} (h : a ≠ 0) : 1 ≤ M.v a := by
  have h1 := M.low a
  have h2 : M.v a ≠ 0 := fun e => h ((v_zero_iff M a).1 e)
  omega
theorem rPrimitive {g : M.K} (hg : Least M g) : Ev (fun k => barscanref04_Primitive.f k c s p) (M.v g) := by
  have hs := M.small
  have hc := M.size
  have hb := M.big
  have hgs := M.high g
  have hw : wrap64 (s - 1) = s - 1 := w64 (by omega) (by omega)
  have key : ∀ j n : Nat, 1 ≤ n → ((n + j : Nat) : Int) = M.v g → Ev (fun k => barscanref04_Primitive.l0 k (n : Int) c s p) (M.v g) := by
    intro j
    induction j with
    | zero =>
      intro n h1 hn
      refine evs ?_
      simp only [barscanref04_Primitive.l0]
      rw [show ((n : Nat) : Int) = M.v g from by omega]
      refine evt (by omega) (Ev.bind (rOrder M hg.1) (evt ?_ (Ev.now _)))
      rw [hw]; omega
    | succ j ih =>
      intro n h1 hn
      refine evs ?_
      simp only [barscanref04_Primitive.l0]
      obtain ⟨a, ha⟩ := M.of n (by omega) (by omega)
      have ha0 : a ≠ 0 := by
        intro e
        rw [e, M.zero] at ha
        omega
      obtain ⟨m, hm⟩ := Alg.exists_ord ha0
      rw [← ha]
      refine evt (by omega) (Ev.bind (rOrder M hm) (evf ?_ ?_))
      · rw [hw]
        intro e
        exact hg.2 a (by omega) ha0 m hm (by omega)
      · rw [ha, show wrap64 ((n : Int) + 1) = ((n + 1 : Nat) : Int) from w64 (by omega) (by omega)]
        exact ih (n + 1) (by omega) (by omega)
  have hg0 := v_pos M (Alg.ord_ne hg.1)
  exact key ((M.v g).toNat - 1) 1 (by omega) (by omega)
theorem ev_gsearch {g : M.K} (hg : Least M g) : Ev (fun k => galois_generator.l0 k 1 c s p) (M.v g) := by
  have hs := M.small
  have hc := M.size
  have hb := M.big
  have hgs := M.high g
  have hw : wrap64 (s - 1) = s - 1 := w64 (by omega) (by omega)
  have key : ∀ j n : Nat, 1 ≤ n → ((n + j : Nat) : Int) = M.v g → Ev (fun k => galois_generator.l0 k (n : Int) c s p) (M.v g) := by
    intro j
    induction j with
    | zero =>
      intro n h1 hn
      refine evs ?_
      simp only [galois_generator.l0]
      rw [show ((n : Nat) : Int) = M.v g from by omega]
      refine Ev.bind (ev_order M hg.1) (evt ?_ (Ev.now _))
      rw [hw]; omega
    | succ j ih =>
      intro n h1 hn
      refine evs ?_
      simp only [galois_generator.l0]
      obtain ⟨a, ha⟩ := M.of n (by omega) (by omega)
      have ha0 : a ≠ 0 := by
        intro e
        rw [e, M.zero] at ha
        omega
      obtain ⟨m, hm⟩ := Alg.exists_ord ha0
      rw [← ha]
      refine Ev.bind (ev_order M hm) (evf ?_ ?_)
      · rw [hw]
        intro e
        exact hg.2 a (by omega) ha0 m hm (by omega)
      · rw [ha, show wrap64 ((n : Int) + 1) = ((n + 1 : Nat) : Int) from w64 (by omega) (by omega)]
        exact ih (n + 1) (by omega) (by omega)
  have hg0 := v_pos M (Alg.ord_ne hg.1)
  exact key ((M.v g).toNat - 1) 1 (by omega) (by omega)
theorem known_primitive {c s p g : Int} (h : known c s p = some g) : Ev (fun k => barscanref04_Primitive.f k c s p) g := by
  have hm : ∃ d ∈ allE, hit c s p d = true ∧ d.2.2.2 = g := by
    unfold known at h
    cases e : allE.find? (hit c s p) with
    | none => rw [e] at h; simp at h
    | some d =>
      rw [e] at h
      exact ⟨d, List.mem_of_find?_eq_some e, List.find?_some e, by simpa using h⟩
  obtain ⟨d, hd, hh, rfl⟩ := hm
  simp only [hit, Bool.and_eq_true, beq_iff_eq] at hh
  obtain ⟨rfl, rfl, rfl⟩ := hh
  simp only [allE, List.mem_cons, List.not_mem_nil, or_false] at hd
  rcases hd with rfl | rfl | rfl | rfl | rfl | rfl | rfl
  · exact Ev.of (fun k => barscanref04_Primitive.mono _ _ _ k) prim16
  · exact Ev.of (fun k => barscanref04_Primitive.mono _ _ _ k) prim64
  · exact Ev.of (fun k => barscanref04_Primitive.mono _ _ _ k) prim256
  · exact Ev.of (fun k => barscanref04_Primitive.mono _ _ _ k) prim256'
  · exact Ev.of (fun k => barscanref04_Primitive.mono _ _ _ k) prim1024
  · exact Ev.of (fun k => barscanref04_Primitive.mono _ _ _ k) prim4096
  · exact Ev.of (fun k => barscanref04_Primitive.mono _ _ _ k) prim929
theorem ev_generator {g : M.K} (hg : Least M g) : Ev (fun k => galois_generator.f k c s p) (M.v g) := by
  unfold galois_generator.f
  cases e : known c s p with
  | none => exact ev_gsearch M hg
  | some x => exact evn (ev_unique (known_primitive e) (rPrimitive M hg)) (Ev.now _)
end

/-- Whether numbers are elements. -/
def inB (s : Int) (l : List Int) : Bool := l.all fun x => decide (0 ≤ x) && decide (x < s)
theorem inB_cons (s x : Int) (l : List Int) : inB s (x :: l) = (decide (0 ≤ x) && decide (x < s) && inB s l) := by unfold inB; rw [List.all_cons]
theorem inB_nil (s : Int) : inB s [] = true := rfl
theorem ev_member {c s p : Int} (l : List Int) (hl : l.length < 2 ^ 40) : Ev (fun k => galois_member.f k c s p l) (inB s l && goodB c s p) := by
  have key : ∀ (j n : Nat), n + j = l.length → Ev (fun k => galois_member.l0 k l (l.length : Int) (n : Int) c s p) (inB s (l.drop n) && goodB c s p) := by
    intro j
    induction j with
    | zero =>
      intro n hn
      refine evs ?_
      simp only [galois_member.l0]
      refine evf (by omega) ?_
      rw [List.drop_eq_nil_of_le (by omega)]
      exact Ev.bind ev_Valid (evn (by simp [inB]) (Ev.now _))
    | succ j ih =>
      intro n hn
      have hlt : n < l.length := by omega
      have hr : rd l (n : Int) = l[n] := by
        simp [rd, hlt]
      refine evs ?_
      simp only [galois_member.l0, hr]
      refine evt (by omega) (evt (by omega) (evt (by omega) ?_))
      rw [List.drop_eq_getElem_cons hlt, inB_cons]
      by_cases h1 : l[n] < 0
      · refine evt h1 (evn ?_ (Ev.now _))
        rw [decide_eq_false (show ¬ 0 ≤ l[n] by omega)]; rfl
      · refine evf h1 ?_
        rw [decide_eq_true (show 0 ≤ l[n] by omega)]
        by_cases h2 : l[n] ≥ s
        · refine evt h2 (evn ?_ (Ev.now _))
          rw [decide_eq_false (show ¬ l[n] < s by omega)]; rfl
        · refine evf h2 ?_
          rw [show wrap64 ((n : Int) + 1) = ((n + 1 : Nat) : Int) from w64 (by omega) (by omega), decide_eq_true (show l[n] < s by omega)]
          refine evn ?_ (ih (n + 1) (by omega))
          rw [Bool.and_true, Bool.true_and]
  have := key l.length 0 (by omega)
  rw [List.drop_zero] at this
  exact this
theorem ev_Is (s x : Int) (c p : Int) : barscanref04_Is.f c s p x = some (inB s [x]) := by
  unfold barscanref04_Is.f inB
  by_cases h : 0 ≤ x <;> simp [h]
end Go.Proofs.Ytlhaclammaaabaa.Pg
