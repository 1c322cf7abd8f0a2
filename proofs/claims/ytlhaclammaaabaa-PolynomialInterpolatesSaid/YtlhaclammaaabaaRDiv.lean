import Derived.Test.YtlhaclammaaabaaB37
import Derived.Test.YtlhaclammaaabaaB32
import Derived.Test.YtlhaclammaaabaaB13
import Derived.Test.YtlhaclammaaabaaB14
import Derived.Test.YtlhaclammaaabaaUDiv
/-! The reference's division with remainder. -/
namespace Go.Proofs.Ytlhaclammaaabaa.Pg
open Go.RowKit Go.Proofs.YtlhaclammaaabaaW.PrintWords Go.Proofs.YtlhaclammaaabaaW.PrintLast Go.Proofs.YtlhaclammaaabaaW.PrintMore
open Go.Proofs.Ytlhaclammaaabaa.Alg (CF card pw Ser Bd sadd ssub smul pmul tl sh cst shn)
theorem s_lt {c s p : Int} (M : Model c s p) : s < 2 ^ 63 := by have := M.small; omega
section
variable {c s p : Int} (M : Model c s p)
theorem rginverse (a : M.K) : Ev (fun k => barscanref04_Inverse.f k c s p (M.v a)) (M.v (inv M a)) := by
  have h1 := M.small
  have h2 := M.big
  have h3 := M.size
  unfold barscanref04_Inverse.f
  rw [w64 (x := s - 2) (by omega) (by omega), show s - 2 = ((card M.K - 2 : Nat) : Int) from by omega]
  exact Ev.bind (rPower M a (by omega)) (Ev.now _)
theorem inB_one (a : M.K) : inB s [M.v a] = true := by simp [inB, M.low, M.high]
theorem rDiv (a : M.K) {b : M.K} (hb : b ≠ 0) : Ev (fun k => barscanref04_Div.f k c s p (M.v a) (M.v b)) (M.v (a * inv M b), 0) := by
  have h0 : M.v b ≠ 0 := fun e => hb ((v_zero_iff M b).1 e)
  unfold barscanref04_Div.f
  simp only [ev_Is, inB_one]
  refine Ev.bind (rValid (s_lt M)) (evt (goodB_iff.2 M.good) (Ev.bind (Ev.now _) (evt rfl (Ev.bind (Ev.now _) (evs ?_)))))
  simp only [barscanref04_Div.j0]
  exact evf (by simp) (evf h0 (Ev.bind (rginverse M b) (Ev.bind (M.rtimes _ _) (Ev.now _))))
theorem rInv {a : M.K} (ha : a ≠ 0) : Ev (fun k => barscanref04_Inv.f k c s p (M.v a)) (M.v (inv M a), 0) := by
  have := rDiv M 1 ha
  rw [M.one, Alg.one_mul] at this
  exact Ev.bind this (Ev.now _)
theorem rless_eq (a b : M.K) : barscanref05_less.f c s p (M.v a) (M.v b) = some (M.v (a - b)) := by
  unfold barscanref05_less.f barscanref04_Minus.f
  by_cases h : c = 2
  · rw [if_pos h, M.xadd h, Alg.sub_def, M.xneg h]; rfl
  · rw [if_neg h, if_neg (by have := M.big; omega), M.msub' h]; rfl
theorem rDivMod_l {A G : Ser M.K} {b : List Int} {n L : Nat} {y : M.K} (hb : inB s b = true) (hbe : co M b = G) (hbl : b.length = n + 1) (hG : Bd G (n + 1)) (hy : y * G n = 1) (hL : L < 2 ^ 40) (t : Nat) :
    ∀ Q R : Ser M.K, n + t ≤ L → Bd R (n + t) → (∀ u, u < t → Q u = 0) → Bd Q L → A = sadd (pmul Q G) R →
    ∃ Q' R', A = sadd (pmul Q' G) R' ∧ Bd Q' L ∧ Bd R' n ∧ Ev (fun k => barscanref05_DivMod.l0 k b (n : Int) (M.v y) (mk M R L) (mk M Q L) ((n : Int) + (t : Int) - 1) c s p) (trim (mk M Q' L), trim (mk M R' L), 0) := by
  induction t with
  | zero =>
    intro Q R hl hR hQ0 hQ h
    refine ⟨Q, R, h, hQ, hR, evs ?_⟩
    simp only [barscanref05_DivMod.l0]
    refine evf (by omega) (Ev.bind (rTrim ?_) (Ev.bind (rTrim ?_) (Ev.now _)))
    · rw [mk_length]; omega
    · rw [mk_length]; omega
  | succ t ih =>
    intro Q R hl hR hQ0 hQ h
    obtain ⟨e1, e2⟩ := round_eq M hG hy (t := t) (by rw [Nat.add_assoc]; exact hR) h
    obtain ⟨Q', R', h1, h2, h3, h4⟩ := ih (sadd Q (shn t (cst (R (n + t) * y)))) (cut M R G (R (n + t) * y) t (n + 1)) (by omega) e2
      (fun u hu => by
        simp only [sadd]
        rw [hQ0 u (by omega), Alg.shn_val, if_neg (by omega), Alg.zero_add])
      (hQ.sadd fun u hu => by
        rw [Alg.shn_val]
        by_cases hh : t ≤ u
        · rw [if_pos hh]
          show (if u - t = 0 then _ else (0 : M.K)) = 0
          rw [if_neg (by omega)]
        · rw [if_neg hh]) e1
    refine ⟨Q', R', h1, h2, h3, evs ?_⟩
    simp only [barscanref05_DivMod.l0]
    have hi : (n : Int) + ((t + 1 : Nat) : Int) - 1 = ((n + t : Nat) : Int) := by omega
    rw [hi, mk_get M R (show n + t < L by omega), show wrap64 (((n + t : Nat) : Int) - (n : Int)) = (t : Int) from by rw [w64 (by omega) (by omega)]; omega]
    refine evt (by omega) (evt (by omega) (evt (by rw [mk_length]; omega) (Ev.bind (r5times M _ _) (evt (by omega) (evt (by rw [mk_length]; omega) ?_)))))
    rw [Int.toNat_natCast, quot_set M (show t < L by omega) _ (hQ0 t (by omega))]
    have key : ∀ u j : Nat, j + u = n + 1 → Ev (fun k => barscanref05_DivMod.l1 k b (n : Int) (M.v y) (mk M (cut M R G (R (n + t) * y) t j) L) (mk M (sadd Q (shn t (cst (R (n + t) * y)))) L) ((n + t : Nat) : Int) (M.v (R (n + t) * y)) (j : Int) c s p) (trim (mk M Q' L), trim (mk M R' L), 0) := by
      intro u
      induction u with
      | zero =>
        intro j hj
        refine evs ?_
        simp only [barscanref05_DivMod.l1]
        refine evf (by omega) ?_
        rw [show j = n + 1 from by omega, show wrap64 (((n + t : Nat) : Int) - 1) = (n : Int) + (t : Int) - 1 from by rw [w64 (by omega) (by omega)]; omega]
        exact h4
      | succ u ihu =>
        intro j hj
        refine evs ?_
        simp only [barscanref05_DivMod.l1]
        rw [show wrap64 (((n + t : Nat) : Int) - (n : Int)) = (t : Int) from by rw [w64 (by omega) (by omega)]; omega, show wrap64 ((t : Int) + (j : Int)) = ((t + j : Nat) : Int) from by rw [w64 (by omega) (by omega)]; omega, rd_co M hb (show j < b.length by omega), hbe, mk_get M _ (show t + j < L by omega)]
        refine evt (by omega) (evt (by omega) (evt (by rw [mk_length]; omega) (evt (by omega) (evt (by omega) (Ev.bind (r5times M _ _) ?_)))))
        simp only [rless_eq M]
        refine Ev.bind (Ev.now _) ?_
        rw [Int.toNat_natCast, show wrap64 ((j : Int) + 1) = ((j + 1 : Nat) : Int) from w64 (by omega) (by omega)]
        have hs := cut_succ M R G (R (n + t) * y) t j
        have hc : cut M R G (R (n + t) * y) t j (t + j) = R (t + j) := by unfold cut; rw [if_neg (by omega)]
        have he : cut M R G (R (n + t) * y) t (j + 1) (t + j) = cut M R G (R (n + t) * y) t j (t + j) - R (n + t) * y * G j := by rw [hs, if_pos rfl, hc]
        have hp := mk_put M (F := cut M R G (R (n + t) * y) t j) (G := cut M R G (R (n + t) * y) t (j + 1)) (n := L) (i := t + j) (by omega) (by
          intro m
          by_cases e : m = t + j
          · subst e; rw [if_pos rfl]
          · rw [if_neg e, hs, if_neg e])
        rw [he] at hp
        rw [hp]
        exact ihu (j + 1) (by omega)
    have := key (n + 1) 0 (by omega)
    rw [cut_zero] at this
    exact this
theorem rDivMod {a b : List Int} {A G : Ser M.K} (ha : PL M a A) (hb : PL M b G) (hla : a.length ≤ 4097) (hlb : b.length ≤ 4097) {n : Nat} (hn : b.length = n + 1) :
    ∃ q r Q R, PL M q Q ∧ PL M r R ∧ A = sadd (pmul Q G) R ∧ Bd R n ∧ q.length ≤ a.length ∧ r.length ≤ a.length ∧ Ev (fun k => barscanref05_DivMod.f k c s p a b) (q, r, 0) := by
  have hG : Bd G (n + 1) := hn ▸ hb.bd M
  have hne : G n ≠ 0 := hb.top M hn
  obtain ⟨Q, R, h1, h2, h3, hR, h4⟩ : ∃ Q' R', A = sadd (pmul Q' G) R' ∧ Bd Q' a.length ∧ Bd R' n ∧ Bd R' a.length ∧ Ev (fun k => barscanref05_DivMod.l0 k b (n : Int) (M.v (inv M (G n))) (mk M A a.length) (mk M (fun _ => 0) a.length) ((a.length : Int) - 1) c s p) (trim (mk M Q' a.length), trim (mk M R' a.length), 0) := by
    by_cases hl : n ≤ a.length
    · obtain ⟨Q', R', g1, g2, g3, g4⟩ := rDivMod_l M (A := A) hb.inb hb.eq hn hG (inv_mul M hne) (L := a.length) (by omega) (a.length - n) (fun _ => 0) A (by omega) (by rw [show n + (a.length - n) = a.length from by omega]; exact ha.bd M) (fun _ _ => rfl) (Alg.bd_zero _) (by rw [Alg.pmul_zero_left]; funext i; exact (Alg.zero_add _).symm)
      rw [show (n : Int) + ((a.length - n : Nat) : Int) - 1 = (a.length : Int) - 1 from by omega] at g4
      exact ⟨Q', R', g1, g2, g3, g3.mono hl, g4⟩
    · refine ⟨fun _ => 0, A, by rw [Alg.pmul_zero_left]; funext i; exact (Alg.zero_add _).symm, Alg.bd_zero _, (ha.bd M).mono (by omega), ha.bd M, evs ?_⟩
      simp only [barscanref05_DivMod.l0]
      refine evf (by omega) (Ev.bind (rTrim ?_) (Ev.bind (rTrim ?_) (Ev.now _)))
      · rw [mk_length]; omega
      · rw [mk_length]; omega
  refine ⟨_, _, Q, R, PL.nf M h2, PL.nf M hR, h1, h3, nf_len M _ _, nf_len M _ _, ?_⟩
  unfold barscanref05_DivMod.f
  refine Ev.bind (rPValid (s_lt M) a) (evt (ha.valid M hla) (Ev.bind (rPValid (s_lt M) b) (evs ?_)))
  rw [hb.valid M hlb]
  simp only [barscanref05_DivMod.j0]
  rw [show wrap64 ((b.length : Int) - 1) = (n : Int) from by rw [w64 (by omega) (by omega)]; omega, rd_co M hb.inb (show n < b.length by omega), hb.eq,
    Int.toNat_natCast, show wrap64 ((a.length : Int) - 1) = (a.length : Int) - 1 from w64 (by omega) (by omega)]
  rw [mk_none, ha.list] at h4
  refine evf (by simp) (evf (by omega) (evt (by omega) (evt (by omega) (Ev.bind (rInv M hne) ?_))))
  simp only [Option.bind_some]
  exact evt (by simp only [List.length_nil]; omega) (evt (by omega) (evt (by omega) h4))
end
end Go.Proofs.Ytlhaclammaaabaa.Pg
