import Derived.Test.YtlhaclammaaabaaB4
import Derived.Test.YtlhaclammaaabaaB1
import Derived.Test.YtlhaclammaaabaaUPL
/-! Division with remainder: quotient and remainder are what the loop leaves; they are unique. -/
namespace Go.Proofs.Ytlhaclammaaabaa.Alg
section
variable {K : Type} [CF K]
/-- F times x^t -/
def shn : Nat → Ser K → Ser K
  | 0, F => F
  | t + 1, F => sh (shn t F)
theorem shn_val (t : Nat) (F : Ser K) : ∀ u, shn t F u = if t ≤ u then F (u - t) else 0 := by
  induction t with
  | zero => intro u; rw [if_pos (by omega)]; rfl
  | succ t ih =>
    intro u
    cases u with
    | zero => rw [if_neg (by omega)]; rfl
    | succ u =>
      show shn t F u = _
      rw [ih u]
      by_cases h : t ≤ u
      · rw [if_pos h, if_pos (by omega), show u + 1 - (t + 1) = u - t from by omega]
      · rw [if_neg h, if_neg (by omega)]
theorem shn_pmul (t : Nat) (k : K) (G : Ser K) : pmul (shn t (cst k)) G = smul k (shn t G) := by
  induction t with
  | zero => exact pmul_cst_left k G
  | succ t ih =>
    show pmul (sh (shn t (cst k))) G = smul k (sh (shn t G))
    rw [pmul_sh_left, ih]
    funext u
    cases u with
    | zero => exact (mul_zero k).symm
    | succ u => rfl
theorem sadd_ssub (F G : Ser K) : sadd (ssub F G) G = F := by funext i; exact sub_add_cancel _ _
theorem div_unique {Q Q' R R' G : Ser K} {n m : Nat} (hG : Bd G (n + 1)) (hn : G n ≠ 0) (hQ : Bd Q m) (hQ' : Bd Q' m) (hR : Bd R n) (hR' : Bd R' n) (h : sadd (pmul Q G) R = sadd (pmul Q' G) R') : Q = Q' ∧ R = R' := by
  have e : pmul (ssub Q Q') G = ssub R' R := by
    rw [pmul_ssub_left]
    funext i
    have := congrFun h i
    simp only [sadd] at this
    simp only [ssub]
    rw [sub_eq_iff]
    refine add_right_cancel (a := R i) ?_
    rw [this, add_comm (R' i - R i), add_assoc, sub_add_cancel]
  have hz : ssub Q Q' = fun _ => 0 := by
    refine Classical.byContradiction fun hne => ?_
    obtain ⟨d, _, hd, hdn⟩ := exists_top (hQ.ssub hQ') hne
    have h1 := (pmul_top hd hG).2
    rw [e] at h1
    exact mul_ne hdn hn (h1.symm.trans ((hR'.ssub hR) (d + n) (by omega)))
  have h1 : Q = Q' := by funext i; exact eq_of_sub (congrFun hz i)
  refine ⟨h1, ?_⟩
  subst h1
  funext i
  have := congrFun h i
  exact add_left_cancel this
end
end Go.Proofs.Ytlhaclammaaabaa.Alg
namespace Go.Proofs.Ytlhaclammaaabaa.Pg
open Go.RowKit Go.Proofs.YtlhaclammaaabaaW.PrintWords Go.Proofs.YtlhaclammaaabaaW.PrintLast Go.Proofs.YtlhaclammaaabaaW.PrintMore
open Go.Proofs.Ytlhaclammaaabaa.Alg (CF card pw Ser Bd sadd ssub smul pmul tl sh cst shn)
section
variable {c s p : Int} (M : Model c s p)
theorem ev_ginverse (a : M.K) : Ev (fun k => galois_inverse.f k c s p (M.v a)) (M.v (inv M a)) := by
  have h1 := M.small
  have h2 := M.big
  have h3 := M.size
  unfold galois_inverse.f
  rw [w64 (x := s - 2) (by omega) (by omega), show s - 2 = ((card M.K - 2 : Nat) : Int) from by omega]
  exact Ev.bind (ev_power M a (by omega)) (Ev.now _)
theorem inB_two' (a b : M.K) : inB s [M.v a, M.v b] = true := by
  simp [inB, M.low, M.high]
theorem ev_inv {a : M.K} (ha : a ≠ 0) : Ev (fun k => polynomial_inverse.f k c s p (M.v a)) (M.v (inv M a)) := by
  have h0 : M.v a ≠ 0 := fun e => ha ((v_zero_iff M a).1 e)
  unfold polynomial_inverse.f galois_Inv.f galois_Div.f
  rw [← M.one]
  refine Ev.bind (Ev.bind (Ev.bind (ev_member _ (by simp)) (evt (by rw [inB_two', goodB_iff.2 M.good]; rfl) (evf h0 (Ev.bind (ev_ginverse M a) (Ev.bind (M.times _ _) (Ev.now _)))))) (Ev.now _)) (evn ?_ (Ev.now _))
  simp only
  rw [Alg.one_mul]
/-- What is left behind j of the steps of one round. -/
def cut (R G : Ser M.K) (k : M.K) (t j : Nat) : Ser M.K := fun u => if t ≤ u ∧ u - t < j then R u - k * G (u - t) else R u
theorem cut_zero (R G : Ser M.K) (k : M.K) (t : Nat) : cut M R G k t 0 = R := by
  funext u; unfold cut; rw [if_neg (by omega)]
theorem cut_full (R : Ser M.K) {G : Ser M.K} (k : M.K) (t : Nat) {j : Nat} (hG : Bd G j) : cut M R G k t j = ssub R (smul k (shn t G)) := by
  funext u
  unfold cut ssub smul
  rw [Alg.shn_val]
  by_cases h : t ≤ u
  · by_cases h2 : u - t < j
    · rw [if_pos ⟨h, h2⟩, if_pos h]
    · rw [if_neg (by omega), if_pos h, hG _ (by omega), Alg.mul_zero, Alg.sub_zero]
  · rw [if_neg (by omega), if_neg h, Alg.mul_zero, Alg.sub_zero]
theorem cut_succ (R G : Ser M.K) (k : M.K) (t j u : Nat) : cut M R G k t (j + 1) u = if u = t + j then R u - k * G j else cut M R G k t j u := by
  unfold cut
  by_cases h : u = t + j
  · rw [if_pos h, if_pos (by omega), show u - t = j from by omega]
  · rw [if_neg h]
    by_cases h2 : t ≤ u ∧ u - t < j
    · rw [if_pos h2, if_pos (by omega)]
    · rw [if_neg h2, if_neg (by omega)]
/-- One round: what the quotient gains and the remainder loses. -/
theorem round_eq {A Q R G : Ser M.K} {n t : Nat} {y : M.K} (hG : Bd G (n + 1)) (hy : y * G n = 1) (hR : Bd R (n + t + 1)) (h : A = sadd (pmul Q G) R) :
    A = sadd (pmul (sadd Q (shn t (cst (R (n + t) * y)))) G) (cut M R G (R (n + t) * y) t (n + 1)) ∧ Bd (cut M R G (R (n + t) * y) t (n + 1)) (n + t) := by
  rw [cut_full M R _ t hG, Alg.pmul_sadd_left, Alg.shn_pmul]
  constructor
  · rw [h]
    funext i
    simp only [sadd, ssub, smul]
    rw [Alg.add_assoc, Alg.sub_def, Alg.add_left_comm (R (n + t) * y * _), Alg.add_neg, Alg.add_zero]
  · intro u hu
    simp only [ssub, smul]
    rw [Alg.shn_val, if_pos (by omega)]
    rcases Nat.eq_or_lt_of_le hu with rfl | h1
    · rw [show n + t - t = n from by omega, Alg.mul_assoc, hy, Alg.mul_one, Alg.sub_self]
    · rw [hR u (by omega), hG (u - t) (by omega), Alg.mul_zero, Alg.sub_zero]
/-- The quotient's list, one cell set. -/
theorem quot_set {Q : Ser M.K} {N t : Nat} (ht : t < N) (k : M.K) (hQ : Q t = 0) : (mk M Q N).set t (M.v k) = mk M (sadd Q (shn t (cst k))) N := by
  have h : (sadd Q (shn t (cst k))) t = k := by
    simp only [sadd]
    rw [hQ, Alg.shn_val, if_pos (Nat.le_refl _), Nat.sub_self, Alg.zero_add]
    rfl
  have := mk_put M (F := Q) (G := sadd Q (shn t (cst k))) ht (by
    intro m
    by_cases e : m = t
    · rw [if_pos e, e]
    · rw [if_neg e]
      simp only [sadd]
      rw [Alg.shn_val]
      by_cases h2 : t ≤ m
      · rw [if_pos h2]
        show Q m + (if m - t = 0 then k else 0) = Q m
        rw [if_neg (by omega), Alg.add_zero]
      · rw [if_neg h2, Alg.add_zero])
  rwa [h] at this
theorem ev_division_l {A G : Ser M.K} {b : List Int} {n N L : Nat} {y : M.K} (hb : inB s b = true) (hbe : co M b = G) (hbl : b.length = n + 1) (hG : Bd G (n + 1)) (hy : y * G n = 1) (hL : L < 2 ^ 40) (hN : N = L - n) (t : Nat) :
    ∀ Q R : Ser M.K, n + t ≤ L → Bd R (n + t) → (∀ u, u < t → Q u = 0) → Bd Q N → A = sadd (pmul Q G) R →
    ∃ Q' R', A = sadd (pmul Q' G) R' ∧ Bd Q' N ∧ Bd R' n ∧ Ev (fun k => polynomial_division.l0 k b (n : Int) (M.v y) (mk M R L) (mk M Q N) ((n : Int) + (t : Int) - 1) c s p) (trim (mk M Q' N), trim (mk M R' L)) := by
  induction t with
  | zero =>
    intro Q R hl hR hQ0 hQ h
    refine ⟨Q, R, h, hQ, hR, evs ?_⟩
    simp only [polynomial_division.l0]
    refine evf (by omega) (Ev.bind (ev_trim ?_) (Ev.bind (ev_trim ?_) (Ev.now _)))
    · rw [mk_length]; omega
    · rw [mk_length]; omega
  | succ t ih =>
    intro Q R hl hR hQ0 hQ h
    obtain ⟨e1, e2⟩ := round_eq M hG hy (t := t) (by rw [Nat.add_assoc]; exact hR) h
    obtain ⟨Q', R', h1, h2, h3, h4⟩ := ih (sadd Q (shn t (cst (R (n + t) * y)))) (cut M R G (R (n + t) * y) t (n + 1)) (by omega) e2
      (fun u hu => by
        simp only [sadd]
        rw [hQ0 u (by omega), Alg.shn_val, if_neg (by omega), Alg.zero_add])
      (hQ.sadd fun u hu => by
        rw [Alg.shn_val]
        by_cases hh : t ≤ u
        · rw [if_pos hh]
          show (if u - t = 0 then _ else (0 : M.K)) = 0
          rw [if_neg (by omega)]
        · rw [if_neg hh]) e1
    refine ⟨Q', R', h1, h2, h3, evs ?_⟩
    simp only [polynomial_division.l0]
    have hi : (n : Int) + ((t + 1 : Nat) : Int) - 1 = ((n + t : Nat) : Int) := by omega
    rw [hi, mk_get M R (show n + t < L by omega), show wrap64 (((n + t : Nat) : Int) - (n : Int)) = (t : Int) from by rw [w64 (by omega) (by omega)]; omega]
    refine evt (by omega) (evt (by omega) (evt (by rw [mk_length]; omega) (Ev.bind (ev_mul M _ _) (evt (by omega) (evt (by rw [mk_length]; omega) ?_)))))
    rw [Int.toNat_natCast, quot_set M (show t < N by omega) _ (hQ0 t (by omega))]
    have key : ∀ u j : Nat, j + u = n + 1 → Ev (fun k => polynomial_division.l1 k b (n : Int) (M.v y) (mk M (cut M R G (R (n + t) * y) t j) L) (mk M (sadd Q (shn t (cst (R (n + t) * y)))) N) ((n + t : Nat) : Int) (M.v (R (n + t) * y)) b (b.length : Int) (j : Int) c s p) (trim (mk M Q' N), trim (mk M R' L)) := by
      intro u
      induction u with
      | zero =>
        intro j hj
        refine evs ?_
        simp only [polynomial_division.l1]
        refine evf (by omega) ?_
        rw [show j = n + 1 from by omega, show wrap64 (((n + t : Nat) : Int) - 1) = (n : Int) + (t : Int) - 1 from by rw [w64 (by omega) (by omega)]; omega]
        exact h4
      | succ u ihu =>
        intro j hj
        refine evs ?_
        simp only [polynomial_division.l1]
        rw [show wrap64 (((n + t : Nat) : Int) - (n : Int)) = (t : Int) from by rw [w64 (by omega) (by omega)]; omega, show wrap64 ((t : Int) + (j : Int)) = ((t + j : Nat) : Int) from by rw [w64 (by omega) (by omega)]; omega, rd_co M hb (show j < b.length by omega), hbe, mk_get M _ (show t + j < L by omega)]
        refine evt (by omega) (evt (by omega) (evt (by omega) (evt (by omega) (evt (by rw [mk_length]; omega) (Ev.bind (ev_mul M _ _) ?_)))))
        simp only [psub_eq M]
        refine Ev.bind (Ev.now _) ?_
        rw [Int.toNat_natCast, show wrap64 ((j : Int) + 1) = ((j + 1 : Nat) : Int) from w64 (by omega) (by omega)]
        have hs := cut_succ M R G (R (n + t) * y) t j
        have hc : cut M R G (R (n + t) * y) t j (t + j) = R (t + j) := by unfold cut; rw [if_neg (by omega)]
        have he : cut M R G (R (n + t) * y) t (j + 1) (t + j) = cut M R G (R (n + t) * y) t j (t + j) - R (n + t) * y * G j := by rw [hs, if_pos rfl, hc]
        have hp := mk_put M (F := cut M R G (R (n + t) * y) t j) (G := cut M R G (R (n + t) * y) t (j + 1)) (n := L) (i := t + j) (by omega) (by
          intro m
          by_cases e : m = t + j
          · subst e; rw [if_pos rfl]
          · rw [if_neg e, hs, if_neg e])
        rw [he] at hp
        rw [hp]
        exact ihu (j + 1) (by omega)
    have := key (n + 1) 0 (by omega)
    rw [cut_zero] at this
    exact this
theorem ev_division {a b : List Int} {A G : Ser M.K} (ha : PL M a A) (hb : PL M b G) (hla : a.length < 2 ^ 39) (hlb : b.length < 2 ^ 39) {n : Nat} (hn : b.length = n + 1) :
    ∃ q r Q R, PL M q Q ∧ PL M r R ∧ A = sadd (pmul Q G) R ∧ Bd R n ∧ q.length ≤ a.length ∧ r.length ≤ a.length ∧ Ev (fun k => polynomial_division.f k c s p a b) (q, r) := by
  have hG : Bd G (n + 1) := hn ▸ hb.bd M
  have hne : G n ≠ 0 := hb.top M hn
  obtain ⟨Q, R, h1, h2, h3, h4⟩ : ∃ Q' R', A = sadd (pmul Q' G) R' ∧ Bd Q' (a.length - n) ∧ Bd R' n ∧ Ev (fun k => polynomial_division.l0 k b (n : Int) (M.v (inv M (G n))) (mk M A a.length) (mk M (fun _ => 0) (a.length - n)) ((a.length : Int) - 1) c s p) (trim (mk M Q' (a.length - n)), trim (mk M R' a.length)) := by
    by_cases hl : n ≤ a.length
    · have := ev_division_l M (A := A) hb.inb hb.eq hn hG (inv_mul M hne) (L := a.length) (by omega) rfl (a.length - n) (fun _ => 0) A (by omega) (by rw [show n + (a.length - n) = a.length from by omega]; exact ha.bd M) (fun _ _ => rfl) (Alg.bd_zero _) (by rw [Alg.pmul_zero_left]; funext i; exact (Alg.zero_add _).symm)
      rw [show (n : Int) + ((a.length - n : Nat) : Int) - 1 = (a.length : Int) - 1 from by omega] at this
      exact this
    · refine ⟨fun _ => 0, A, by rw [Alg.pmul_zero_left]; funext i; exact (Alg.zero_add _).symm, Alg.bd_zero _, (ha.bd M).mono (by omega), evs ?_⟩
      simp only [polynomial_division.l0]
      refine evf (by omega) (Ev.bind (ev_trim ?_) (Ev.bind (ev_trim ?_) (Ev.now _)))
      · rw [mk_length]; omega
      · rw [mk_length]; omega
  have hR : Bd R a.length := by
    by_cases hl : n ≤ a.length
    · exact h3.mono hl
    · have hQ0 : Q = fun _ => 0 := Alg.zero_of_bd (by rw [show a.length - n = 0 from by omega] at h2; exact h2)
      rw [hQ0, Alg.pmul_zero_left] at h1
      have : A = R := h1.trans (by funext i; exact Alg.zero_add _)
      exact this ▸ ha.bd M
  refine ⟨_, _, Q, R, PL.nf M h2, PL.nf M hR, h1, h3, Nat.le_trans (nf_len M _ _) (by omega), nf_len M _ _, ?_⟩
  unfold polynomial_division.f
  rw [show wrap64 ((b.length : Int) - 1) = (n : Int) from by rw [w64 (by omega) (by omega)]; omega, rd_co M hb.inb (show n < b.length by omega), hb.eq,
    show mx 0 (wrap64 ((a.length : Int) - (n : Int))) = ((a.length - n : Nat) : Int) from by rw [w64 (by omega) (by omega)]; unfold mx; split <;> omega, Int.toNat_natCast,
    show wrap64 ((a.length : Int) - 1) = (a.length : Int) - 1 from w64 (by omega) (by omega)]
  refine evt (by omega) (evt (by omega) (Ev.bind (ev_inv M hne) ?_))
  simp only [slices_Clone_int_int.f]
  refine Ev.bind (evt (by omega) (Ev.now _)) (evt (by omega) (evt (by omega) ?_))
  rw [mk_none, ha.list] at h4
  exact h4
end
end Go.Proofs.Ytlhaclammaaabaa.Pg
