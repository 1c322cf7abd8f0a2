import Derived.Test.YtlhaclammaaabaaB50
import Derived.Test.YtlhaclammaaabaaB16
import Derived.Test.YtlhaclammaaabaaB7
import Derived.Test.YtlhaclammaaabaaB29
import Derived.Test.YtlhaclammaaabaaB9
import Derived.Test.YtlhaclammaaabaaB6
import Derived.Test.YtlhaclammaaabaaUAll
/-! GaloisExponents, with no program in sight. -/
namespace Go.Proofs.Ytlhaclammaaabaa.Pg
open Go.RowKit Go.Proofs.YtlhaclammaaabaaW.PrintWords Go.Proofs.YtlhaclammaaabaaW.PrintLast Go.Proofs.YtlhaclammaaabaaW.PrintMore
open Go.Proofs.Ytlhaclammaaabaa.Alg (CF card pw)
set_option maxRecDepth 1000000
theorem alive_true4 : barscanlaw04_alive.f 60 = some true := by decide +kernel
theorem ev_alive4 : Ev (fun k => barscanlaw04_alive.f k) true := Ev.of (fun k => barscanlaw04_alive.mono k) alive_true4
/-- An exponent, reduced. -/
def red (s n : Int) : Nat := (n % (s - 1)).toNat
theorem red_lt {s : Int} (h : 2 ≤ s) (n : Int) : (red s n : Int) = n % (s - 1) ∧ (red s n : Int) < s - 1 := by
  have h1 := Int.emod_nonneg n (show s - 1 ≠ 0 by omega)
  have h2 := Int.emod_lt_of_pos n (show 0 < s - 1 by omega)
  unfold red
  omega
theorem red_eq {s : Int} (h : 2 ≤ s) (h' : s ≤ 4096) (n : Int) : Int.tmod (wrap64 (Int.tmod n (s - 1) + (s - 1))) (s - 1) = (red s n : Int) := by
  have l1 := Int.tmod_lt_of_pos n (show 0 < s - 1 by omega)
  have l2 := Int.lt_tmod_of_pos n (show 0 < s - 1 by omega)
  rw [w64 (by omega) (by omega), (red_lt h n).1, Int.tmod_eq_emod_of_nonneg (by omega), Int.add_emod_right, Int.tmod_def, Int.sub_mul_emod_self_left]
theorem red_add {s : Int} (h : 2 ≤ s) (n m : Int) : ∃ N : Nat, (N : Int) = s - 1 ∧ red s (n + m) % N = (red s n + red s m) % N ∧ red s n % N = red s n := by
  refine ⟨(s - 1).toNat, by omega, ?_, ?_⟩
  · have h1 := (red_lt h n).1
    have h2 := (red_lt h m).1
    have h3 := (red_lt h (n + m)).1
    have e : (((s - 1).toNat : Nat) : Int) = s - 1 := by omega
    apply Int.ofNat.inj
    show ((red s (n + m) % (s - 1).toNat : Nat) : Int) = (((red s n + red s m) % (s - 1).toNat : Nat) : Int)
    rw [Int.natCast_emod, Int.natCast_emod, Int.natCast_add, h1, h2, h3, e, Int.emod_emod, ← Int.add_emod]
  · have := red_lt h n
    exact Nat.mod_eq_of_lt (by omega)
section
variable {c s p : Int} (M : Model c s p)
theorem pw_fermat {x : M.K} (hx : x ≠ 0) : ∀ N : Nat, (N : Int) = s - 1 → pw x N = 1 := fun N hN => by
  have h1 := M.size
  rw [show N = card M.K - 1 from by omega]
  exact Alg.fermat hx
theorem pw_red_add {x : M.K} (hx : x ≠ 0) (n m : Int) : pw x (red s (n + m)) = pw x (red s n) * pw x (red s m) := by
  obtain ⟨N, hN, h, _⟩ := red_add M.big n m
  rw [← Alg.pw_add, Alg.pw_mod (pw_fermat M hx N hN) (red s (n + m)), h, ← Alg.pw_mod (pw_fermat M hx N hN)]
theorem pw_red_nat {x : M.K} (hx : x ≠ 0) (n : Nat) : pw x (red s (n : Int)) = pw x n := by
  have h1 := red_lt M.big (n : Int)
  have hb := M.big
  rw [Alg.pw_mod (pw_fermat M hx (s - 1).toNat (by omega)) n]
  congr 1
  have e : (((s - 1).toNat : Nat) : Int) = s - 1 := by omega
  apply Int.ofNat.inj
  show (red s (n : Int) : Int) = ((n % (s - 1).toNat : Nat) : Int)
  rw [Int.natCast_emod, h1.1, e]
theorem both_in4 (a b : M.K) : (inB s [M.v a, M.v b] && goodB c s p) = true := by
  rw [goodB_iff.2 M.good]
  simp [inB, M.low, M.high]
theorem one_in4 (a : M.K) : (inB s [M.v a] && goodB c s p) = true := by
  rw [goodB_iff.2 M.good]
  simp [inB, M.low, M.high]
theorem xAdd (a b : M.K) : Ev (fun k => barscanlaw04_calc_add.f k c s p true (M.v a) (M.v b)) (M.v (a + b), c, s, p, true) := by
  have h0 : Ev (fun k => galois_Add.f k c s p (M.v a) (M.v b)) (M.v (a + b), 0) := by
    unfold galois_Add.f
    refine Ev.bind (ev_member _ (by simp)) (evt (both_in4 M a b) ?_)
    by_cases h : c = 2
    · exact evt h (evn (by rw [M.xadd h]) (Ev.now _))
    · exact evf h (evf (by have := M.big; omega) (evn (by rw [M.madd h]) (Ev.now _)))
  exact Ev.bind h0 (evt rfl (Ev.now _))
theorem xMul (a b : M.K) : Ev (fun k => barscanlaw04_calc_mul.f k c s p true (M.v a) (M.v b)) (M.v (a * b), c, s, p, true) := by
  have h0 : Ev (fun k => galois_Mul.f k c s p (M.v a) (M.v b)) (M.v (a * b), 0) := by
    unfold galois_Mul.f
    exact Ev.bind (ev_member _ (by simp)) (evt (both_in4 M a b) (Ev.bind (M.times a b) (Ev.now _)))
  exact Ev.bind h0 (evt rfl (Ev.now _))
theorem xPow {x : M.K} (hx : x ≠ 0) (n : Int) : Ev (fun k => barscanlaw04_calc_pow.f k c s p true (M.v x) n) (M.v (pw x (red s n)), c, s, p, true) := by
  have hv : M.v x ≠ 0 := fun e => hx ((v_zero_iff M x).1 e)
  have h1 := M.small
  have h2 := M.big
  have h3 := red_lt h2 n
  have w : wrap64 (s - 1) = s - 1 := w64 (by omega) (by omega)
  have he : galois_exponent.f c s p n = some (red s n : Int) := by
    unfold galois_exponent.f
    rw [w, red_eq h2 h1, if_neg (by omega)]
  have h0 : Ev (fun k => galois_Pow.f k c s p (M.v x) n) (M.v (pw x (red s n)), 0) := by
    unfold galois_Pow.f
    refine Ev.bind (ev_member _ (by simp)) (evt (one_in4 M x) (evf hv (evs ?_)))
    simp only [galois_Pow.j0]
    refine evf (by simp) (evf hv (evs ?_))
    simp only [galois_Pow.j1, he]
    exact evf (by simp) (Ev.bind (Ev.now _) (Ev.bind (ev_power M x (by omega)) (Ev.now _)))
  exact Ev.bind h0 (evt rfl (Ev.now _))
theorem xPow_zero {n : Int} (hn : 0 < n) : Ev (fun k => barscanlaw04_calc_pow.f k c s p true (M.v 0) n) (M.v 0, c, s, p, true) := by
  have h0 : Ev (fun k => galois_Pow.f k c s p (M.v 0) n) (M.v 0, 0) := by
    have hin := one_in4 M 0
    unfold galois_Pow.f
    rw [M.zero] at hin ⊢
    refine Ev.bind (ev_member _ (by simp)) (evt hin (evt rfl (evs ?_)))
    simp only [galois_Pow.j0]
    refine evf (by simp; omega) (evt trivial (evs ?_))
    simp only [galois_Pow.j1]
    exact evt (by simp; omega) (Ev.now _)
  exact Ev.bind h0 (evt rfl (Ev.now _))
/-- The power Char, of every element. -/
theorem xPow_char (x : M.K) {q : Nat} (hq : c = q) (h0 : 0 < q) : Ev (fun k => barscanlaw04_calc_pow.f k c s p true (M.v x) c) (M.v (pw x q), c, s, p, true) := by
  by_cases hx : x = 0
  · subst hx
    rw [Alg.zero_pw h0]
    exact xPow_zero M (by omega)
  · have := xPow M hx c
    rw [show red s c = red s (q : Int) from by rw [← hq], pw_red_nat M hx q] at this
    exact this
theorem frob : ∃ q : Nat, c = q ∧ 0 < q ∧ ∀ x y : M.K, pw (x + y) q = pw x q + pw y q := by
  by_cases h : c = 2
  · refine ⟨2, h, by omega, fun x y => ?_⟩
    have h2 : ∀ z : M.K, pw z 2 = z * z := fun z => by rw [Alg.pw_succ, Alg.pw_one]
    rw [h2, h2, h2, Alg.mul_add, Alg.add_mul, Alg.add_mul, Alg.mul_comm y x, Alg.add_assoc, ← Alg.add_assoc (x * y)]
    have e : x * y + x * y = 0 := by
      have := M.xneg h (x * y)
      calc x * y + x * y = -(x * y) + x * y := by rw [this]
        _ = 0 := Alg.neg_add _
    rw [e, Alg.zero_add]
  · obtain ⟨_, q, hc, hs, h3, _, _⟩ := good_odd h M.good
    have hf : ∀ z : M.K, pw z q = z := fun z => by
      have h1 := M.size
      by_cases hz : z = 0
      · rw [hz, Alg.zero_pw (by omega)]
      · rw [show q = (card M.K - 1) + 1 from by omega, Alg.pw_succ, Alg.fermat hz, Alg.one_mul]
    exact ⟨q, hc, by omega, fun x y => by rw [hf, hf, hf]⟩
theorem xOrder {x : M.K} (hx : x ≠ 0) : ∃ o : Nat, Alg.Ord x o ∧ Ev (fun k => galois_Order.f k c s p (M.v x)) ((o : Int), 0) := by
  obtain ⟨o, ho⟩ := Alg.exists_ord hx
  have hv : M.v x ≠ 0 := fun e => hx ((v_zero_iff M x).1 e)
  refine ⟨o, ho, ?_⟩
  unfold galois_Order.f
  exact Ev.bind (ev_member _ (by simp)) (evt (one_in4 M x) (evf hv (Ev.bind (ev_order M ho) (Ev.now _))))
end
theorem pure_GaloisExponents (c s p a b n m : Int) (hs : s < 2 ^ 63) : ∃ k, barscanlaw04_GaloisExponents.f k c s p a b n m = some true := by
  refine Ev.rounds ?_
  simp only [barscanlaw04_GaloisExponents.f, ev_Is]
  refine Ev.bind (rValid hs) ?_
  have al : Ev (fun k => (barscanlaw04_alive.f k).bind fun t => some t) true := Ev.bind ev_alive4 (Ev.now _)
  by_cases hg : goodB c s p = true
  rotate_left
  · exact evf hg al
  refine evt hg (Ev.bind (Ev.now _) ?_)
  by_cases h1 : inB s [a] = true
  rotate_left
  · exact evf h1 al
  refine evt h1 (Ev.bind (Ev.now _) ?_)
  by_cases h2 : inB s [b] = true
  rotate_left
  · exact evf h2 al
  refine evt h2 ?_
  by_cases ha : a = 0
  · exact evt ha al
  refine evf ha ?_
  by_cases c1 : n < -1099511627776
  · exact evt c1 al
  refine evf c1 ?_
  by_cases c2 : n > 1099511627776
  · exact evt c2 al
  refine evf c2 ?_
  by_cases c3 : m < -1099511627776
  · exact evt c3 al
  refine evf c3 ?_
  by_cases c4 : m > 1099511627776
  · exact evt c4 al
  refine evf c4 ?_
  obtain ⟨M⟩ := model (goodB_iff.1 hg)
  have hin : ∀ t : Int, inB s [t] = true → ∃ x : M.K, M.v x = t := fun t ht => by
    simp [inB] at ht
    exact M.of t ht.1 ht.2
  obtain ⟨x, rfl⟩ := hin _ h1
  obtain ⟨y, rfl⟩ := hin _ h2
  have hx : x ≠ 0 := fun e => ha ((v_zero_iff M x).2 e)
  have hsm := M.small
  have hsb := M.big
  obtain ⟨o, ho, eo⟩ := xOrder M hx
  have hop := ho.1
  obtain ⟨q, hq, hq0, hfr⟩ := frob M
  have hdvd : Int.tmod (wrap64 (s - 1)) (o : Int) = 0 := by
    obtain ⟨t, ht⟩ := Alg.ord_le ho
    have h3 := M.size
    have h4 := Alg.card_pos (K := M.K)
    rw [w64 (by omega) (by omega), show s - 1 = (o : Int) * (t : Int) from by rw [← Int.natCast_mul, ← ht]; omega]
    exact Int.mul_tmod_right _ _
  have hpo := xPow M hx (o : Int)
  rw [pw_red_nat M hx o, ho.2.1] at hpo
  refine Ev.bind eo (evt rfl (evf (by show ¬ (o : Int) < 1; omega) (evf (by show ¬ (o : Int) = 0; omega) (evt hdvd (Ev.bind hpo (evt (M.one) ?_))))))
  refine Ev.bind (xPow M hx (wrap64 (n + m))) (Ev.bind (xPow M hx n) (Ev.bind (xPow M hx m) (Ev.bind (xMul M _ _) (evt ?_ ?_))))
  · show M.v _ = M.v _
    rw [w64 (by omega) (by omega), pw_red_add M hx]
  refine Ev.bind (xAdd M x y) (Ev.bind (xPow_char M (x + y) hq hq0) (Ev.bind (xPow_char M x hq hq0) (Ev.bind (xPow_char M y hq hq0) (Ev.bind (xAdd M _ _) (evt ?_ (evt rfl al))))))
  show M.v _ = M.v _
  rw [hfr]
end Go.Proofs.Ytlhaclammaaabaa.Pg
