import Derived.Test.YtlhaclammaaabaaP53
import Derived.Test.YtlhaclammaaabaaUAll
/-! GaloisLogarithms, with no program in sight. -/
namespace Go.Proofs.Ytlhaclammaaabaa.Pg
open Go.RowKit Go.Proofs.YtlhaclammaaabaaW.PrintWords Go.Proofs.YtlhaclammaaabaaW.PrintLast Go.Proofs.YtlhaclammaaabaaW.PrintMore
open Go.Proofs.Ytlhaclammaaabaa.Alg (CF card pw)
set_option linter.unusedVariables false
set_option linter.unusedSimpArgs false
set_option maxRecDepth 100000
theorem alive_true4 : barscanlaw04_alive.f 60 = some true := by decide +kernel
theorem ev_alive4 : Ev (fun k => barscanlaw04_alive.f k) true := Ev.of (fun k => barscanlaw04_alive.mono k) alive_true4
theorem inB_iff4 {s x : Int} : inB s [x] = true ↔ 0 ≤ x ∧ x < s := by simp [inB]
section
variable {c s p : Int} (M : Model c s p)
theorem log_l4 {g a : M.K} {e : Nat} (he : pw g e = a) (hmin : ∀ n, n < e → pw g n ≠ a) (hes : (e : Int) < s) (j : Nat) : ∀ n : Nat, n + j = e → Ev (fun k => galois_Log.l0 k (M.v a) (M.v g) (n : Int) (M.v (pw g n)) c s p) ((e : Int), 0) := by
  have hs := M.small
  induction j with
  | zero =>
    intro n hn
    have : n = e := by omega
    subst this
    refine evs ?_
    simp only [galois_Log.l0]
    exact evt (by rw [he]) (Ev.now _)
  | succ j ih =>
    intro n hn
    refine evs ?_
    simp only [galois_Log.l0]
    refine evf (fun e' => hmin n (by omega) (M.inj _ _ e')) (Ev.bind (M.times _ _) ?_)
    rw [show wrap64 ((n : Int) + 1) = ((n + 1 : Nat) : Int) from w64 (by omega) (by omega)]
    exact ih (n + 1) (by omega)
theorem exists_lg4 {g a : M.K} (hg : Least M g) (ha : a ≠ 0) : ∃ e : Nat, pw g e = a ∧ (∀ n, n < e → pw g n ≠ a) ∧ (e : Int) < s - 1 := by
  have h1 := M.size
  have h2 := M.big
  obtain ⟨n, hn, hp⟩ := Alg.exists_log hg.1 ha
  obtain ⟨e, he, hm⟩ := exists_least (P := fun n => pw g n = a) ⟨n, hp⟩
  refine ⟨e, he, hm, ?_⟩
  have : e ≤ n := by
    apply Decidable.byContradiction
    intro hk
    exact hm n (by omega) hp
  omega
theorem ev_Log4 {g a : M.K} {e : Nat} (hg : Least M g) (ha : a ≠ 0) (he : pw g e = a) (hmin : ∀ n, n < e → pw g n ≠ a) (hes : (e : Int) < s - 1) : Ev (fun k => galois_Log.f k c s p (M.v a)) ((e : Int), 0) := by
  unfold galois_Log.f
  have hin : inB s [M.v a] = true := by simp [inB, M.low, M.high]
  refine Ev.bind (ev_member _ (by simp)) ?_
  rw [hin, goodB_iff.2 M.good]
  refine evt rfl (evf (fun e => ha ((v_zero_iff M a).1 e)) (Ev.bind (ev_generator M hg) ?_))
  have := log_l4 M he hmin (by omega) e 0 (by omega)
  rw [Alg.pw_zero, M.one] at this
  exact this
theorem ev_Mul4 (x y : M.K) : Ev (fun k => galois_Mul.f k c s p (M.v x) (M.v y)) (M.v (x * y), 0) := by
  unfold galois_Mul.f
  have hin : inB s [M.v x, M.v y] = true := by simp [inB, M.low, M.high]
  refine Ev.bind (ev_member _ (by simp)) ?_
  rw [hin, goodB_iff.2 M.good]
  exact evt rfl (Ev.bind (M.times x y) (Ev.now _))
theorem ev_Exp4 {g : M.K} (hg : Least M g) {e : Nat} (he : (e : Int) < s - 1) : Ev (fun k => galois_Exp.f k c s p (e : Int)) (M.v (pw g e), 0) := by
  have h1 := M.small
  have h2 := M.big
  unfold galois_Exp.f
  refine Ev.bind ev_Valid ?_
  rw [goodB_iff.2 M.good]
  refine evt rfl (Ev.bind (ev_generator M hg) ?_)
  have ex : galois_exponent.f c s p (e : Int) = some (e : Int) := by
    unfold galois_exponent.f
    have w : wrap64 (s - 1) = s - 1 := w64 (by omega) (by omega)
    have t1 : Int.tmod (e : Int) (s - 1) = e := by rw [Int.tmod_eq_emod_of_nonneg (by omega)]; exact Int.emod_eq_of_lt (by omega) he
    rw [w, if_neg (by omega), t1, w64 (by omega) (by omega), Int.tmod_eq_emod_of_nonneg (by omega), Int.add_emod_right]
    rw [Int.emod_eq_of_lt (by omega) he]
  simp only [ex]
  exact Ev.bind (Ev.now _) (Ev.bind (ev_power M g (by omega)) (Ev.now _))
theorem pw_inj {g : M.K} {n i j : Nat} (hg : Alg.Ord g n) (hij : i < j) (hj : j < n) : pw g i ≠ pw g j := by
  intro e
  have h0 := Alg.ord_ne hg
  have h1 : pw g j = pw g i * pw g (j - i) := by rw [← Alg.pw_add]; congr 1; omega
  rw [h1] at e
  have h2 : pw g (j - i) = 1 := by
    apply Alg.mul_left_cancel (Alg.pw_ne h0 i)
    rw [← e, Alg.mul_one]
  have := hg.2.2 (j - i) (by omega) h2
  omega
theorem lg_unique {g : M.K} {n i j : Nat} (hg : Alg.Ord g n) (hi : i < n) (hj : j < n) (e : pw g i = pw g j) : i = j := by
  rcases Nat.lt_trichotomy i j with h | h | h
  · exact absurd e (pw_inj M hg h hj)
  · exact h
  · exact absurd e.symm (pw_inj M hg h hi)
end
theorem alive_j (k : Nat) (c s p a b n : Int) : barscanlaw04_GaloisLogarithms.j0 (k + 1) true c s p a b n = (barscanlaw04_alive.f k).bind fun t => some t := by
  simp only [barscanlaw04_GaloisLogarithms.j0, if_true]
theorem pure_GaloisLogarithms (c s p a b n : Int) (hs : s < 2 ^ 63) : ∃ k, barscanlaw04_GaloisLogarithms.f k c s p a b n = some true := by
  refine Ev.rounds ?_
  have al : Ev (fun k => barscanlaw04_GaloisLogarithms.j0 k true c s p a b n) true := by
    refine evs ?_
    simp only [alive_j]
    exact Ev.bind ev_alive4 (Ev.now _)
  simp only [barscanlaw04_GaloisLogarithms.f, ev_Is]
  refine Ev.bind (rValid hs) ?_
  by_cases hg : Good c s p
  rotate_left
  · rw [goodB_false hg]; exact evf (by simp) al
  rw [goodB_iff.2 hg]
  refine evt rfl (Ev.bind (Ev.now _) ?_)
  by_cases ha : inB s [a] = true
  rotate_left
  · exact evf ha al
  refine evt ha (Ev.bind (Ev.now _) ?_)
  by_cases hb : inB s [b] = true
  rotate_left
  · exact evf hb al
  refine evt hb ?_
  by_cases ha0 : a = 0
  · exact evt ha0 al
  refine evf ha0 ?_
  by_cases hb0 : b = 0
  · rw [beq_iff_eq.2 hb0]; exact al
  rw [beq_eq_false_iff_ne.2 hb0]
  refine evs ?_
  simp only [barscanlaw04_GaloisLogarithms.j0]
  obtain ⟨M⟩ := model hg
  have h1 := M.small
  have h2 := M.big
  have h3 := M.size
  obtain ⟨x, rfl⟩ := M.of a (inB_iff4.1 ha).1 (inB_iff4.1 ha).2
  obtain ⟨y, rfl⟩ := M.of b (inB_iff4.1 hb).1 (inB_iff4.1 hb).2
  have hx : x ≠ 0 := fun e => ha0 ((v_zero_iff M x).2 e)
  have hy : y ≠ 0 := fun e => hb0 ((v_zero_iff M y).2 e)
  obtain ⟨g, hl⟩ := exists_gen_least M
  obtain ⟨e1, he1, hm1, hs1⟩ := exists_lg4 M hl hx
  obtain ⟨e2, he2, hm2, hs2⟩ := exists_lg4 M hl hy
  obtain ⟨e3, he3, hm3, hs3⟩ := exists_lg4 M hl (Alg.mul_ne hx hy)
  have hw : wrap64 (s - 1) = s - 1 := w64 (by omega) (by omega)
  have hw2 : wrap64 ((e1 : Int) + (e2 : Int)) = ((e1 + e2 : Nat) : Int) := w64 (by omega) (by omega)
  obtain ⟨m, hm⟩ : ∃ m : Nat, s - 1 = m := ⟨(s - 1).toNat, by omega⟩
  have hord : Alg.Ord g m := by
    have := hl.1
    rwa [show card M.K - 1 = m from by omega] at this
  have hlog : e3 = (e1 + e2) % m := by
    refine lg_unique M hord (by omega) (Nat.mod_lt _ (by omega)) ?_
    rw [← Alg.pw_mod hord.2.1, he3, Alg.pw_add, he1, he2]
  refine evf (by simp) (Ev.bind (ev_Log4 M hl hx he1 hm1 hs1) (Ev.bind (ev_Log4 M hl hy he2 hm2 hs2) (Ev.bind (ev_Mul4 M x y) ?_)))
  refine Ev.bind (ev_Log4 M hl (Alg.mul_ne hx hy) he3 hm3 hs3) (Ev.bind (ev_Exp4 M hl hs1) ?_)
  refine evt rfl (evt rfl (evt rfl (evt rfl (evt rfl (evt (by rw [he1]) ?_)))))
  simp only [hw, hw2]
  refine evt (by omega) (evt hs1 (evt (by omega) (evt hs2 (evf (by omega) (evt ?_ (Ev.bind ev_alive4 (Ev.now _)))))))
  rw [hm, tmod_nat, hlog]
end Go.Proofs.Ytlhaclammaaabaa.Pg
