import Derived.Test.YtlhaclammaaabaaP24
import Derived.Test.YtlhaclammaaabaaUAll
/-! GaloisLogs, with no program in sight. -/
namespace Go.Proofs.Ytlhaclammaaabaa.Pg
open Go.RowKit Go.Proofs.YtlhaclammaaabaaW.PrintWords Go.Proofs.YtlhaclammaaabaaW.PrintLast Go.Proofs.YtlhaclammaaabaaW.PrintMore
open Go.Proofs.Ytlhaclammaaabaa.Alg (CF card pw)
set_option linter.unusedVariables false
set_option maxRecDepth 100000
theorem alive_true' : barscanlaw04_alive.f 60 = some true := by decide +kernel
theorem ev_alive' : Ev (fun k => barscanlaw04_alive.f k) true := Ev.of (fun k => barscanlaw04_alive.mono k) alive_true'
theorem inB_one {s x : Int} (h : inB s [x] = true) : 0 ≤ x ∧ x < s := by simpa [inB] using h

theorem both_Order (c s p a : Int) (hs : s < 2 ^ 63) : ∃ r, Ev (fun k => galois_Order.f k c s p a) r ∧ Ev (fun k => barscanref04_Order.f k c s p a) r := by
  unfold galois_Order.f barscanref04_Order.f
  simp only [ev_Is]
  by_cases hg : Good c s p
  · by_cases hin : inB s [a] = true
    · obtain ⟨M⟩ := model hg
      have hg' := goodB_iff.2 hg
      by_cases h0 : a = 0
      · refine ⟨(0, 12), Ev.bind (ev_member [a] (by simp)) ?_, Ev.bind (rValid hs) ?_⟩
        · rw [hin, hg']
          exact evt rfl (evt h0 (Ev.now _))
        · rw [hg']
          refine evt rfl (Ev.bind (Ev.now _) (evs ?_))
          simp only [barscanref04_Order.j0, hin]
          exact evf (by simp) (evt h0 (Ev.now _))
      · obtain ⟨h1, h2⟩ := inB_one hin
        obtain ⟨x, rfl⟩ := M.of a h1 h2
        obtain ⟨m, hm⟩ := Alg.exists_ord (a := x) (fun e => h0 ((v_zero_iff M x).2 e))
        refine ⟨((m : Int), 0), Ev.bind (ev_member [M.v x] (by simp)) ?_, Ev.bind (rValid hs) ?_⟩
        · rw [hin, hg']
          exact evt rfl (evf h0 (Ev.bind (ev_order M hm) (Ev.now _)))
        · rw [hg']
          refine evt rfl (Ev.bind (Ev.now _) (evs ?_))
          simp only [barscanref04_Order.j0, hin]
          exact evf (by simp) (evf h0 (Ev.bind (rOrder M hm) (Ev.now _)))
    · refine ⟨(0, 1), Ev.bind (ev_member [a] (by simp)) ?_, Ev.bind (rValid hs) ?_⟩
      · rw [Bool.eq_false_iff.2 hin]
        exact evf (by simp) (Ev.now _)
      · rw [goodB_iff.2 hg]
        refine evt rfl (Ev.bind (Ev.now _) (evs ?_))
        simp only [barscanref04_Order.j0, Bool.eq_false_iff.2 hin]
        exact evt (by simp) (Ev.now _)
  · have hg' := goodB_false hg
    refine ⟨(0, 1), Ev.bind (ev_member [a] (by simp)) ?_, Ev.bind (rValid hs) ?_⟩
    · rw [hg', Bool.and_false]
      exact evf (by simp) (Ev.now _)
    · rw [hg']
      refine evf (by simp) (evs ?_)
      simp only [barscanref04_Order.j0]
      exact evt (by simp) (Ev.now _)
theorem both_Generator (c s p : Int) (hs : s < 2 ^ 63) : ∃ r, Ev (fun k => galois_Generator.f k c s p) r ∧ Ev (fun k => barscanref04_Generator.f k c s p) r := by
  unfold galois_Generator.f barscanref04_Generator.f
  by_cases hg : Good c s p
  · obtain ⟨M⟩ := model hg
    have hg' := goodB_iff.2 hg
    obtain ⟨g, hl⟩ := exists_gen_least M
    refine ⟨(M.v g, 0), Ev.bind ev_Valid ?_, Ev.bind (rValid hs) ?_⟩
    · rw [hg']
      exact evt rfl (Ev.bind (ev_generator M hl) (Ev.now _))
    · rw [hg']
      exact evt rfl (Ev.bind (rPrimitive M hl) (Ev.now _))
  · have hg' := goodB_false hg
    refine ⟨(0, 1), Ev.bind ev_Valid ?_, Ev.bind (rValid hs) ?_⟩
    · rw [hg']
      exact evf (by simp) (Ev.now _)
    · rw [hg']
      exact evf (by simp) (Ev.now _)
section
variable {c s p : Int} (M : Model c s p)
theorem ev_log_l {g a : M.K} {e : Nat} (he : pw g e = a) (hmin : ∀ n, n < e → pw g n ≠ a) (hes : (e : Int) < s) (j : Nat) : ∀ n : Nat, n + j = e → Ev (fun k => galois_Log.l0 k (M.v a) (M.v g) (n : Int) (M.v (pw g n)) c s p) ((e : Int), 0) := by
  have hs := M.small
  induction j with
  | zero =>
    intro n hn
    have : n = e := by omega
    subst this
    refine evs ?_
    simp only [galois_Log.l0]
    exact evt (by rw [he]) (Ev.now _)
  | succ j ih =>
    intro n hn
    refine evs ?_
    simp only [galois_Log.l0]
    refine evf (fun e' => hmin n (by omega) (M.inj _ _ e')) (Ev.bind (M.times _ _) ?_)
    rw [show wrap64 ((n : Int) + 1) = ((n + 1 : Nat) : Int) from w64 (by omega) (by omega)]
    exact ih (n + 1) (by omega)
theorem rLog_l {g a : M.K} {e : Nat} (he : pw g e = a) (hmin : ∀ n, n < e → pw g n ≠ a) (hes : (e : Int) < s) (j : Nat) : ∀ n : Nat, n + j = e → Ev (fun k => barscanref04_Log.l0 k (M.v a) (M.v g) (M.v (pw g n)) (n : Int) c s p) ((e : Int), 0) := by
  have hs := M.small
  induction j with
  | zero =>
    intro n hn
    have : n = e := by omega
    subst this
    refine evs ?_
    simp only [barscanref04_Log.l0]
    exact evt hes (evt (by rw [he]) (Ev.now _))
  | succ j ih =>
    intro n hn
    refine evs ?_
    simp only [barscanref04_Log.l0]
    refine evt (by omega) (evf (fun e' => hmin n (by omega) (M.inj _ _ e')) (Ev.bind (M.rtimes _ _) ?_))
    rw [show wrap64 ((n : Int) + 1) = ((n + 1 : Nat) : Int) from w64 (by omega) (by omega)]
    exact ih (n + 1) (by omega)
/-- The logarithm. -/
theorem exists_lg {g a : M.K} (hg : Least M g) (ha : a ≠ 0) : ∃ e : Nat, pw g e = a ∧ (∀ n, n < e → pw g n ≠ a) ∧ (e : Int) < s - 1 := by
  have h1 := M.size
  have h2 := M.big
  obtain ⟨n, hn, hp⟩ := Alg.exists_log hg.1 ha
  obtain ⟨e, he, hm⟩ := exists_least (P := fun n => pw g n = a) ⟨n, hp⟩
  refine ⟨e, he, hm, ?_⟩
  have : e ≤ n := by
    apply Decidable.byContradiction
    intro hk
    exact hm n (by omega) hp
  omega
theorem ev_Log {g a : M.K} {e : Nat} (hg : Least M g) (ha : a ≠ 0) (he : pw g e = a) (hmin : ∀ n, n < e → pw g n ≠ a) (hes : (e : Int) < s - 1) : Ev (fun k => galois_Log.f k c s p (M.v a)) ((e : Int), 0) := by
  unfold galois_Log.f
  have hin : inB s [M.v a] = true := by simp [inB, M.low, M.high]
  refine Ev.bind (ev_member _ (by simp)) ?_
  rw [hin, goodB_iff.2 M.good]
  refine evt rfl (evf (fun e => ha ((v_zero_iff M a).1 e)) (Ev.bind (ev_generator M hg) ?_))
  have := ev_log_l M he hmin (by omega) e 0 (by omega)
  rw [Alg.pw_zero, M.one] at this
  exact this
end
theorem both_Log (c s p a : Int) (hs : s < 2 ^ 63) : ∃ r, Ev (fun k => galois_Log.f k c s p a) r ∧ Ev (fun k => barscanref04_Log.f k c s p a) r := by
  by_cases hg : Good c s p
  · have hg' := goodB_iff.2 hg
    by_cases hin : inB s [a] = true
    · obtain ⟨M⟩ := model hg
      by_cases h0 : a = 0
      · unfold galois_Log.f barscanref04_Log.f
        simp only [ev_Is]
        refine ⟨(0, 12), Ev.bind (ev_member [a] (by simp)) ?_, Ev.bind (rValid hs) ?_⟩
        · rw [hin, hg']
          exact evt rfl (evt h0 (Ev.now _))
        · rw [hg']
          refine evt rfl (Ev.bind (Ev.now _) (evs ?_))
          simp only [barscanref04_Log.j0, hin]
          exact evf (by simp) (evt h0 (Ev.now _))
      · obtain ⟨h1, h2⟩ := inB_one hin
        obtain ⟨x, rfl⟩ := M.of a h1 h2
        have hx : x ≠ 0 := fun e => h0 ((v_zero_iff M x).2 e)
        obtain ⟨g, hl⟩ := exists_gen_least M
        obtain ⟨e, he, hm, hes⟩ := exists_lg M hl hx
        refine ⟨((e : Int), 0), ev_Log M hl hx he hm hes, ?_⟩
        unfold barscanref04_Log.f
        simp only [ev_Is]
        refine Ev.bind (rValid hs) ?_
        rw [hg']
        refine evt rfl (Ev.bind (Ev.now _) (evs ?_))
        simp only [barscanref04_Log.j0, hin]
        refine evf (by simp) (evf h0 (Ev.bind (rPrimitive M hl) ?_))
        have := rLog_l M he hm (by omega) e 0 (by omega)
        rw [Alg.pw_zero, M.one] at this
        exact this
    · unfold galois_Log.f barscanref04_Log.f
      simp only [ev_Is]
      refine ⟨(0, 1), Ev.bind (ev_member [a] (by simp)) ?_, Ev.bind (rValid hs) ?_⟩
      · rw [Bool.eq_false_iff.2 hin]
        exact evf (by simp) (Ev.now _)
      · rw [hg']
        refine evt rfl (Ev.bind (Ev.now _) (evs ?_))
        simp only [barscanref04_Log.j0, Bool.eq_false_iff.2 hin]
        exact evt (by simp) (Ev.now _)
  · have hg' := goodB_false hg
    unfold galois_Log.f barscanref04_Log.f
    simp only [ev_Is]
    refine ⟨(0, 1), Ev.bind (ev_member [a] (by simp)) ?_, Ev.bind (rValid hs) ?_⟩
    · rw [hg', Bool.and_false]
      exact evf (by simp) (Ev.now _)
    · rw [hg']
      refine evf (by simp) (evs ?_)
      simp only [barscanref04_Log.j0]
      exact evt (by simp) (Ev.now _)
theorem pure_GaloisLogs (c s p a b n : Int) (hs : s < 2 ^ 63) : ∃ k, barscanlaw04_GaloisLogs.f k c s p a b n = some true := by
  refine Ev.rounds ?_
  simp only [barscanlaw04_GaloisLogs.f]
  obtain ⟨r1, a1, b1⟩ := both_Order c s p a hs
  obtain ⟨r2, a2, b2⟩ := both_Generator c s p hs
  obtain ⟨r3, a3, b3⟩ := both_Log c s p a hs
  refine Ev.bind a1 (Ev.bind b1 (Ev.bind a2 (Ev.bind b2 ?_)))
  refine evt rfl (evt rfl (evt rfl (evs ?_)))
  simp only [barscanlaw04_GaloisLogs.j0]
  refine evf (by simp) (Ev.bind a3 (Ev.bind b3 (evt rfl (evt rfl ?_))))
  exact Ev.bind ev_alive' (Ev.now _)
end Go.Proofs.Ytlhaclammaaabaa.Pg
