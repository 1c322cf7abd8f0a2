import Derived.Test.YtlhaclammaaabaaP30
import Derived.Test.YtlhaclammaaabaaUAll
/-! GaloisCalculates, with no program in sight. -/
namespace Go.Proofs.Ytlhaclammaaabaa.Pg
open Go.RowKit Go.Proofs.YtlhaclammaaabaaW.PrintWords Go.Proofs.YtlhaclammaaabaaW.PrintLast Go.Proofs.YtlhaclammaaabaaW.PrintMore
open Go.Proofs.Ytlhaclammaaabaa.Alg (CF card pw)
set_option linter.unusedVariables false
set_option linter.unusedSimpArgs false
set_option maxRecDepth 100000
theorem alive_true2 : barscanlaw04_alive.f 60 = some true := by decide +kernel
theorem ev_alive2 : Ev (fun k => barscanlaw04_alive.f k) true := Ev.of (fun k => barscanlaw04_alive.mono k) alive_true2
/-- What a function of two elements answers. -/
structure Two (c s p a b : Int) (f r : Nat → Option (Int × Int)) (R : Int × Int) : Prop where
  f : Ev f R
  r : Ev r R
theorem inB_two {s x y : Int} : inB s [x, y] = (inB s [x] && inB s [y]) := by
  rw [inB_cons, inB_cons s x, inB_nil, Bool.and_true]
theorem inB_iff {s x : Int} : inB s [x] = true ↔ 0 ≤ x ∧ x < s := by simp [inB]

section
variable {c s p : Int} (M : Model c s p)
theorem ev_Plus (a b : M.K) (k : Nat) : barscanref04_Plus.f c s p (M.v a) (M.v b) = some (M.v (a + b)) := by
  unfold barscanref04_Plus.f
  by_cases h : c = 2
  · rw [if_pos h, M.xadd h]
  · rw [if_neg h, if_neg (by have := M.big; omega), M.madd h]
theorem ev_Minus (a b : M.K) (k : Nat) : barscanref04_Minus.f c s p (M.v a) (M.v b) = some (M.v (a - b)) := by
  unfold barscanref04_Minus.f
  by_cases h : c = 2
  · rw [if_pos h, M.xadd h, Alg.sub_def, M.xneg h]
  · rw [if_neg h, if_neg (by have := M.big; omega), M.msub' h]
theorem ev_inverse (a : M.K) : Ev (fun k => galois_inverse.f k c s p (M.v a)) (M.v (pw a (s - 2).toNat)) := by
  have h1 := M.small
  have h2 := M.big
  unfold galois_inverse.f
  rw [w64 (x := s - 2) (by omega) (by omega), show s - 2 = (((s - 2).toNat : Nat) : Int) from by omega]
  exact Ev.bind (ev_power M a (by omega)) (evn (by congr 2) (Ev.now _))
theorem rInverse (a : M.K) : Ev (fun k => barscanref04_Inverse.f k c s p (M.v a)) (M.v (pw a (s - 2).toNat)) := by
  have h1 := M.small
  have h2 := M.big
  unfold barscanref04_Inverse.f
  rw [w64 (x := s - 2) (by omega) (by omega), show s - 2 = (((s - 2).toNat : Nat) : Int) from by omega]
  exact Ev.bind (rPower M a (by omega)) (evn (by congr 2) (Ev.now _))
end
theorem both_two {c s p a b : Int} (hs : s < 2 ^ 63) (f r : Nat → Option (Int × Int)) (F : Nat → Option (Int × Int)) (G : Nat → Option (Int × Int))
    (hf : f = fun k => (galois_member.f k c s p [a, b]).bind fun t => if t = true then F k else some (0, 1))
    (hr : r = fun k => (barscanref04_Valid.f k c s p).bind fun t => if t = true then ((barscanref04_Is.f c s p a).bind fun t => if t = true then ((barscanref04_Is.f c s p b).bind fun t => if t = true then G k else some (0, 1)) else some (0, 1)) else some (0, 1))
    (h : ∀ (M : Model c s p) (x y : M.K), M.v x = a → M.v y = b → ∃ R, Ev F R ∧ Ev G R) : ∃ R, Ev f R ∧ Ev r R := by
  subst hf hr
  simp only [ev_Is]
  by_cases hg : Good c s p
  · have hg' := goodB_iff.2 hg
    by_cases ha : inB s [a] = true
    · by_cases hb : inB s [b] = true
      · obtain ⟨M⟩ := model hg
        obtain ⟨x, hx⟩ := M.of a (inB_iff.1 ha).1 (inB_iff.1 ha).2
        obtain ⟨y, hy⟩ := M.of b (inB_iff.1 hb).1 (inB_iff.1 hb).2
        obtain ⟨R, h1, h2⟩ := h M x y hx hy
        refine ⟨R, Ev.bind (ev_member _ (by simp)) ?_, Ev.bind (rValid hs) ?_⟩
        · rw [inB_two, ha, hb, hg']
          exact evt rfl h1
        · rw [hg']
          exact evt rfl (Ev.bind (Ev.now _) (evt ha (Ev.bind (Ev.now _) (evt hb h2))))
      · refine ⟨(0, 1), Ev.bind (ev_member _ (by simp)) ?_, Ev.bind (rValid hs) ?_⟩
        · rw [inB_two, Bool.eq_false_iff.2 hb, Bool.and_false, Bool.false_and]
          exact evf (by simp) (Ev.now _)
        · rw [hg']
          exact evt rfl (Ev.bind (Ev.now _) (evt ha (Ev.bind (Ev.now _) (evf hb (Ev.now _)))))
    · refine ⟨(0, 1), Ev.bind (ev_member _ (by simp)) ?_, Ev.bind (rValid hs) ?_⟩
      · rw [inB_two, Bool.eq_false_iff.2 ha, Bool.false_and, Bool.false_and]
        exact evf (by simp) (Ev.now _)
      · rw [hg']
        exact evt rfl (Ev.bind (Ev.now _) (evf ha (Ev.now _)))
  · have hg' := goodB_false hg
    refine ⟨(0, 1), Ev.bind (ev_member _ (by simp)) ?_, Ev.bind (rValid hs) ?_⟩
    · rw [hg', Bool.and_false]
      exact evf (by simp) (Ev.now _)
    · rw [hg']
      exact evf (by simp) (Ev.now _)
theorem both_Add (c s p a b : Int) (hs : s < 2 ^ 63) : ∃ r, Ev (fun k => galois_Add.f k c s p a b) r ∧ Ev (fun k => barscanref04_Add.f k c s p a b) r := by
  refine both_two hs _ _ _ (fun k => (barscanref04_Plus.f c s p a b).bind fun t268 => (some (t268, 0))) rfl rfl ?_
  rintro M x y rfl rfl
  refine ⟨(M.v (x + y), 0), ?_, ?_⟩
  · by_cases h : c = 2
    · exact evt h (evn (by rw [M.xadd h]) (Ev.now _))
    · exact evf h (evf (by have := M.big; omega) (evn (by rw [M.madd h]) (Ev.now _)))
  · simp only [ev_Plus M x y 0]
    exact Ev.bind (Ev.now _) (Ev.now _)
theorem both_Sub (c s p a b : Int) (hs : s < 2 ^ 63) : ∃ r, Ev (fun k => galois_Sub.f k c s p a b) r ∧ Ev (fun k => barscanref04_Sub.f k c s p a b) r := by
  refine both_two hs _ _ _ (fun k => (barscanref04_Minus.f c s p a b).bind fun t268 => (some (t268, 0))) rfl rfl ?_
  rintro M x y rfl rfl
  refine ⟨(M.v (x - y), 0), ?_, ?_⟩
  · by_cases h : c = 2
    · exact evt h (evn (by rw [M.xadd h, Alg.sub_def, M.xneg h]) (Ev.now _))
    · exact evf h (evf (by have := M.big; omega) (evn (by rw [M.msub h]) (Ev.now _)))
  · simp only [ev_Minus M x y 0]
    exact Ev.bind (Ev.now _) (Ev.now _)
theorem both_Mul (c s p a b : Int) (hs : s < 2 ^ 63) : ∃ r, Ev (fun k => galois_Mul.f k c s p a b) r ∧ Ev (fun k => barscanref04_Mul.f k c s p a b) r := by
  refine both_two hs _ _ (fun k => (galois_times.f k c s p a b).bind fun t => some (t, 0)) (fun k => (barscanref04_Times.f k c s p a b).bind fun t268 => (some (t268, 0))) rfl rfl ?_
  rintro M x y rfl rfl
  exact ⟨(M.v (x * y), 0), Ev.bind (M.times x y) (Ev.now _), Ev.bind (M.rtimes x y) (Ev.now _)⟩
theorem ref_Div (c s p a b : Int) {R : Int × Int} (h : Ev (fun k => (barscanref04_Valid.f k c s p).bind fun t => if t = true then ((barscanref04_Is.f c s p a).bind fun t => if t = true then ((barscanref04_Is.f c s p b).bind fun t => if t = true then (if b = 0 then some (0, 12) else ((barscanref04_Inverse.f k c s p b).bind fun t295 => ((barscanref04_Times.f k c s p a t295).bind fun t296 => (some (t296, 0))))) else some (0, 1)) else some (0, 1)) else some (0, 1)) R) : Ev (fun k => barscanref04_Div.f k c s p a b) R := by
  obtain ⟨K, h⟩ := h
  refine ⟨K + 1, fun k hk => ?_⟩
  obtain ⟨m, rfl⟩ : ∃ m, k = m + 1 := ⟨k - 1, by omega⟩
  have h1 := h m (by omega)
  have h2 := h (m + 1) (by omega)
  have hb := barscanref04_Inverse.mono c s p b
  unfold barscanref04_Div.f
  simp only [ev_Is, Option.bind_some] at h1 h2 ⊢
  cases e : barscanref04_Valid.f m c s p with
  | none => rw [e] at h1; simp at h1
  | some t =>
    have e' := barscanref04_Valid.mono c s p m _ e
    rw [e] at h1
    rw [e'] at h2 ⊢
    simp only [Option.bind_some] at h1 h2 ⊢
    by_cases c1 : t = true
    · rw [if_pos c1] at h1 h2 ⊢
      by_cases c2 : inB s [a] = true
      · rw [if_pos c2] at h1 h2 ⊢
        by_cases c3 : inB s [b] = true
        · rw [if_pos c3] at h1
          simp only [barscanref04_Div.j0, c3]
          exact h1
        · rw [if_neg c3] at h1
          simp only [barscanref04_Div.j0, Bool.eq_false_iff.2 c3]
          exact h1
      · rw [if_neg c2] at h1 h2 ⊢
        simp only [barscanref04_Div.j0]
        exact h1
    · rw [if_neg c1] at h1 h2 ⊢
      simp only [barscanref04_Div.j0]
      exact h1
theorem both_Div (c s p a b : Int) (hs : s < 2 ^ 63) : ∃ r, Ev (fun k => galois_Div.f k c s p a b) r ∧ Ev (fun k => barscanref04_Div.f k c s p a b) r := by
  have := both_two (c := c) (s := s) (p := p) (a := a) (b := b) hs _ _ (fun k => if b = 0 then some (0, 12) else ((galois_inverse.f k c s p b).bind fun t177 => ((galois_times.f k c s p a t177).bind fun t178 => (some (t178, 0)))))
    (fun k => if b = 0 then some (0, 12) else ((barscanref04_Inverse.f k c s p b).bind fun t295 => ((barscanref04_Times.f k c s p a t295).bind fun t296 => (some (t296, 0))))) rfl rfl ?_
  · obtain ⟨R, h1, h2⟩ := this
    exact ⟨R, h1, ref_Div c s p a b h2⟩
  · rintro M x y rfl rfl
    by_cases h0 : M.v y = 0
    · exact ⟨(0, 12), evt h0 (Ev.now _), evt h0 (Ev.now _)⟩
    · exact ⟨(M.v (x * pw y (s - 2).toNat), 0), evf h0 (Ev.bind (ev_inverse M y) (Ev.bind (M.times _ _) (Ev.now _))), evf h0 (Ev.bind (rInverse M y) (Ev.bind (M.rtimes _ _) (Ev.now _)))⟩
theorem both_Inv (c s p a : Int) (hs : s < 2 ^ 63) : ∃ r, Ev (fun k => galois_Inv.f k c s p a) r ∧ Ev (fun k => barscanref04_Inv.f k c s p a) r := by
  obtain ⟨R, h1, h2⟩ := both_Div c s p 1 a hs
  exact ⟨_, Ev.bind h1 (Ev.now _), Ev.bind h2 (Ev.now _)⟩
theorem pure_GaloisCalculates (c s p a b n : Int) (hs : s < 2 ^ 63) : ∃ k, barscanlaw04_GaloisCalculates.f k c s p a b n = some true := by
  refine Ev.rounds ?_
  simp only [barscanlaw04_GaloisCalculates.f]
  obtain ⟨r1, a1, b1⟩ := both_Add c s p a b hs
  obtain ⟨r2, a2, b2⟩ := both_Sub c s p a b hs
  obtain ⟨r3, a3, b3⟩ := both_Mul c s p a b hs
  obtain ⟨r4, a4, b4⟩ := both_Div c s p a b hs
  obtain ⟨r5, a5, b5⟩ := both_Inv c s p a hs
  refine Ev.bind a1 (Ev.bind b1 (Ev.bind a2 (Ev.bind b2 ?_)))
  refine evt rfl (evt rfl (evt rfl (evs ?_)))
  simp only [barscanlaw04_GaloisCalculates.j0]
  refine evf (by simp) (Ev.bind a3 (Ev.bind b3 (Ev.bind a4 (Ev.bind b4 ?_))))
  refine evt rfl (evt rfl (evt rfl (evs ?_)))
  simp only [barscanlaw04_GaloisCalculates.j1]
  refine evf (by simp) (Ev.bind a5 (Ev.bind b5 (evt rfl (evt rfl ?_))))
  exact Ev.bind ev_alive2 (Ev.now _)
end Go.Proofs.Ytlhaclammaaabaa.Pg
