import Derived.Test.YtlhaclammaaabaaB49
import Derived.Test.YtlhaclammaaabaaB16
import Derived.Test.YtlhaclammaaabaaB7
import Derived.Test.YtlhaclammaaabaaB11
import Derived.Test.YtlhaclammaaabaaB1
import Derived.Test.YtlhaclammaaabaaB6
import Derived.Test.YtlhaclammaaabaaUAll
/-! GaloisField, with no program in sight. -/
namespace Go.Proofs.Ytlhaclammaaabaa.Pg
open Go.RowKit Go.Proofs.YtlhaclammaaabaaW.PrintWords Go.Proofs.YtlhaclammaaabaaW.PrintLast Go.Proofs.YtlhaclammaaabaaW.PrintMore
open Go.Proofs.Ytlhaclammaaabaa.Alg (CF card pw)
set_option maxRecDepth 1000000
theorem alive_true3 : barscanlaw04_alive.f 60 = some true := by decide +kernel
theorem ev_alive3 : Ev (fun k => barscanlaw04_alive.f k) true := Ev.of (fun k => barscanlaw04_alive.mono k) alive_true3
section
variable {c s p : Int} (M : Model c s p)
theorem both_in (a b : M.K) : (inB s [M.v a, M.v b] && goodB c s p) = true := by
  rw [goodB_iff.2 M.good]
  simp [inB, M.low, M.high]
theorem fAdd (a b : M.K) : Ev (fun k => galois_Add.f k c s p (M.v a) (M.v b)) (M.v (a + b), 0) := by
  unfold galois_Add.f
  refine Ev.bind (ev_member _ (by simp)) (evt (both_in M a b) ?_)
  by_cases h : c = 2
  · exact evt h (evn (by rw [M.xadd h]) (Ev.now _))
  · exact evf h (evf (by have := M.big; omega) (evn (by rw [M.madd h]) (Ev.now _)))
theorem fSub (a b : M.K) : Ev (fun k => galois_Sub.f k c s p (M.v a) (M.v b)) (M.v (a - b), 0) := by
  unfold galois_Sub.f
  refine Ev.bind (ev_member _ (by simp)) (evt (both_in M a b) ?_)
  by_cases h : c = 2
  · exact evt h (evn (by rw [M.xadd h, Alg.sub_def, M.xneg h]) (Ev.now _))
  · exact evf h (evf (by have := M.big; omega) (evn (by rw [M.msub h]) (Ev.now _)))
theorem fMul (a b : M.K) : Ev (fun k => galois_Mul.f k c s p (M.v a) (M.v b)) (M.v (a * b), 0) := by
  unfold galois_Mul.f
  exact Ev.bind (ev_member _ (by simp)) (evt (both_in M a b) (Ev.bind (M.times a b) (Ev.now _)))
def finv (a : M.K) : M.K := pw a (card M.K - 2)
theorem finv_mul {a : M.K} (h : a ≠ 0) : a * finv M a = 1 := by
  have h1 := Alg.card_pos (K := M.K)
  rw [finv, Alg.mul_comm, ← Alg.pw_succ, show card M.K - 2 + 1 = card M.K - 1 from by omega]
  exact Alg.fermat h
theorem fInv {a : M.K} (ha : a ≠ 0) : Ev (fun k => galois_Inv.f k c s p (M.v a)) (M.v (finv M a), 0) := by
  have h1 := M.small
  have h2 := M.big
  have h3 := M.size
  have h0 : M.v a ≠ 0 := fun e => ha ((v_zero_iff M a).1 e)
  have hi : Ev (fun k => galois_inverse.f k c s p (M.v a)) (M.v (finv M a)) := by
    unfold galois_inverse.f
    rw [w64 (x := s - 2) (by omega) (by omega), show s - 2 = ((card M.K - 2 : Nat) : Int) from by omega]
    exact Ev.bind (ev_power M a (by omega)) (Ev.now _)
  unfold galois_Inv.f galois_Div.f
  rw [← M.one]
  refine Ev.bind (Ev.bind (ev_member _ (by simp)) (evt (both_in M 1 a) (evf h0 (Ev.bind hi (Ev.bind (M.times _ _) (Ev.now _)))))) (evn ?_ (Ev.now _))
  simp only
  rw [Alg.one_mul]
theorem cAdd (a b : M.K) : Ev (fun k => barscanlaw04_calc_add.f k c s p true (M.v a) (M.v b)) (M.v (a + b), c, s, p, true) := by
  unfold barscanlaw04_calc_add.f
  exact Ev.bind (fAdd M a b) (evt rfl (Ev.now _))
theorem cMul (a b : M.K) : Ev (fun k => barscanlaw04_calc_mul.f k c s p true (M.v a) (M.v b)) (M.v (a * b), c, s, p, true) := by
  unfold barscanlaw04_calc_mul.f
  exact Ev.bind (fMul M a b) (evt rfl (Ev.now _))
end
theorem fInv_zero {c s p : Int} (M : Model c s p) : Ev (fun k => galois_Inv.f k c s p 0) (0, 12) := by
  unfold galois_Inv.f galois_Div.f
  refine Ev.bind (Ev.bind (ev_member _ (by simp)) (evt ?_ (evt rfl (Ev.now _)))) (Ev.now _)
  have := both_in M 1 0
  rwa [M.one, M.zero] at this
theorem pure_GaloisField (c s p a0 a1 b0 b1 : Int) (hs : s < 2 ^ 63) : ∃ k, barscanlaw04_GaloisField.f k c s p a0 a1 b0 b1 = some true := by
  refine Ev.rounds ?_
  simp only [barscanlaw04_GaloisField.f, ev_Is]
  refine Ev.bind (rValid hs) ?_
  have al : Ev (fun k => (barscanlaw04_alive.f k).bind fun t => some t) true := Ev.bind ev_alive3 (Ev.now _)
  by_cases hg : goodB c s p = true
  rotate_left
  · exact evf hg al
  refine evt hg (Ev.bind (Ev.now _) ?_)
  by_cases h1 : inB s [a0] = true
  rotate_left
  · exact evf h1 al
  refine evt h1 (Ev.bind (Ev.now _) ?_)
  by_cases h2 : inB s [a1] = true
  rotate_left
  · exact evf h2 al
  refine evt h2 (Ev.bind (Ev.now _) ?_)
  by_cases h3 : inB s [b0] = true
  rotate_left
  · exact evf h3 al
  refine evt h3 ?_
  obtain ⟨M⟩ := model (goodB_iff.1 hg)
  have hin : ∀ t : Int, inB s [t] = true → ∃ x : M.K, M.v x = t := fun t ht => by
    simp [inB] at ht
    exact M.of t ht.1 ht.2
  obtain ⟨x, rfl⟩ := hin _ h1
  obtain ⟨y, rfl⟩ := hin _ h2
  obtain ⟨z, rfl⟩ := hin _ h3
  have z0 := cAdd M x 0
  rw [M.zero] at z0
  have o1 := cMul M x 1
  rw [M.one] at o1
  have o0 := cMul M x 0
  rw [M.zero] at o0
  have s0 := fSub M 0 x
  rw [M.zero] at s0
  refine Ev.bind (cAdd M x y) (Ev.bind (cAdd M (x + y) z) (Ev.bind (cAdd M y z) (Ev.bind (cAdd M x (y + z)) (evt (by simp only [Alg.add_assoc]) ?_))))
  refine Ev.bind (cAdd M x y) (Ev.bind (cAdd M y x) (evt (by simp only [Alg.add_comm x y]) (Ev.bind z0 ?_)))
  refine Ev.bind (cMul M x y) (Ev.bind (cMul M (x * y) z) (Ev.bind (cMul M y z) (Ev.bind (cMul M x (y * z)) (evt (by simp only [Alg.mul_assoc]) ?_))))
  refine Ev.bind (cMul M x y) (Ev.bind (cMul M y x) (evt (by simp only [Alg.mul_comm x y]) (Ev.bind o1 (evt (by simp only [Alg.mul_one]) (Ev.bind o0 ?_)))))
  refine Ev.bind (cAdd M y z) (Ev.bind (cMul M x (y + z)) (Ev.bind (cMul M x y) (Ev.bind (cMul M x z) (Ev.bind (cAdd M (x * y) (x * z)) ?_))))
  refine Ev.bind s0 (Ev.bind (fSub M x y) (evt (by simp only [Alg.add_zero]) (evt (by simp only [Alg.mul_zero, M.zero]) (evt (by simp only [Alg.mul_add]) (evt rfl (evt rfl ?_))))))
  refine Ev.bind (cAdd M x (0 - x)) (evt (by simp only [Alg.zero_sub, Alg.add_neg, M.zero]) (Ev.bind (cAdd M (x - y) y) (evt (by simp only [Alg.sub_add_cancel]) ?_)))
  by_cases hx : x = 0
  · subst hx
    rw [M.zero]
    exact Ev.bind (fInv_zero M) (evt rfl (evt rfl (evt rfl al)))
  · have hv : M.v x ≠ 0 := fun e => hx ((v_zero_iff M x).1 e)
    exact Ev.bind (fInv M hx) (evf hv (evt rfl (Ev.bind (cMul M x (finv M x)) (evt (by simp only [finv_mul M hx, M.one]) (evt rfl al)))))
end Go.Proofs.Ytlhaclammaaabaa.Pg
