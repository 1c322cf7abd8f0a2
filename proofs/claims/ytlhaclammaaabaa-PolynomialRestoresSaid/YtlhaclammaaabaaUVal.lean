import Derived.Test.YtlhaclammaaabaaB5
import Derived.Test.YtlhaclammaaabaaB3
import Derived.Test.YtlhaclammaaabaaHVal
import Derived.Test.YtlhaclammaaabaaUPL
/-! Values and roots. -/
namespace Go.Proofs.Ytlhaclammaaabaa.Pg
open Go.RowKit Go.Proofs.YtlhaclammaaabaaW.PrintWords Go.Proofs.YtlhaclammaaabaaW.PrintLast Go.Proofs.YtlhaclammaaabaaW.PrintMore
open Go.Proofs.Ytlhaclammaaabaa.Alg (CF card pw Ser Bd sadd ssub smul pmul tl sh cst)
section
variable {c s p : Int} (M : Model c s p)
theorem v_ok (x : M.K) : vOk c s (M.v x) := ⟨.inr (by have := M.big; omega), M.low x, by have := M.high x; have := M.small; omega⟩
theorem mulT_eq (a x : M.K) : mulT c s p (M.v a) (M.v x) = M.v (a * x) :=
  ev_unique (Ev.of (fun k => polynomial_mul.mono c s p (M.v a) (M.v x) k) (mulT_some (v_ok M x) (M.v a))) (ev_mul M a x)
theorem addT_eq (a b : M.K) : addT c s p (M.v a) (M.v b) = M.v (a + b) := by unfold addT; rw [padd_eq M]; rfl
theorem co_cons_tl {a : Int} {l : List Int} (h : inB s (a :: l) = true) (h' : inB s l = true) : tl (co M (a :: l)) = co M l := by
  funext i
  apply M.inj
  show M.v (co M (a :: l) (i + 1)) = _
  rw [co_v M h, co_v M h']
  rfl
theorem horner_eq (x : M.K) : ∀ l : List Int, inB s l = true → horner c s p (M.v x) l.reverse = M.v (Alg.ev l.length (co M l) x) := by
  intro l
  induction l with
  | nil => intro _; exact M.zero.symm
  | cons a l ih =>
    intro h
    have h' : inB s l = true := by rw [inB_cons] at h; simp only [Bool.and_eq_true] at h; exact h.2
    have h0 := co_v M h 0
    rw [List.getD_cons_zero] at h0
    have h1 := addT_eq M (Alg.ev l.length (co M l) x * x) (co M (a :: l) 0)
    rw [h0] at h1
    rw [List.reverse_cons, horner_snoc, ih h', mulT_eq, h1, List.length_cons]
    show _ = M.v (co M (a :: l) 0 + x * Alg.ev l.length (tl (co M (a :: l))) x)
    rw [co_cons_tl M h h', Alg.add_comm, Alg.mul_comm]
theorem value_eq (k : Nat) {l : List Int} (h : inB s l = true) (x : M.K) : polynomial_value.f k c s p l (M.v x) = some (M.v (Alg.ev l.length (co M l) x)) := by
  unfold polynomial_value.f
  rw [if_pos (v_ok M x), horner_eq M x l h]
theorem value_pl (k : Nat) {l : List Int} {F : Ser M.K} (h : PL M l F) {n : Nat} (hn : Bd F n) (x : M.K) : polynomial_value.f k c s p l (M.v x) = some (M.v (Alg.ev n F x)) := by
  rw [value_eq M k h.inb, h.eq, Alg.ev_bd (h.bd M) (m := max n l.length) (Nat.le_max_right _ _) x |>.symm, Alg.ev_bd hn (m := max n l.length) (Nat.le_max_left _ _) x]
theorem member_eq (x : Int) : polynomial_member.f c s p x = some (decide (0 ≤ x) && decide (x < s)) := by
  unfold polynomial_member.f
  by_cases h : x ≥ 0
  · rw [if_pos h, decide_eq_true (show 0 ≤ x from h)]; rfl
  · rw [if_neg h, decide_eq_false (show ¬ 0 ≤ x from h)]; rfl
theorem ev_Eval {a : List Int} {A : Ser M.K} (ha : PL M a A) (hla : a.length ≤ 4097) {n : Nat} (hn : Bd A n) (x : M.K) : Ev (fun k => polynomial_Eval.f k c s p a (M.v x)) (M.v (Alg.ev n A x), 0) := by
  unfold polynomial_Eval.f
  simp only [member_eq]
  refine Ev.bind (ev_PValid a) (evt (ha.valid M hla) (Ev.bind (Ev.now _) (evt ?_ ?_)))
  · rw [decide_eq_true (M.low x), decide_eq_true (M.high x)]; rfl
  · simp only [value_pl M _ ha hn]
    exact Ev.bind (Ev.now _) (Ev.now _)
/-- The element that a number names. -/
noncomputable def el (x : Int) : M.K := @dite _ (∃ a, M.v a = x) (Classical.propDecidable _) (fun h => Classical.choose h) (fun _ => 0)
theorem v_el {x : Int} (h0 : 0 ≤ x) (h1 : x < s) : M.v (el M x) = x := by
  have h := M.of x h0 h1
  unfold el
  rw [@dif_pos _ (Classical.propDecidable _) h]
  exact Classical.choose_spec h
theorem el_v (a : M.K) : el M (M.v a) = a := M.inj _ _ (v_el M (M.low a) (M.high a))
/-- The roots of F among the numbers below j. -/
noncomputable def rts (n : Nat) (F : Ser M.K) : Nat → List Int
  | 0 => []
  | j + 1 => if Alg.ev n F (el M (j : Int)) = 0 then rts n F j ++ [(j : Int)] else rts n F j
theorem rts_length (n : Nat) (F : Ser M.K) (j : Nat) : (rts M n F j).length ≤ j := by
  induction j with
  | zero => simp [rts]
  | succ j ih =>
    unfold rts
    split
    · rw [List.length_append]; simp; omega
    · omega
theorem mem_rts (n : Nat) (F : Ser M.K) (x : Int) (j : Nat) : x ∈ rts M n F j ↔ 0 ≤ x ∧ x < j ∧ Alg.ev n F (el M x) = 0 := by
  induction j with
  | zero => simp only [rts]; constructor
            · intro h; exact absurd h (by simp)
            · rintro ⟨h1, h2, _⟩; omega
  | succ j ih =>
    unfold rts
    by_cases h : Alg.ev n F (el M (j : Int)) = 0
    · rw [if_pos h, List.mem_append, ih, List.mem_singleton]
      constructor
      · rintro (⟨h1, h2, h3⟩ | rfl)
        · exact ⟨h1, by omega, h3⟩
        · exact ⟨by omega, by omega, h⟩
      · rintro ⟨h1, h2, h3⟩
        by_cases e : x = j
        · exact .inr e
        · exact .inl ⟨h1, by omega, h3⟩
    · rw [if_neg h, ih]
      constructor
      · rintro ⟨h1, h2, h3⟩; exact ⟨h1, by omega, h3⟩
      · rintro ⟨h1, h2, h3⟩
        refine ⟨h1, ?_, h3⟩
        by_cases e : x = j
        · exact absurd (e ▸ h3) h
        · omega
theorem ev_Roots_l {a : List Int} {A : Ser M.K} (ha : PL M a A) {n : Nat} (hn : Bd A n) (u : Nat) : ∀ j : Nat, (j : Int) + u = s →
    Ev (fun k => polynomial_Roots.l0 k a (rts M n A j) s (j : Int) c s p) (rts M n A s.toNat, 0) := by
  induction u with
  | zero =>
    intro j hj
    refine evs ?_
    simp only [polynomial_Roots.l0]
    exact evf (by omega) (evn (by rw [show s.toNat = j from by omega]) (Ev.now _))
  | succ u ih =>
    intro j hj
    refine evs ?_
    simp only [polynomial_Roots.l0]
    have hv : M.v (el M (j : Int)) = j := v_el M (by omega) (by omega)
    have hval : ∀ k, polynomial_value.f k c s p a (j : Int) = some (M.v (Alg.ev n A (el M (j : Int)))) := fun k => by
      have := value_pl M k ha hn (el M (j : Int))
      rwa [hv] at this
    simp only [hval]
    have hs := M.small
    have hnext := ih (j + 1) (by omega)
    rw [show wrap64 ((j : Int) + 1) = ((j + 1 : Nat) : Int) from w64 (by omega) (by omega)]
    refine evt (by omega) (Ev.bind (Ev.now _) ?_)
    by_cases h : Alg.ev n A (el M (j : Int)) = 0
    · refine evt ((v_zero_iff M _).2 h) (evt (by have := rts_length M n A j; omega) ?_)
      have e : rts M n A (j + 1) = rts M n A j ++ [(j : Int)] := if_pos h
      rw [e] at hnext
      exact hnext
    · refine evf (fun e => h ((v_zero_iff M _).1 e)) ?_
      have e : rts M n A (j + 1) = rts M n A j := if_neg h
      rw [e] at hnext
      exact hnext
theorem ev_Roots {a : List Int} {A : Ser M.K} (ha : PL M a A) (hla : a.length ≤ 4097) (h0 : a.length ≠ 0) {n : Nat} (hn : Bd A n) : Ev (fun k => polynomial_Roots.f k c s p a) (rts M n A s.toNat, 0) := by
  unfold polynomial_Roots.f
  exact Ev.bind (ev_PValid a) (evt (ha.valid M hla) (evf (by omega) (ev_Roots_l M ha hn s.toNat 0 (by have := M.big; omega))))
theorem ev_Roots_nil (hM : Nonempty (Model c s p)) : Ev (fun k => polynomial_Roots.f k c s p []) ([], 12) := by
  obtain ⟨M⟩ := hM
  unfold polynomial_Roots.f
  exact Ev.bind (ev_PValid []) (evt ((PL.nil M).valid M (by simp)) (evt (by simp) (Ev.now _)))
end
end Go.Proofs.Ytlhaclammaaabaa.Pg
