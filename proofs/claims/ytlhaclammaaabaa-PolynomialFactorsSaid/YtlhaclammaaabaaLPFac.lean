import Derived.Test.YtlhaclammaaabaaB22
import Derived.Test.YtlhaclammaaabaaB21
import Derived.Test.YtlhaclammaaabaaB19
import Derived.Test.YtlhaclammaaabaaUOps
import Derived.Test.YtlhaclammaaabaaURest
import Derived.Test.YtlhaclammaaabaaUFrm
/-! PolynomialFactors, with no program in sight. -/
namespace Go.Proofs.Ytlhaclammaaabaa.Pg
open Go.RowKit Go.Proofs.YtlhaclammaaabaaW.PrintWords Go.Proofs.YtlhaclammaaabaaW.PrintLast Go.Proofs.YtlhaclammaaabaaW.PrintMore
open Go.Proofs.Ytlhaclammaaabaa.Alg (CF card pw Ser Bd sadd ssub smul pmul tl sh cst lin plin)
theorem ev_has_l (l : List Int) (x : Int) (hl : l.length < 2 ^ 40) (u : Nat) : ∀ i : Nat, i + u = l.length → Ev (fun k => barscanlaw05_has.l0 k x l (l.length : Int) (i : Int)) (decide (x ∈ l.drop i)) := by
  induction u with
  | zero =>
    intro i hi
    refine evs ?_
    simp only [barscanlaw05_has.l0]
    rw [List.drop_eq_nil_of_le (by omega)]
    exact evf (by omega) (Ev.now _)
  | succ u ih =>
    intro i hi
    have hi' : i < l.length := by omega
    refine evs ?_
    simp only [barscanlaw05_has.l0]
    rw [List.drop_eq_getElem_cons hi', rd_nat hi', show wrap64 ((i : Int) + 1) = ((i + 1 : Nat) : Int) from w64 (by omega) (by omega)]
    refine evt (by omega) (evt (by omega) (evt (by omega) ?_))
    by_cases h : x = l[i]
    · exact evt h (evn (by rw [decide_eq_true]; rw [h]; exact List.mem_cons_self) (Ev.now _))
    · refine evf h (evn ?_ (ih (i + 1) (by omega)))
      simp only [List.mem_cons, h, false_or]
theorem ev_has (l : List Int) (x : Int) (hl : l.length < 2 ^ 40) : Ev (fun k => barscanlaw05_has.f k l x) (decide (x ∈ l)) := by
  have := ev_has_l l x hl l.length 0 (by omega)
  rwa [List.drop_zero] at this
section
variable {c s p : Int} (M : Model c s p)
theorem plin_one (r : M.K) : plin [r] = lin r := by
  show pmul (cst 1) (lin r) = lin r
  rw [Alg.pmul_cst_left]; funext i; exact Alg.one_mul _
/-- A root is found by division. -/
theorem root_rest {a b : List Int} {A : Ser M.K} {x : M.K} (ha : PL M a A) (hb : PL M b (lin x)) (hla : a.length ≤ 4097) {n : Nat} (hn : Bd A n) :
    ∃ r, (r.length = 0 ↔ Alg.ev n A x = 0) ∧ r.length ≤ 1 ∧ Ev (fun k => barscanlaw05_rest.f k c s p a b) r := by
  have hbl : b.length = 1 + 1 := hb.length_eq M (Alg.bd_lin x) Alg.one_ne
  obtain ⟨q, r, Q, R, h1, h2, h3, h4, h5, h6, h7⟩ := ev_DivMod M ha hb hla (by omega) hbl
  refine ⟨r, ?_, h2.length_le M h4, Ev.bind h7 (Ev.now _)⟩
  have hev : Alg.ev n A x = R 0 := by
    rw [← Alg.ev_bd hn (m := max n (q.length + 2)) (Nat.le_max_left _ _), h3, Alg.ev_sadd, Alg.ev_pmul (h1.bd M) (Alg.bd_lin x) (by omega), Alg.ev_lin (Nat.le_refl _), Alg.sub_self, Alg.mul_zero, Alg.zero_add, Alg.ev_bd h4 (by omega)]
    show R 0 + x * 0 = R 0
    rw [Alg.mul_zero, Alg.add_zero]
  rw [hev, h2.zero M]
  constructor
  · intro e; rw [e]
  · intro e
    funext i
    cases i with
    | zero => exact e
    | succ i => exact h4 (i + 1) (by omega)
theorem rts_nodup (n : Nat) (F : Ser M.K) (j : Nat) : (j : Int) ≤ s → ((rts M n F j).map (el M)).Nodup := by
  induction j with
  | zero => intro _; exact List.nodup_nil
  | succ j ih =>
    intro hj
    unfold rts
    split
    · rw [List.map_append, List.nodup_append]
      refine ⟨ih (by omega), by simp, ?_⟩
      intro y hy z hz e
      subst e
      obtain ⟨w, hw, he⟩ := List.mem_map.1 hy
      have h1 := (mem_rts M n F w j).1 hw
      simp only [List.map_cons, List.map_nil, List.mem_singleton] at hz
      have h2 := congrArg M.v (he.trans hz)
      rw [v_el M h1.1 (by omega), v_el M (by omega) (by omega)] at h2
      omega
    · exact ih (by omega)
theorem rts_few {a : List Int} {A : Ser M.K} (ha : PL M a A) (h0 : a.length ≠ 0) : (rts M a.length A s.toNat).length < a.length := by
  refine Classical.byContradiction fun hn => ?_
  have hs : ((s.toNat : Nat) : Int) ≤ s := by have := M.big; omega
  have := Alg.zero_of_roots (ha.bd M) _ (rts_nodup M a.length A s.toNat hs) (by rw [List.length_map]; omega) (by
    intro x hx
    obtain ⟨w, hw, rfl⟩ := List.mem_map.1 hx
    exact ((mem_rts M _ A w _).1 hw).2.2)
  exact h0 ((ha.zero M).2 this)
end
theorem pure_PolynomialFactors (c s p : Int) (a ro : List Int) : ∃ k, barscanlaw05_PolynomialFactors.f k c s p a ro = some true := by
  refine Ev.rounds ?_
  simp only [barscanlaw05_PolynomialFactors.f, valid1.f]
  refine Ev.bind (ev_valid (c := c) (s := s) (p := p) (m := 20) [a] (by simp)) ?_
  simp only [List.all_cons, List.all_nil, Bool.and_true]
  by_cases h : (decide ((a.length : Int) ≤ 20) && validB c s p a) = true
  rotate_left
  · exact evf h (Ev.bind ev_ex (Ev.now _))
  refine evt h ?_
  simp only [Bool.and_eq_true, decide_eq_true_eq] at h
  obtain ⟨la, va⟩ := h
  by_cases hs : s > 256
  · exact evt hs (Ev.bind ev_ex (Ev.now _))
  refine evf hs ?_
  by_cases hr : (ro.length : Int) > 20
  · exact evt hr (Ev.bind ev_ex (Ev.now _))
  refine evf hr ?_
  obtain ⟨M⟩ := valid_model va
  obtain ⟨_, ha⟩ := of_valid M va
  generalize co M a = A at ha
  by_cases ha0 : (a.length : Int) = 0
  · have : a = [] := List.length_eq_zero_iff.1 (by omega)
    subst this
    exact Ev.bind (ev_Roots_nil ⟨M⟩) (evt ha0 (evt rfl (evt rfl (Ev.bind ev_ex (Ev.now _)))))
  have hb := M.big
  have hfew := rts_few M ha (by omega)
  refine Ev.bind (ev_Roots M ha (by omega) (by omega) (ha.bd M)) (evf ha0 (evt rfl (evf (by show ¬ (((rts M a.length A s.toNat).length : Int) ≥ (a.length : Int)); omega) ?_)))
  -- the roots of the product
  have last : Ev (fun k => (polynomial_FromRoots.f k c s p ro).bind fun bt1134 => (if bt1134.2 = 0 then ((polynomial_Roots.f k c s p bt1134.1).bind fun bt1138 => (if bt1138.2 = 0 then (if (bt1134.1.length : Int) = (wrap64 ((ro.length : Int) + 1)) then (if 0 ≤ (ro.length : Int) then (if (ro.length : Int) < (bt1134.1.length : Int) then (if (rd bt1134.1 (ro.length : Int)) = 1 then (barscanlaw05_PolynomialFactors.l1 k ro bt1138.1 s 0) else (none)) else (none)) else (none)) else (none)) else (none))) else (if bt1134.2 = 1 then ((barscanlaw05_examples.f k).bind fun t1146 => (some t1146)) else (none)))) true := by
    by_cases hi : inB s ro = true
    · obtain ⟨q, hq, lq, eq⟩ := ev_FromRoots M hi (by omega)
      have htop := Alg.plin_top (ro.map (el M))
      rw [List.length_map] at htop
      refine Ev.bind eq (evt rfl (Ev.bind (ev_Roots M hq (show q.length ≤ 4097 by omega) (show q.length ≠ 0 by omega) htop.1) (evt rfl (evt ?_ (evt (by omega) (evt ?_ (evt ?_ ?_)))))))
      · show (q.length : Int) = _
        rw [w64 (by omega) (by omega)]; omega
      · show (ro.length : Int) < (q.length : Int)
        omega
      · show rd q (ro.length : Int) = 1
        rw [rd_co M hq.inb (show ro.length < q.length by omega), hq.eq, htop.2, M.one]
      · have key : ∀ u j : Nat, (j : Int) + u = s → Ev (fun k => barscanlaw05_PolynomialFactors.l1 k ro (rts M (ro.length + 1) (plin (ro.map (el M))) s.toNat) s (j : Int)) true := by
          intro u
          induction u with
          | zero =>
            intro j hj
            refine evs ?_
            simp only [barscanlaw05_PolynomialFactors.l1]
            exact evf (by omega) (Ev.bind ev_ex (Ev.now _))
          | succ u ih =>
            intro j hj
            refine evs ?_
            simp only [barscanlaw05_PolynomialFactors.l1]
            rw [show wrap64 ((j : Int) + 1) = ((j + 1 : Nat) : Int) from w64 (by omega) (by omega)]
            refine evt (by omega) (Ev.bind (ev_has _ _ ?_) (Ev.bind (ev_has _ _ (by omega)) (evf ?_ (ih (j + 1) (by omega)))))
            · have := rts_length M (ro.length + 1) (plin (ro.map (el M))) s.toNat
              omega
            · have hv : M.v (el M (j : Int)) = j := v_el M (by omega) (by omega)
              have he : (j : Int) ∈ rts M (ro.length + 1) (plin (ro.map (el M))) s.toNat ↔ (j : Int) ∈ ro := by
                rw [mem_rts]
                have hroot := Alg.plin_root (ro.map (el M)) (el M (j : Int))
                rw [List.length_map] at hroot
                rw [hroot, mem_els M hi, hv]
                constructor
                · exact fun h => h.2.2
                · exact fun h => ⟨by omega, by omega, h⟩
              simp [he]
        exact key s.toNat 0 (by omega)
    · have he := ev_elements (c := c) (s := s) (p := p) ro
      rw [any_bad, Bool.eq_false_iff.2 hi, Bool.and_false] at he
      have hf : Ev (fun k => polynomial_FromRoots.f k c s p ro) ([], 1) := by
        unfold polynomial_FromRoots.f
        exact Ev.bind he (evf (by simp) (Ev.now _))
      exact Ev.bind hf (evf (by decide) (evt rfl (Ev.bind ev_ex (Ev.now _))))
  have key : ∀ u j : Nat, (j : Int) + u = s → Ev (fun k => barscanlaw05_PolynomialFactors.l0 k a ro (rts M a.length A s.toNat) s (j : Int) c s p) true := by
    intro u
    induction u with
    | zero =>
      intro j hj
      refine evs ?_
      simp only [barscanlaw05_PolynomialFactors.l0]
      exact evf (by omega) last
    | succ u ih =>
      intro j hj
      refine evs ?_
      simp only [barscanlaw05_PolynomialFactors.l0]
      have hij : inB s [(j : Int)] = true := by
        rw [inB_cons, inB_nil, decide_eq_true (show (0 : Int) ≤ j by omega), decide_eq_true (show (j : Int) < s by omega)]; rfl
      obtain ⟨f, hf, lf, ef⟩ := ev_FromRoots M hij (by simp)
      have hf' : PL M f (lin (el M (j : Int))) := hf.cast M (plin_one M _)
      obtain ⟨r, hr1, hr2, er⟩ := root_rest M ha hf' (by omega) (ha.bd M)
      rw [show wrap64 ((j : Int) + 1) = ((j + 1 : Nat) : Int) from w64 (by omega) (by omega)]
      refine evt (by omega) (Ev.bind ef (evt rfl (evt ?_ (Ev.bind (ev_has _ _ ?_) (Ev.bind er (evf ?_ (ih (j + 1) (by omega))))))))
      · show (f.length : Int) = 2
        rw [lf]; rfl
      · omega
      · have he : (j : Int) ∈ rts M a.length A s.toNat ↔ r.length = 0 := by
          rw [mem_rts, hr1]
          constructor
          · exact fun h => h.2.2
          · exact fun h => ⟨by omega, by omega, h⟩
        have hr0 : ((r.length : Int) == 0) = decide (r.length = 0) := by
          by_cases e : r.length = 0
          · rw [e]; rfl
          · rw [decide_eq_false e, beq_eq_false_iff_ne]; omega
        rw [hr0]
        simp [he]
  exact key s.toNat 0 (by omega)
end Go.Proofs.Ytlhaclammaaabaa.Pg
