import Derived.Test.YtlhaclammaaabaaB3
import Derived.Test.YtlhaclammaaabaaB5
import Derived.Test.YtlhaclammaaabaaB2
import Derived.Test.YtlhaclammaaabaaUPol
/-! Sums and multiples of polynomials. -/
namespace Go.Proofs.Ytlhaclammaaabaa.Pg
open Go.RowKit Go.Proofs.YtlhaclammaaabaaW.PrintWords Go.Proofs.YtlhaclammaaabaaW.PrintLast Go.Proofs.YtlhaclammaaabaaW.PrintMore
open Go.Proofs.Ytlhaclammaaabaa.Alg (CF card pw Ser Bd sadd)
set_option linter.unusedVariables false
set_option linter.unusedSimpArgs false

theorem pmul_eq_l (k : Nat) : ∀ a b r c s p, polynomial_mul.l0 k a b r c s p = galois_times.l0 k a b r c s p := by
  induction k with
  | zero => intros; rfl
  | succ k ih => intros; simp only [polynomial_mul.l0, galois_times.l0, ih]
theorem pmul_eq (k : Nat) (c s p a b : Int) : polynomial_mul.f k c s p a b = galois_times.f k c s p a b := by
  unfold polynomial_mul.f galois_times.f
  simp only [pmul_eq_l]
section
variable {c s p : Int} (M : Model c s p)
theorem ev_mul (a b : M.K) : Ev (fun k => polynomial_mul.f k c s p (M.v a) (M.v b)) (M.v (a * b)) := by
  simp only [pmul_eq]; exact M.times a b
theorem r5times (a b : M.K) : Ev (fun k => barscanref05_times.f k c s p (M.v a) (M.v b)) (M.v (a * b)) := by
  unfold barscanref05_times.f
  by_cases ha : M.v a = 0
  · refine evt ha (evn ?_ (Ev.now _))
    rw [(v_zero_iff M a).1 ha, Alg.zero_mul, M.zero]
  · refine evf ha ?_
    by_cases hb : M.v b = 0
    · refine evt hb (evn ?_ (Ev.now _))
      rw [(v_zero_iff M b).1 hb, Alg.mul_zero, M.zero]
    · exact evf hb (Ev.bind (M.rtimes a b) (Ev.now _))
theorem padd_eq (a b : M.K) : polynomial_add.f c s p (M.v a) (M.v b) = some (M.v (a + b)) := by
  unfold polynomial_add.f
  by_cases h : c = 2
  · rw [if_pos h, M.xadd h]
  · rw [if_neg h, if_neg (by have := M.big; omega), M.madd h]
theorem rplus_eq (a b : M.K) : barscanref05_plus.f c s p (M.v a) (M.v b) = some (M.v (a + b)) := by
  unfold barscanref05_plus.f barscanref04_Plus.f
  by_cases h : c = 2
  · rw [if_pos h, M.xadd h]; rfl
  · rw [if_neg h, if_neg (by have := M.big; omega), M.madd h]; rfl
theorem psub_eq (a b : M.K) : polynomial_sub.f c s p (M.v a) (M.v b) = some (M.v (a - b)) := by
  unfold polynomial_sub.f
  by_cases h : c = 2
  · rw [if_pos h, M.xadd h, Alg.sub_def, M.xneg h]
  · rw [if_neg h, if_neg (by have := M.big; omega), M.msub' h]

/-- The coefficients of a list, as a series. -/
noncomputable def co (l : List Int) : Ser M.K := fun i => @dite _ (∃ a, M.v a = l.getD i 0) (Classical.propDecidable _) (fun h => Classical.choose h) (fun _ => 0)
theorem co_v {l : List Int} (hl : inB s l = true) (i : Nat) : M.v (co M l i) = l.getD i 0 := by
  have h : ∃ a, M.v a = l.getD i 0 := by
    by_cases hi : i < l.length
    · rw [List.getD_eq_getElem?_getD, List.getElem?_eq_getElem hi]
      have := List.all_eq_true.1 hl l[i] (List.getElem_mem hi)
      simp only [Bool.and_eq_true, decide_eq_true_eq] at this
      exact M.of _ this.1 this.2
    · rw [List.getD_eq_getElem?_getD, List.getElem?_eq_none (by omega)]
      exact ⟨0, M.zero⟩
  unfold co
  rw [dif_pos h]
  exact Classical.choose_spec h
theorem co_bd {l : List Int} (hl : inB s l = true) : Bd (co M l) l.length := by
  intro i hi
  apply M.inj
  rw [co_v M hl, M.zero, List.getD_eq_getElem?_getD, List.getElem?_eq_none hi]; rfl
/-- The first coefficients of a series, as a list. -/
def mk (F : Ser M.K) (n : Nat) : List Int := (List.range n).map fun i => M.v (F i)
theorem mk_zero (F : Ser M.K) : mk M F 0 = [] := rfl
theorem mk_succ (F : Ser M.K) (n : Nat) : mk M F (n + 1) = mk M F n ++ [M.v (F n)] := by
  unfold mk; rw [List.range_succ, List.map_append]; rfl
theorem mk_length (F : Ser M.K) (n : Nat) : (mk M F n).length = n := by simp [mk]
theorem mk_inB (F : Ser M.K) (n : Nat) : inB s (mk M F n) = true := by
  simp only [inB, mk, List.all_map, List.all_eq_true]
  intro i _
  simp [M.low, M.high]
theorem mk_co {l : List Int} (hl : inB s l = true) : mk M (co M l) l.length = l := by
  apply List.ext_getElem
  · rw [mk_length]
  · intro i h1 h2
    simp only [mk, List.getElem_map, List.getElem_range]
    rw [co_v M hl, List.getD_eq_getElem?_getD, List.getElem?_eq_getElem h2]; rfl
theorem mk_set (F : Ser M.K) (i j : Nat) : (mk M F i ++ List.replicate (j + 1) 0).set i (M.v (F i)) = mk M F (i + 1) ++ List.replicate j 0 := by
  rw [mk_succ, List.set_append_right _ _ (by rw [mk_length]; omega), mk_length, Nat.sub_self, List.replicate_succ, List.set_cons_zero, List.append_assoc]; rfl
theorem trim_mk (F : Ser M.K) {n : Nat} (h : Bd F n) (m : Nat) : trim (mk M F (n + m)) = trim (mk M F n) := by
  induction m with
  | zero => rfl
  | succ m ih => rw [← Nat.add_assoc, mk_succ, h (n + m) (by omega), M.zero, trim_zero, ih]
theorem coeff_eq {l : List Int} (hl : inB s l = true) (i : Nat) : polynomial_coefficient.f l (i : Int) = some (M.v (co M l i)) := by
  unfold polynomial_coefficient.f
  rw [co_v M hl, List.getD_eq_getElem?_getD]
  by_cases h : i < l.length
  · rw [if_pos (by omega), if_pos (by omega), rd_nat h, List.getElem?_eq_getElem h]; rfl
  · rw [if_neg (by omega), List.getElem?_eq_none (by omega)]; rfl
theorem at_eq {l : List Int} (hl : inB s l = true) (i : Nat) : barscanref05_at.f l (i : Int) = some (M.v (co M l i)) := by
  unfold barscanref05_at.f
  rw [co_v M hl, List.getD_eq_getElem?_getD]
  by_cases h : i < l.length
  · rw [if_pos (by omega), if_pos (by omega), rd_nat h, List.getElem?_eq_getElem h]; rfl
  · rw [if_neg (by omega), List.getElem?_eq_none (by omega)]; rfl
theorem mx_nat (a b : Nat) : mx (a : Int) (b : Int) = ((max a b : Nat) : Int) := by
  unfold mx
  split <;> omega
theorem ev_sum {a b : List Int} (ha : inB s a = true) (hb : inB s b = true) (hla : a.length < 17592186044416) (hlb : b.length < 17592186044416) :
    Ev (fun k => polynomial_sum.f k c s p a b) (trim (mk M (sadd (co M a) (co M b)) (max a.length b.length))) := by
  unfold polynomial_sum.f
  rw [mx_nat, Int.toNat_natCast]
  refine evt (by omega) (evt (by omega) (Ev.bind (Ev.now _) ?_))
  rw [List.length_replicate]
  have key : ∀ j i : Nat, i + j = max a.length b.length → Ev (fun k => polynomial_sum.l0 k a b (mk M (sadd (co M a) (co M b)) i ++ List.replicate j 0) ((max a.length b.length : Nat) : Int) (i : Int) c s p) (trim (mk M (sadd (co M a) (co M b)) (max a.length b.length))) := by
    intro j
    induction j with
    | zero =>
      intro i hi
      refine evs ?_
      simp only [polynomial_sum.l0]
      refine evf (by omega) (Ev.bind (ev_trim ?_) (evn ?_ (Ev.now _)))
      · simp [mk_length]; omega
      · rw [List.replicate_zero, List.append_nil, show i = max a.length b.length from by omega]
    | succ j ih =>
      intro i hi
      refine evs ?_
      simp only [polynomial_sum.l0, coeff_eq M ha, coeff_eq M hb]
      refine evt (by omega) (Ev.bind (Ev.now _) (Ev.bind (Ev.now _) ?_))
      simp only [padd_eq M]
      refine Ev.bind (Ev.now _) (evt (by omega) (evt ?_ ?_))
      · simp [mk_length]; omega
      · rw [Int.toNat_natCast, show wrap64 ((i : Int) + 1) = ((i + 1 : Nat) : Int) from w64 (by omega) (by omega)]
        have := mk_set M (sadd (co M a) (co M b)) i j
        rw [show M.v (sadd (co M a) (co M b) i) = M.v (co M a i + co M b i) from rfl] at this
        rw [this]
        exact ih (i + 1) (by omega)
  have := key (max a.length b.length) 0 (by omega)
  rw [mk_zero, List.nil_append] at this
  exact this
theorem rAdd_l {a b : List Int} (ha : inB s a = true) (hb : inB s b = true) (hla : a.length < 17592186044416) (hlb : b.length < 17592186044416) (j : Nat) : ∀ i : Nat, i + j = max a.length b.length →
    Ev (fun k => barscanref05_Add.l0 k a b (mk M (sadd (co M a) (co M b)) i) (i : Int) c s p) (trim (mk M (sadd (co M a) (co M b)) (max a.length b.length)), 0) := by
  induction j with
  | zero =>
    intro i hi
    refine evs ?_
    simp only [barscanref05_Add.l0, mx_nat]
    refine evf (by omega) (Ev.bind (rTrim ?_) (evn ?_ (Ev.now _)))
    · rw [mk_length]; omega
    · rw [show i = max a.length b.length from by omega]
  | succ j ih =>
    intro i hi
    refine evs ?_
    simp only [barscanref05_Add.l0, mx_nat, at_eq M ha, at_eq M hb]
    refine evt (by omega) (Ev.bind (Ev.now _) (Ev.bind (Ev.now _) ?_))
    simp only [rplus_eq M]
    refine Ev.bind (Ev.now _) (evt (by rw [mk_length]; omega) ?_)
    rw [show wrap64 ((i : Int) + 1) = ((i + 1 : Nat) : Int) from w64 (by omega) (by omega)]
    have := mk_succ M (sadd (co M a) (co M b)) i
    rw [show M.v (sadd (co M a) (co M b) i) = M.v (co M a i + co M b i) from rfl] at this
    rw [← this]
    exact ih (i + 1) (by omega)
theorem ev_scaled {l : List Int} (hl : inB s l = true) (hll : l.length < 17592186044416) (y : M.K) :
    Ev (fun k => polynomial_scaled.f k c s p l (M.v y)) (trim (mk M (fun i => co M l i * y) l.length)) := by
  unfold polynomial_scaled.f
  rw [Int.toNat_natCast]
  refine evt (by omega) (evt (by omega) ?_)
  have key : ∀ j i : Nat, i + j = l.length → Ev (fun k => polynomial_scaled.l0 k (M.v y) (mk M (fun i => co M l i * y) i ++ List.replicate j 0) l (l.length : Int) (i : Int) c s p) (trim (mk M (fun i => co M l i * y) l.length)) := by
    intro j
    induction j with
    | zero =>
      intro i hi
      refine evs ?_
      simp only [polynomial_scaled.l0]
      refine evf (by omega) (Ev.bind (ev_trim ?_) (evn ?_ (Ev.now _)))
      · simp [mk_length]; omega
      · rw [List.replicate_zero, List.append_nil, show i = l.length from by omega]
    | succ j ih =>
      intro i hi
      have hr : rd l (i : Int) = M.v (co M l i) := by
        rw [rd_nat (show i < l.length by omega), co_v M hl, List.getD_eq_getElem?_getD, List.getElem?_eq_getElem (show i < l.length by omega)]; rfl
      refine evs ?_
      simp only [polynomial_scaled.l0, hr]
      refine evt (by omega) (evt (by omega) (evt (by omega) (Ev.bind (ev_mul M _ _) (evt ?_ ?_))))
      · simp [mk_length]; omega
      · rw [Int.toNat_natCast, show wrap64 ((i : Int) + 1) = ((i + 1 : Nat) : Int) from w64 (by omega) (by omega)]
        have := mk_set M (fun i => co M l i * y) i j
        rw [this]
        exact ih (i + 1) (by omega)
  have := key l.length 0 (by omega)
  rw [mk_zero, List.nil_append] at this
  exact this
theorem rScale_l {l : List Int} (hl : inB s l = true) (hll : l.length < 17592186044416) (y : M.K) (j : Nat) : ∀ i : Nat, i + j = l.length →
    Ev (fun k => barscanref05_Scale.l0 k l (M.v y) (mk M (fun i => co M l i * y) i) (i : Int) c s p) (trim (mk M (fun i => co M l i * y) l.length), 0) := by
  induction j with
  | zero =>
    intro i hi
    refine evs ?_
    simp only [barscanref05_Scale.l0]
    refine evf (by omega) (Ev.bind (rTrim ?_) (evn ?_ (Ev.now _)))
    · rw [mk_length]; omega
    · rw [show i = l.length from by omega]
  | succ j ih =>
    intro i hi
    have hr : rd l (i : Int) = M.v (co M l i) := by
      rw [rd_nat (show i < l.length by omega), co_v M hl, List.getD_eq_getElem?_getD, List.getElem?_eq_getElem (show i < l.length by omega)]; rfl
    refine evs ?_
    simp only [barscanref05_Scale.l0, hr]
    refine evt (by omega) (evt (by omega) (Ev.bind (r5times M _ _) (evt (by rw [mk_length]; omega) ?_)))
    rw [show wrap64 ((i : Int) + 1) = ((i + 1 : Nat) : Int) from w64 (by omega) (by omega)]
    have := mk_succ M (fun i => co M l i * y) i
    rw [← this]
    exact ih (i + 1) (by omega)
end
end Go.Proofs.Ytlhaclammaaabaa.Pg
