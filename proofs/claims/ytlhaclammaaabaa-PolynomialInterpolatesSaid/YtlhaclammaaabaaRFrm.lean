import Derived.Test.YtlhaclammaaabaaB33
import Derived.Test.YtlhaclammaaabaaB32
import Derived.Test.YtlhaclammaaabaaUFrm
/-! The reference's products of factors. -/
namespace Go.Proofs.Ytlhaclammaaabaa.Pg
open Go.RowKit Go.Proofs.YtlhaclammaaabaaW.PrintWords Go.Proofs.YtlhaclammaaabaaW.PrintLast Go.Proofs.YtlhaclammaaabaaW.PrintMore
open Go.Proofs.Ytlhaclammaaabaa.Alg (CF card pw Ser Bd sadd ssub smul pmul tl sh cst lin plin)
theorem s_lt' {c s p : Int} (M : Model c s p) : s < 2 ^ 63 := by have := M.small; omega
section
variable {c s p : Int} (M : Model c s p)
theorem rless_eq' (a b : M.K) : barscanref05_less.f c s p (M.v a) (M.v b) = some (M.v (a - b)) := by
  unfold barscanref05_less.f barscanref04_Minus.f
  by_cases h : c = 2
  · rw [if_pos h, M.xadd h, Alg.sub_def, M.xneg h]; rfl
  · rw [if_neg h, if_neg (by have := M.big; omega), M.msub' h]; rfl
theorem PL.full {F : Ser M.K} {n : Nat} (h : Bd F (n + 1)) (hne : F n ≠ 0) : PL M (Pg.mk M F (n + 1)) F := by
  have h1 := PL.nf M h
  have e' : M.v (F n) ≠ 0 := fun h1 => hne ((v_zero_iff M _).1 h1)
  rw [mk_succ, trim_last _ e', ← mk_succ] at h1
  exact h1
/-- Behind j of the inner steps. -/
def nx (W : Ser M.K) (r : M.K) (j : Nat) : Ser M.K := fun u => if u < j then sh W u - W u * r else sh W u
theorem nx_zero (W : Ser M.K) (r : M.K) : nx M W r 0 = sh W := by funext u; unfold nx; rw [if_neg (by omega)]
theorem nx_full {W : Ser M.K} (r : M.K) {n : Nat} (hW : Bd W n) : nx M W r n = pmul W (lin r) := by
  have hl : lin r = sadd (cst (-r)) (sh (cst 1)) := by
    funext i
    match i with
    | 0 => exact (Alg.add_zero _).symm
    | 1 => exact (Alg.zero_add _).symm
    | i + 2 => exact (Alg.zero_add _).symm
  rw [Alg.pmul_comm, hl, Alg.pmul_sadd_left, Alg.pmul_cst_left, Alg.pmul_sh_left, Alg.pmul_cst_left]
  funext u
  unfold nx sadd smul
  have h1 : sh (fun i => 1 * W i) u = sh W u := by
    cases u with
    | zero => rfl
    | succ u => exact Alg.one_mul _
  rw [h1]
  by_cases h : u < n
  · rw [if_pos h, Alg.neg_mul, Alg.add_comm, Alg.mul_comm r, Alg.sub_def]
  · rw [if_neg h, hW u (by omega), Alg.mul_zero, Alg.zero_add]
theorem nx_succ (W : Ser M.K) (r : M.K) (j u : Nat) : nx M W r (j + 1) u = if u = j then sh W j - W j * r else nx M W r j u := by
  unfold nx
  by_cases h : u = j
  · subst h; rw [if_pos rfl, if_pos (by omega)]
  · rw [if_neg h]
    by_cases h2 : u < j
    · rw [if_pos h2, if_pos (by omega)]
    · rw [if_neg h2, if_neg (by omega)]
theorem mk_sh (W : Ser M.K) (n : Nat) : mk M (sh W) (n + 1) = 0 :: mk M W n := by
  unfold mk
  rw [List.range_succ_eq_map, List.map_cons, List.map_map]
  congr 1
  exact M.zero
theorem rFromRoots_l {l : List Int} (hl : inB s l = true) (hll : l.length ≤ 4096) (u : Nat) : ∀ i : Nat, i + u = l.length →
    Ev (fun k => barscanref05_FromRoots.l0 k l (mk M (plin ((l.take i).map (el M))) (i + 1)) (i : Int) c s p) (mk M (plin (l.map (el M))) (l.length + 1), 0) := by
  induction u with
  | zero =>
    intro i hi
    obtain rfl : i = l.length := by omega
    refine evs ?_
    simp only [barscanref05_FromRoots.l0]
    rw [List.take_length]
    exact evf (by omega) (Ev.now _)
  | succ u ih =>
    intro i hi
    have hi' : i < l.length := by omega
    have hv := v_el M (inB_get hl hi').1 (inB_get hl hi').2
    have hih := ih (i + 1) (by omega)
    rw [els_take M hi', Alg.plin_snoc] at hih
    have hWb := Alg.plin_bd ((l.take i).map (el M))
    rw [List.length_map, List.length_take, Nat.min_eq_left (by omega)] at hWb
    generalize plin ((l.take i).map (el M)) = W at hih hWb
    refine evs ?_
    simp only [barscanref05_FromRoots.l0]
    refine evt (by omega) (Ev.bind (Ev.now _) (evt (by rw [mk_length]; simp only [List.length_singleton]; omega) ?_))
    have key : ∀ t j : Nat, j + t = i + 1 → Ev (fun k => barscanref05_FromRoots.l1 k l (mk M W (i + 1)) (i : Int) (mk M (nx M W (el M l[i]) j) (i + 2)) (j : Int) c s p) (mk M (plin (l.map (el M))) (l.length + 1), 0) := by
      intro t
      induction t with
      | zero =>
        intro j hj
        obtain rfl : j = i + 1 := by omega
        refine evs ?_
        simp only [barscanref05_FromRoots.l1]
        rw [nx_full M _ hWb, show wrap64 ((i : Int) + 1) = ((i + 1 : Nat) : Int) from w64 (by omega) (by omega)]
        exact evf (by rw [mk_length]; omega) hih
      | succ t iht =>
        intro j hj
        have hit := iht (j + 1) (by omega)
        refine evs ?_
        simp only [barscanref05_FromRoots.l1]
        have hgj : nx M W (el M l[i]) j j = sh W j := by unfold nx; rw [if_neg (by omega)]
        rw [mk_get M W (show j < i + 1 by omega), mk_get M _ (show j < i + 2 by omega), rd_nat hi', hgj, show wrap64 ((j : Int) + 1) = ((j + 1 : Nat) : Int) from w64 (by omega) (by omega), Int.toNat_natCast]
        have ht := r5times M (W j) (el M l[i])
        rw [hv] at ht
        refine evt (by rw [mk_length]; omega) (evt (by omega) (evt (by rw [mk_length]; omega) (evt (by omega) (evt (by omega) (Ev.bind ht ?_)))))
        simp only [rless_eq' M]
        refine Ev.bind (Ev.now _) ?_
        have hs := nx_succ M W (el M l[i]) j
        have hp := mk_put M (F := nx M W (el M l[i]) j) (G := nx M W (el M l[i]) (j + 1)) (n := i + 2) (i := j) (by omega) (by
          intro m
          by_cases e : m = j
          · subst e; rw [if_pos rfl]
          · rw [if_neg e, hs, if_neg e])
        have he : nx M W (el M l[i]) (j + 1) j = sh W j - W j * el M l[i] := by rw [hs, if_pos rfl]
        rw [he] at hp
        rw [hp]
        exact hit
    have := key (i + 1) 0 (by omega)
    rw [nx_zero, mk_sh] at this
    exact this
theorem rFromRoots {l : List Int} (hl : inB s l = true) (hll : l.length ≤ 4096) : ∃ r, PL M r (plin (l.map (el M))) ∧ r.length = l.length + 1 ∧ Ev (fun k => barscanref05_FromRoots.f k c s p l) (r, 0) := by
  have htop := Alg.plin_top (l.map (el M))
  rw [List.length_map] at htop
  refine ⟨_, PL.full M htop.1 (htop.2 ▸ Alg.one_ne), by rw [mk_length], ?_⟩
  have h := rFromRoots_l M hl hll l.length 0 (by omega)
  have h1 : mk M (plin ((l.take 0).map (el M))) (0 + 1) = [1] := by
    show [M.v (cst (1 : M.K) 0)] = [1]
    rw [show cst (1 : M.K) 0 = 1 from rfl, M.one]
  rw [h1] at h
  unfold barscanref05_FromRoots.f
  have he := rElements (c := c) (s := s) (p := p) l (by omega)
  rw [hl] at he
  refine Ev.bind (rValid (s_lt' M)) (evt (goodB_iff.2 M.good) (Ev.bind he (evs ?_)))
  simp only [barscanref05_FromRoots.j0]
  exact evf (by simp) (evf (by omega) h)
end
theorem both_FromRoots (c s p : Int) (l : List Int) (hs : s < 2 ^ 63) (hll : l.length < 17592186044416) : ∃ r : List Int × Int, r.1.length < 17592186044416 ∧ Ev (fun k => polynomial_FromRoots.f k c s p l) r ∧ Ev (fun k => barscanref05_FromRoots.f k c s p l) r := by
  have he := ev_elements (c := c) (s := s) (p := p) l
  rw [any_bad] at he
  have hr := rElements (c := c) (s := s) (p := p) l hll
  by_cases hg : goodB c s p = true
  rotate_left
  · rw [Bool.eq_false_iff.2 hg, Bool.false_and] at he
    refine ⟨([], 1), by simp, Ev.bind he (evf (by simp) (Ev.now _)), Ev.bind (rValid hs) (evf hg (evs ?_))⟩
    simp only [barscanref05_FromRoots.j0]; exact evt (by simp) (Ev.now _)
  rw [hg, Bool.true_and] at he
  by_cases hi : inB s l = true
  rotate_left
  · rw [Bool.eq_false_iff.2 hi] at he hr
    refine ⟨([], 1), by simp, Ev.bind he (evf (by simp) (Ev.now _)), Ev.bind (rValid hs) (evt hg (Ev.bind hr (evs ?_)))⟩
    simp only [barscanref05_FromRoots.j0]; exact evt (by simp) (Ev.now _)
  rw [hi] at he hr
  by_cases hl : (l.length : Int) > 4096
  · refine ⟨([], 4), by simp, Ev.bind he (evt rfl (evt hl (Ev.now _))), Ev.bind (rValid hs) (evt hg (Ev.bind hr (evs ?_)))⟩
    simp only [barscanref05_FromRoots.j0]; exact evf (by simp) (evt hl (Ev.now _))
  obtain ⟨M⟩ := model (goodB_iff.1 hg)
  obtain ⟨r, h1, h2, h3⟩ := ev_FromRoots M hi (by omega)
  obtain ⟨r', g1, g2, g3⟩ := rFromRoots M hi (by omega)
  rw [← h1.unique M g1] at g3
  exact ⟨(r, 0), by simp only; omega, h3, g3⟩
end Go.Proofs.Ytlhaclammaaabaa.Pg
