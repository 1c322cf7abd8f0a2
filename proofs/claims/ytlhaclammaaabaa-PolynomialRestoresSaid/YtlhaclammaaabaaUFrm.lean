import Derived.Test.YtlhaclammaaabaaB18
import Derived.Test.YtlhaclammaaabaaB3
import Derived.Test.YtlhaclammaaabaaUVal
import Derived.Test.YtlhaclammaaabaaUDiv
/-! Products of the factors x - r. -/
namespace Go.Proofs.Ytlhaclammaaabaa.Alg
section
variable {K : Type} [CF K]
/-- The product of x - r for the elements of a list, the first one innermost. -/
def plin (l : List K) : Ser K := l.foldl (fun F r => pmul F (lin r)) (cst 1)
theorem plin_snoc (l : List K) (r : K) : plin (l ++ [r]) = pmul (plin l) (lin r) := by unfold plin; rw [List.foldl_append]; rfl
theorem lin_top (r : K) : lin r 1 = 1 := rfl
theorem snoc_cases {α : Type} {P : List α → Prop} (h0 : P []) (h : ∀ l a, P l → P (l ++ [a])) (l : List α) : P l := by
  have : P l.reverse.reverse := by
    induction l.reverse with
    | nil => exact h0
    | cons a t ih => rw [List.reverse_cons]; exact h _ _ ih
  rwa [List.reverse_reverse] at this
theorem plin_top (l : List K) : Bd (plin l) (l.length + 1) ∧ plin l l.length = 1 := by
  refine snoc_cases (P := fun l => Bd (plin l) (l.length + 1) ∧ plin l l.length = 1) ?_ ?_ l
  · exact ⟨bd_cst 1, rfl⟩
  · intro l a ih
    have h := pmul_top ih.1 (bd_lin a)
    rw [plin_snoc, List.length_append]
    exact ⟨h.1, h.2.trans (by rw [ih.2, lin_top, mul_one])⟩
theorem plin_bd (l : List K) : Bd (plin l) (l.length + 1) := (plin_top l).1
theorem ev_plin_snoc (l : List K) (r x : K) : ev (l.length + 2) (plin (l ++ [r])) x = ev (l.length + 1) (plin l) x * (x - r) := by
  rw [plin_snoc, ev_pmul (plin_bd l) (bd_lin r) (by omega), ev_lin (Nat.le_refl _)]
theorem plin_root (l : List K) (x : K) : ev (l.length + 1) (plin l) x = 0 ↔ x ∈ l := by
  refine snoc_cases (P := fun l => ev (l.length + 1) (plin l) x = 0 ↔ x ∈ l) ?_ ?_ l
  · show ev 1 (cst 1) x = 0 ↔ _
    rw [ev_cst (Nat.le_refl _)]
    exact ⟨fun h => absurd h one_ne, fun h => absurd h (by simp)⟩
  · intro l a ih
    rw [List.length_append, show l.length + [a].length + 1 = l.length + 2 from rfl, ev_plin_snoc, List.mem_append, List.mem_singleton, ← ih]
    constructor
    · intro h
      rcases CF.zero_div _ _ h with h | h
      · exact .inl h
      · exact .inr (eq_of_sub h)
    · rintro (h | rfl)
      · rw [h, zero_mul]
      · rw [sub_self, mul_zero]
end
end Go.Proofs.Ytlhaclammaaabaa.Alg
namespace Go.Proofs.Ytlhaclammaaabaa.Pg
open Go.RowKit Go.Proofs.YtlhaclammaaabaaW.PrintWords Go.Proofs.YtlhaclammaaabaaW.PrintLast Go.Proofs.YtlhaclammaaabaaW.PrintMore
open Go.Proofs.Ytlhaclammaaabaa.Alg (CF card pw Ser Bd sadd ssub smul pmul tl sh cst lin plin)
section
variable {c s p : Int} (M : Model c s p)
theorem inB_get {l : List Int} (h : inB s l = true) {i : Nat} (hi : i < l.length) : 0 ≤ l[i] ∧ l[i] < s := by
  have := List.all_eq_true.1 h l[i] (List.getElem_mem hi)
  simpa using this
theorem inB_sub {l l' : List Int} (h : inB s l = true) (hs : ∀ x ∈ l', x ∈ l) : inB s l' = true := List.all_eq_true.2 fun x hx => List.all_eq_true.1 h x (hs x hx)
theorem inB_mem {l : List Int} (h : inB s l = true) {x : Int} (hx : x ∈ l) : 0 ≤ x ∧ x < s := by
  have := List.all_eq_true.1 h x hx
  simpa using this
theorem v_el_mem {l : List Int} (h : inB s l = true) {x : Int} (hx : x ∈ l) : M.v (el M x) = x := v_el M (inB_mem h hx).1 (inB_mem h hx).2
theorem mem_els {l : List Int} (h : inB s l = true) {x : M.K} : x ∈ l.map (el M) ↔ M.v x ∈ l := by
  rw [List.mem_map]
  constructor
  · rintro ⟨a, ha, rfl⟩
    rw [v_el_mem M h ha]; exact ha
  · intro hx
    exact ⟨_, hx, el_v M x⟩
/-- The list of x - r. -/
theorem PL.lin (r : M.K) : PL M [M.v (0 - r), 1] (Alg.lin r) := by
  have hi : inB s [M.v (0 - r), 1] = true := by
    rw [← M.one]; exact inB_two' M _ _
  refine ⟨hi, ?_, ?_⟩
  · rw [tight_last (by simp)]; rfl
  · funext i
    apply M.inj
    rw [co_v M hi]
    match i with
    | 0 => rw [List.getD_cons_zero]; show _ = M.v (-r); rw [Alg.zero_sub]
    | 1 => exact M.one.symm
    | i + 2 => exact M.zero.symm
theorem ev_prod {a b : List Int} {A B : Ser M.K} (ha : PL M a A) (hb : PL M b B) (hla : a.length < 2 ^ 39) (hlb : b.length < 2 ^ 39) (h1 : 0 < a.length) (h2 : 0 < b.length) :
    ∃ r, PL M r (pmul A B) ∧ r.length ≤ a.length + b.length - 1 ∧ Ev (fun k => polynomial_product.f k c s p a b) r := by
  have h := ev_product M ha.inb hb.inb (by omega) (by omega) h1 h2
  rw [ha.eq, hb.eq] at h
  exact ⟨_, PL.nf M ((ha.bd M).pmul (hb.bd M)), nf_len M _ _, h⟩
theorem take_snoc {α : Type} {l : List α} {i : Nat} (h : i < l.length) : l.take (i + 1) = l.take i ++ [l[i]] := by rw [List.take_succ_eq_append_getElem h]
theorem els_take {l : List Int} {i : Nat} (h : i < l.length) : (l.take (i + 1)).map (el M) = (l.take i).map (el M) ++ [el M l[i]] := by rw [take_snoc h, List.map_append]; rfl
theorem ev_fromRoots_l {l : List Int} (hl : inB s l = true) (hll : l.length < 2 ^ 38) (u : Nat) : ∀ (i : Nat) (o : List Int), i + u = l.length → PL M o (plin ((l.take i).map (el M))) →
    ∃ r, PL M r (plin (l.map (el M))) ∧ Ev (fun k => polynomial_fromRoots.l0 k o l (l.length : Int) (i : Int) c s p) r := by
  induction u with
  | zero =>
    intro i o hi ho
    refine ⟨o, ?_, evs ?_⟩
    · rwa [List.take_of_length_le (by omega)] at ho
    · simp only [polynomial_fromRoots.l0]
      exact evf (by omega) (Ev.now _)
  | succ u ih =>
    intro i o hi ho
    have hi' : i < l.length := by omega
    have hv := v_el M (inB_get hl hi').1 (inB_get hl hi').2
    have hlen : o.length = i + 1 := by
      have h1 := Alg.plin_top ((l.take i).map (el M))
      rw [List.length_map, List.length_take, Nat.min_eq_left (by omega)] at h1
      exact ho.length_eq M h1.1 (h1.2 ▸ Alg.one_ne)
    obtain ⟨o', h1, _, h3⟩ := ev_prod M ho (PL.lin M (el M l[i])) (by omega) (by simp) (by omega) (by simp)
    rw [← Alg.plin_snoc, ← els_take M hi'] at h1
    obtain ⟨r, h4, h5⟩ := ih (i + 1) o' (by omega) h1
    refine ⟨r, h4, evs ?_⟩
    simp only [polynomial_fromRoots.l0]
    rw [rd_nat hi']
    have hsub : polynomial_sub.f c s p 0 l[i] = some (M.v (0 - el M l[i])) := by
      have := psub_eq M 0 (el M l[i])
      rwa [M.zero, hv] at this
    simp only [hsub]
    rw [show wrap64 ((i : Int) + 1) = ((i + 1 : Nat) : Int) from w64 (by omega) (by omega)]
    exact evt (by omega) (evt (by omega) (evt (by omega) (Ev.bind (Ev.now _) (Ev.bind h3 h5))))
theorem ev_fromRoots {l : List Int} (hl : inB s l = true) (hll : l.length < 2 ^ 38) : ∃ r, PL M r (plin (l.map (el M))) ∧ Ev (fun k => polynomial_fromRoots.f k c s p l) r :=
  ev_fromRoots_l M hl hll l.length 0 [1] (by omega) (PL.one M)
theorem ev_FromRoots {l : List Int} (hl : inB s l = true) (hll : l.length ≤ 4096) : ∃ r, PL M r (plin (l.map (el M))) ∧ r.length = l.length + 1 ∧ Ev (fun k => polynomial_FromRoots.f k c s p l) (r, 0) := by
  obtain ⟨r, h1, h2⟩ := ev_fromRoots M hl (by omega)
  refine ⟨r, h1, ?_, ?_⟩
  · have h3 := Alg.plin_top (l.map (el M))
    rw [List.length_map] at h3
    exact h1.length_eq M h3.1 (h3.2 ▸ Alg.one_ne)
  · unfold polynomial_FromRoots.f
    have he := ev_elements (c := c) (s := s) (p := p) l
    rw [any_bad, hl, goodB_iff.2 M.good] at he
    exact Ev.bind he (evt rfl (evf (by omega) (Ev.bind h2 (Ev.now _))))
end
end Go.Proofs.Ytlhaclammaaabaa.Pg
