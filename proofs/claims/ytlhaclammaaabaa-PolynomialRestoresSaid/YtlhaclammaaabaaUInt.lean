import Derived.Test.YtlhaclammaaabaaB4
import Derived.Test.YtlhaclammaaabaaB1
import Derived.Test.YtlhaclammaaabaaUFrm
import Derived.Test.YtlhaclammaaabaaUOps
/-! Newton's interpolation. -/
namespace Go.Proofs.Ytlhaclammaaabaa.Pg
open Go.RowKit Go.Proofs.YtlhaclammaaabaaW.PrintWords Go.Proofs.YtlhaclammaaabaaW.PrintLast Go.Proofs.YtlhaclammaaabaaW.PrintMore
open Go.Proofs.Ytlhaclammaaabaa.Alg (CF card pw Ser Bd sadd ssub smul pmul tl sh cst lin plin)
theorem ev_index_l (l : List Int) (x : Int) (hl : l.length < 2 ^ 40) (u : Nat) : ∀ i : Nat, i + u = l.length → ∃ r : Int, (r ≥ 0 ↔ x ∈ l.drop i) ∧ Ev (fun k => slices_Index_int_int.l0 k l x (l.length : Int) (i : Int)) r := by
  induction u with
  | zero =>
    intro i hi
    refine ⟨-1, ?_, evs ?_⟩
    · rw [List.drop_eq_nil_of_le (by omega)]
      constructor
      · intro h; omega
      · intro h; exact absurd h (by simp)
    · simp only [slices_Index_int_int.l0]
      exact evf (by omega) (Ev.now _)
  | succ u ih =>
    intro i hi
    have hi' : i < l.length := by omega
    obtain ⟨r, h1, h2⟩ := ih (i + 1) (by omega)
    rw [List.drop_eq_getElem_cons hi']
    by_cases h : x = l[i]
    · refine ⟨(i : Int), ⟨fun _ => by rw [h]; exact List.mem_cons_self, fun _ => by omega⟩, evs ?_⟩
      simp only [slices_Index_int_int.l0]
      rw [rd_nat hi']
      exact evt (by omega) (evt (by omega) (evt (by omega) (evt h (Ev.now _))))
    · refine ⟨r, ?_, evs ?_⟩
      · rw [h1]; simp only [List.mem_cons, h, false_or]
      · simp only [slices_Index_int_int.l0]
        rw [rd_nat hi', show wrap64 ((i : Int) + 1) = ((i + 1 : Nat) : Int) from w64 (by omega) (by omega)]
        exact evt (by omega) (evt (by omega) (evt (by omega) (evf h h2)))
theorem ev_contains (l : List Int) (x : Int) (hl : l.length < 2 ^ 40) : Ev (fun k => slices_Contains_int_int.f k l x) (decide (x ∈ l)) := by
  obtain ⟨r, h1, h2⟩ := ev_index_l l x hl l.length 0 (by omega)
  rw [List.drop_zero] at h1
  unfold slices_Contains_int_int.f
  refine Ev.bind h2 (evn ?_ (Ev.now _))
  simp only [h1]
section
variable {c s p : Int} (M : Model c s p)
theorem mem_els' {l : List Int} (h : inB s l = true) {y : Int} (hy0 : 0 ≤ y) (hy1 : y < s) : el M y ∈ l.map (el M) ↔ y ∈ l := by
  rw [mem_els M h, v_el M hy0 hy1]
theorem els_nodup {l : List Int} (h : inB s l = true) (hn : l.Nodup) : (l.map (el M)).Nodup := by
  induction l with
  | nil => exact List.nodup_nil
  | cons a l ih =>
    have h1 := inB_mem h (List.mem_cons_self (a := a) (l := l))
    have h2 : inB s l = true := inB_sub h fun x hx => List.mem_cons_of_mem _ hx
    rw [List.nodup_cons] at hn
    rw [List.map_cons, List.nodup_cons]
    exact ⟨fun hm => hn.1 ((mem_els' M h2 h1.1 h1.2).1 hm), ih h2 hn.2⟩
/-- G has the values ys at xs. -/
def Vals (G : Ser M.K) (n : Nat) (xs ys : List Int) (i : Nat) : Prop := ∀ (j : Nat) (hx : j < xs.length) (hy : j < ys.length), j < i → Alg.ev n G (el M xs[j]) = el M ys[j]
theorem ev_interp_l {xs ys : List Int} (hx : inB s xs = true) (hy : inB s ys = true) (hlen : xs.length = ys.length) (hl : xs.length < 2 ^ 30) (u : Nat) :
    ∀ (i : Nat) (o w : List Int) (F : Ser M.K), i + u = xs.length → (xs.take i).Nodup → PL M o F → Bd F i → Vals M F i xs ys i → PL M w (plin ((xs.take i).map (el M))) →
    (xs.Nodup → ∃ r G, PL M r G ∧ Bd G xs.length ∧ Vals M G xs.length xs ys xs.length ∧ Ev (fun k => polynomial_Interpolate.l0 k xs ys o w xs (xs.length : Int) (i : Int) c s p) (r, 0)) ∧
    (¬ xs.Nodup → Ev (fun k => polynomial_Interpolate.l0 k xs ys o w xs (xs.length : Int) (i : Int) c s p) ([], 30)) := by
  induction u with
  | zero =>
    intro i o w F hi hnd ho hF hv hw
    obtain rfl : i = xs.length := by omega
    constructor
    · intro _
      refine ⟨o, F, ho, hF, hv, evs ?_⟩
      simp only [polynomial_Interpolate.l0]
      exact evf (by omega) (Ev.now _)
    · intro h
      rw [List.take_length] at hnd
      exact absurd hnd h
  | succ u ih =>
    intro i o w F hi hnd ho hF hv hw
    have hi' : i < xs.length := by omega
    have hiy : i < ys.length := by omega
    have hbx := inB_get hx hi'
    have hby := inB_get hy hiy
    have hvx := v_el M hbx.1 hbx.2
    have hvy := v_el M hby.1 hby.2
    have hc := ev_contains (xs.take i) xs[i] (by rw [List.length_take]; omega)
    by_cases hm : xs[i] ∈ xs.take i
    · have hbad : ¬ xs.Nodup := by
        intro h
        have h1 : (xs.take (i + 1)).Nodup := h.sublist (List.take_sublist _ _)
        rw [take_snoc hi', List.nodup_append] at h1
        exact h1.2.2 _ hm _ (by simp) rfl
      refine ⟨fun h => absurd h hbad, fun _ => evs ?_⟩
      simp only [polynomial_Interpolate.l0]
      rw [rd_nat hi', Int.toNat_natCast]
      rw [decide_eq_true hm] at hc
      exact evt (by omega) (evt (by omega) (evt (by omega) (evt (by omega) (Ev.bind hc (evt rfl (Ev.now _))))))
    · rw [decide_eq_false hm] at hc
      have hT : inB s (xs.take i) = true := inB_sub hx fun x h => List.mem_of_mem_take h
      have htl : ((xs.take i).map (el M)).length = i := by rw [List.length_map, List.length_take]; omega
      have hWb := Alg.plin_bd ((xs.take i).map (el M))
      have htop := Alg.plin_top ((xs.take i).map (el M))
      have hroot := fun x => Alg.plin_root ((xs.take i).map (el M)) x
      rw [htl] at hWb htop
      simp only [htl] at hroot
      have hW0 : Alg.ev (i + 1) (plin ((xs.take i).map (el M))) (el M xs[i]) ≠ 0 := fun e => hm ((mem_els' M hT hbx.1 hbx.2).1 ((hroot _).1 e))
      have hwl : w.length = i + 1 := hw.length_eq M htop.1 (htop.2 ▸ Alg.one_ne)
      have hol := ho.length_le M hF
      -- the step
      have e1 : ∀ k, polynomial_value.f k c s p o xs[i] = some (M.v (Alg.ev i F (el M xs[i]))) := fun k => by
        have := value_pl M k ho hF (el M xs[i]); rwa [hvx] at this
      have e2 : polynomial_sub.f c s p ys[i] (M.v (Alg.ev i F (el M xs[i]))) = some (M.v (el M ys[i] - Alg.ev i F (el M xs[i]))) := by
        have := psub_eq M (el M ys[i]) (Alg.ev i F (el M xs[i])); rwa [hvy] at this
      have e3 : ∀ k, polynomial_value.f k c s p w xs[i] = some (M.v (Alg.ev (i + 1) (plin ((xs.take i).map (el M))) (el M xs[i]))) := fun k => by
        have := value_pl M k hw hWb (el M xs[i]); rwa [hvx] at this
      have e7 : polynomial_sub.f c s p 0 xs[i] = some (M.v (0 - el M xs[i])) := by
        have := psub_eq M 0 (el M xs[i]); rwa [M.zero, hvx] at this
      generalize hK : (el M ys[i] - Alg.ev i F (el M xs[i])) * inv M (Alg.ev (i + 1) (plin ((xs.take i).map (el M))) (el M xs[i])) = kk
      have e4 := ev_mul M (el M ys[i] - Alg.ev i F (el M xs[i])) (inv M (Alg.ev (i + 1) (plin ((xs.take i).map (el M))) (el M xs[i])))
      rw [hK] at e4
      have e5 := ev_scaled M hw.inb (by omega) kk
      rw [hw.eq] at e5
      have hSc : PL M (trim (mk M (fun t => plin ((xs.take i).map (el M)) t * kk) w.length)) (fun t => plin ((xs.take i).map (el M)) t * kk) :=
        PL.nf M fun t ht => by rw [hw.bd M t ht, Alg.zero_mul]
      have hScl := nf_len M (fun t => plin ((xs.take i).map (el M)) t * kk) w.length
      generalize hsc : trim (mk M (fun t => plin ((xs.take i).map (el M)) t * kk) w.length) = sc at e5 hSc hScl
      have e6 := ev_sum M ho.inb hSc.inb (by omega) (by omega)
      rw [ho.eq, hSc.eq] at e6
      have hS : PL M (trim (mk M (sadd F (fun t => plin ((xs.take i).map (el M)) t * kk)) (max o.length sc.length))) (sadd F (fun t => plin ((xs.take i).map (el M)) t * kk)) :=
        PL.nf M (((ho.bd M).mono (Nat.le_max_left _ _)).sadd ((hSc.bd M).mono (Nat.le_max_right _ _)))
      generalize trim (mk M (sadd F (fun t => plin ((xs.take i).map (el M)) t * kk)) (max o.length sc.length)) = o' at e6 hS
      obtain ⟨w', hw', _, e8⟩ := ev_prod M hw (PL.lin M (el M xs[i])) (by omega) (by simp) (by omega) (by simp)
      rw [← Alg.plin_snoc, ← els_take M hi'] at hw'
      have hnd' : (xs.take (i + 1)).Nodup := by
        rw [take_snoc hi', List.nodup_append]
        refine ⟨hnd, by simp, ?_⟩
        intro y hy z hz e
        rw [List.mem_singleton] at hz
        exact hm (hz ▸ e ▸ hy)
      have hF' : Bd (sadd F (fun t => plin ((xs.take i).map (el M)) t * kk)) (i + 1) := (hF.mono (by omega)).sadd fun t ht => by rw [hWb t ht, Alg.zero_mul]
      have hsm : (fun t => plin ((xs.take i).map (el M)) t * kk) = smul kk (plin ((xs.take i).map (el M))) := by funext t; exact Alg.mul_comm _ _
      have hval : ∀ x, Alg.ev (i + 1) (sadd F (fun t => plin ((xs.take i).map (el M)) t * kk)) x = Alg.ev i F x + kk * Alg.ev (i + 1) (plin ((xs.take i).map (el M))) x := fun x => by
        rw [Alg.ev_sadd, hsm, Alg.ev_smul, Alg.ev_bd hF (by omega)]
      have hv' : Vals M (sadd F (fun t => plin ((xs.take i).map (el M)) t * kk)) (i + 1) xs ys (i + 1) := by
        intro j hjx hjy hj
        rw [hval]
        by_cases e : j = i
        · subst e
          rw [← hK, Alg.mul_assoc, inv_mul M hW0, Alg.mul_one, Alg.add_comm, Alg.sub_add_cancel]
        · have hmem : el M xs[j] ∈ (xs.take i).map (el M) := List.mem_map.2 ⟨xs[j], by
            rw [List.mem_take_iff_getElem]; exact ⟨j, by omega, rfl⟩, rfl⟩
          rw [(hroot _).2 hmem, Alg.mul_zero, Alg.add_zero]
          exact hv j hjx hjy (by omega)
      have step : ∀ R, Ev (fun k => polynomial_Interpolate.l0 k xs ys o' w' xs (xs.length : Int) ((i + 1 : Nat) : Int) c s p) R → Ev (fun k => polynomial_Interpolate.l0 k xs ys o w xs (xs.length : Int) (i : Int) c s p) R := by
        intro R hR
        refine evs ?_
        simp only [polynomial_Interpolate.l0]
        rw [rd_nat hi', rd_nat hiy, Int.toNat_natCast, show wrap64 ((i : Int) + 1) = ((i + 1 : Nat) : Int) from w64 (by omega) (by omega)]
        simp only [e1, e3, e7, Option.bind_some, e2]
        exact evt (by omega) (evt (by omega) (evt (by omega) (evt (by omega) (Ev.bind hc (evf (by simp) (evt (by omega) (Ev.bind (ev_inv M hW0) (Ev.bind e4 (Ev.bind e5 (Ev.bind e6 (Ev.bind e8 hR)))))))))))
      obtain ⟨g1, g2⟩ := ih (i + 1) o' w' _ (by omega) hnd' hS hF' hv' hw'
      constructor
      · intro h
        obtain ⟨r, G, h1, h2, h3, h4⟩ := g1 h
        exact ⟨r, G, h1, h2, h3, step _ h4⟩
      · intro h
        exact step _ (g2 h)
theorem ev_Interpolate {xs ys : List Int} (hx : inB s xs = true) (hy : inB s ys = true) (hlen : xs.length = ys.length) (hl : xs.length < 2 ^ 30) :
    (xs.Nodup → ∃ r G, PL M r G ∧ Bd G xs.length ∧ Vals M G xs.length xs ys xs.length ∧ Ev (fun k => polynomial_Interpolate.f k c s p xs ys) (r, 0)) ∧
    (¬ xs.Nodup → Ev (fun k => polynomial_Interpolate.f k c s p xs ys) ([], 30)) := by
  obtain ⟨g1, g2⟩ := ev_interp_l M hx hy hlen hl xs.length 0 [] [1] (fun _ => 0) (by omega) (by simp) (PL.nil M) (Alg.bd_zero 0) (fun j _ _ h => by omega) (PL.one M)
  have hex := ev_elements (c := c) (s := s) (p := p) xs
  rw [any_bad, hx, goodB_iff.2 M.good] at hex
  have hey := ev_elements (c := c) (s := s) (p := p) ys
  rw [any_bad, hy, goodB_iff.2 M.good] at hey
  have step : ∀ R, Ev (fun k => polynomial_Interpolate.l0 k xs ys [] [1] xs (xs.length : Int) ((0 : Nat) : Int) c s p) R → Ev (fun k => polynomial_Interpolate.f k c s p xs ys) R := by
    intro R hR
    unfold polynomial_Interpolate.f
    refine Ev.bind hex (evt rfl (Ev.bind hey (evs ?_)))
    simp only [polynomial_Interpolate.j0]
    exact evf (by simp) (evt (by omega) hR)
  constructor
  · intro h
    obtain ⟨r, G, h1, h2, h3, h4⟩ := g1 h
    exact ⟨r, G, h1, h2, h3, step _ h4⟩
  · intro h
    exact step _ (g2 h)
/-- Values at enough points name the series. -/
theorem Vals.unique {F G : Ser M.K} {n : Nat} {xs ys : List Int} (hx : inB s xs = true) (hn : xs.Nodup) (hlen : xs.length = ys.length) (hF : Bd F n) (hG : Bd G n) (hnl : n ≤ xs.length) (h1 : Vals M F n xs ys xs.length) (h2 : Vals M G n xs ys xs.length) : F = G := by
  refine Alg.eq_of_values hF hG (xs.map (el M)) (els_nodup M hx hn) (by rw [List.length_map]; exact hnl) ?_
  intro x hm
  obtain ⟨y, hy, rfl⟩ := List.mem_map.1 hm
  obtain ⟨j, hj, rfl⟩ := List.getElem_of_mem hy
  rw [h1 j hj (by omega) hj, h2 j hj (by omega) hj]
end
end Go.Proofs.Ytlhaclammaaabaa.Pg
