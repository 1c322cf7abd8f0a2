import Derived.Test.YtlhaclammaaabaaB35
import Derived.Test.YtlhaclammaaabaaB34
import Derived.Test.YtlhaclammaaabaaRFrm
import Derived.Test.YtlhaclammaaabaaRDiv
import Derived.Test.YtlhaclammaaabaaUInt
/-! PolynomialInterpolates, with no program in sight. -/
namespace Go.Proofs.Ytlhaclammaaabaa.Pg
open Go.RowKit Go.Proofs.YtlhaclammaaabaaW.PrintWords Go.Proofs.YtlhaclammaaabaaW.PrintLast Go.Proofs.YtlhaclammaaabaaW.PrintMore
open Go.Proofs.Ytlhaclammaaabaa.Alg (CF card pw Ser Bd sadd ssub smul pmul tl sh cst lin plin)
theorem relm_eq {c s p : Int} (x : Int) : barscanref05_element.f c s p x = some (decide (0 ≤ x) && decide (x < s)) := by
  unfold barscanref05_element.f
  by_cases h : x ≥ 0
  · rw [if_pos h, decide_eq_true (show 0 ≤ x from h)]; rfl
  · rw [if_neg h, decide_eq_false (show ¬ 0 ≤ x from h)]; rfl
theorem rtwice_l (l : List Int) (hl : l.length < 2 ^ 40) (u : Nat) : ∀ i : Nat, i + u = l.length → (l.take i).Nodup → Ev (fun k => barscanref05_twice.l0 k l (i : Int)) (decide (¬ l.Nodup)) := by
  induction u with
  | zero =>
    intro i hi hn
    rw [List.take_of_length_le (by omega)] at hn
    refine evs ?_
    simp only [barscanref05_twice.l0]
    exact evf (by omega) (evn (by rw [decide_eq_false]; exact fun h => h hn) (Ev.now _))
  | succ u ih =>
    intro i hi hn
    have hi' : i < l.length := by omega
    refine evs ?_
    simp only [barscanref05_twice.l0]
    refine evt (by omega) ?_
    have key : ∀ t j : Nat, j + t = i → l[i] ∉ l.take j → Ev (fun k => barscanref05_twice.l1 k l (i : Int) (j : Int)) (decide (¬ l.Nodup)) := by
      intro t
      induction t with
      | zero =>
        intro j hj hm
        obtain rfl : j = i := by omega
        refine evs ?_
        simp only [barscanref05_twice.l1]
        rw [show wrap64 ((j : Int) + 1) = ((j + 1 : Nat) : Int) from w64 (by omega) (by omega)]
        refine evf (by omega) (ih (j + 1) (by omega) ?_)
        rw [take_snoc hi', List.nodup_append]
        refine ⟨hn, by simp, ?_⟩
        intro y hy z hz e
        rw [List.mem_singleton] at hz
        exact hm (hz ▸ e ▸ hy)
      | succ t iht =>
        intro j hj hm
        have hj' : j < l.length := by omega
        refine evs ?_
        simp only [barscanref05_twice.l1]
        rw [rd_nat hi', rd_nat hj', show wrap64 ((j : Int) + 1) = ((j + 1 : Nat) : Int) from w64 (by omega) (by omega)]
        refine evt (by omega) (evt (by omega) (evt (by omega) (evt (by omega) (evt (by omega) ?_))))
        by_cases e : l[i] = l[j]
        · refine evt e (evn ?_ (Ev.now _))
          rw [decide_eq_true]
          intro h
          have := (List.getElem_inj h).1 e
          omega
        · refine evf e (iht (j + 1) (by omega) ?_)
          rw [take_snoc hj', List.mem_append, List.mem_singleton]
          rintro (h | h)
          · exact hm h
          · exact e h
    exact key i 0 (by omega) (by simp)
theorem rtwice (l : List Int) (hl : l.length < 2 ^ 40) : Ev (fun k => barscanref05_twice.f k l) (decide (¬ l.Nodup)) := rtwice_l l hl l.length 0 (by omega) (by simp)
section
variable {c s p : Int} (M : Model c s p)
/-- The other points, and the scale of Lagrange's i-th summand, over the first k points. -/
def others (xs : List Int) (i : Nat) : Nat → List Int
  | 0 => []
  | k + 1 => if k = i then others xs i k else others xs i k ++ [rd xs (k : Int)]
noncomputable def lag (xs : List Int) (i : Nat) (y : M.K) : Nat → M.K
  | 0 => y
  | k + 1 => if k = i then lag xs i y k else lag xs i y k * inv M (el M (rd xs (i : Int)) - el M (rd xs (k : Int)))
theorem others_len (xs : List Int) (i k : Nat) : (others xs i k).length ≤ k := by
  induction k with
  | zero => simp [others]
  | succ k ih =>
    unfold others
    split
    · omega
    · rw [List.length_append, List.length_singleton]; omega
theorem others_len' (xs : List Int) {i k : Nat} (h : i < k) : (others xs i k).length + 1 ≤ k := by
  induction k with
  | zero => omega
  | succ k ih =>
    unfold others
    by_cases e : k = i
    · rw [if_pos e]; have := others_len xs i k; omega
    · rw [if_neg e, List.length_append, List.length_singleton]; have := ih (by omega); omega
theorem others_mem {xs : List Int} (i k : Nat) (hk : k ≤ xs.length) (x : Int) : x ∈ others xs i k ↔ ∃ j, ∃ h : j < xs.length, j < k ∧ j ≠ i ∧ x = xs[j] := by
  induction k with
  | zero =>
    simp only [others]
    constructor
    · intro h; exact absurd h (by simp)
    · rintro ⟨j, _, h, _⟩; omega
  | succ k ih =>
    unfold others
    by_cases e : k = i
    · rw [if_pos e, ih (by omega)]
      constructor
      · rintro ⟨j, h, h1, h2, h3⟩; exact ⟨j, h, by omega, h2, h3⟩
      · rintro ⟨j, h, h1, h2, h3⟩; exact ⟨j, h, by omega, h2, h3⟩
    · rw [if_neg e, List.mem_append, ih (by omega), List.mem_singleton, rd_nat (show k < xs.length by omega)]
      constructor
      · rintro (⟨j, h, h1, h2, h3⟩ | h)
        · exact ⟨j, h, by omega, h2, h3⟩
        · exact ⟨k, by omega, by omega, e, h⟩
      · rintro ⟨j, h, h1, h2, h3⟩
        by_cases e2 : j = k
        · subst e2; exact .inr h3
        · exact .inl ⟨j, h, by omega, h2, h3⟩
theorem others_inB {xs : List Int} (hx : inB s xs = true) (i k : Nat) (hk : k ≤ xs.length) : inB s (others xs i k) = true := inB_sub hx fun x h => by
  obtain ⟨j, h1, _, _, rfl⟩ := (others_mem i k hk x).1 h
  exact List.getElem_mem _
theorem el_inj {xs : List Int} (hx : inB s xs = true) {x y : Int} (h1 : x ∈ xs) (h2 : y ∈ xs) (e : el M x = el M y) : x = y := by
  rw [← v_el_mem M hx h1, ← v_el_mem M hx h2, e]
theorem lag_val {xs : List Int} (hx : inB s xs = true) (hn : xs.Nodup) {i : Nat} (hi : i < xs.length) (y : M.K) (k : Nat) : k ≤ xs.length →
    Alg.ev ((others xs i k).length + 1) (plin ((others xs i k).map (el M))) (el M xs[i]) * lag M xs i y k = y := by
  induction k with
  | zero =>
    intro _
    show Alg.ev 1 (cst 1) _ * y = y
    rw [Alg.ev_cst (Nat.le_refl _), Alg.one_mul]
  | succ k ih =>
    intro hk
    have h := ih (by omega)
    unfold others lag
    by_cases e : k = i
    · rw [if_pos e, if_pos e]; exact h
    · have hk' : k < xs.length := by omega
      have hne : el M xs[i] - el M xs[k] ≠ 0 := fun e2 => by
        have := el_inj M hx (List.getElem_mem hi) (List.getElem_mem hk') (Alg.eq_of_sub e2)
        have := (List.getElem_inj hn).1 this
        omega
      rw [if_neg e, if_neg e, rd_nat hi, rd_nat hk', List.map_append, List.length_append]
      have h2 := Alg.ev_plin_snoc ((others xs i k).map (el M)) (el M xs[k]) (el M xs[i])
      rw [List.length_map] at h2
      show Alg.ev ((others xs i k).length + 2) (plin ((others xs i k).map (el M) ++ [el M xs[k]])) _ * _ = y
      rw [h2, Alg.mul_assoc, Alg.mul_left_comm (el M xs[i] - el M xs[k]), Alg.mul_comm (el M xs[i] - el M xs[k]), inv_mul M hne, Alg.mul_one]
      exact h
theorem rScale' {a : List Int} {A : Ser M.K} (ha : PL M a A) (hla : a.length ≤ 4097) (y : M.K) :
    ∃ r, PL M r (smul y A) ∧ r.length ≤ a.length ∧ Ev (fun k => barscanref05_Scale.f k c s p a (M.v y)) (r, 0) := by
  have h := rScale_l M ha.inb (by omega) y a.length 0 (by omega)
  have hD : (fun i => co M a i * y) = smul y A := by
    rw [ha.eq]; funext i; exact Alg.mul_comm _ _
  rw [hD] at h
  refine ⟨_, PL.nf M ((ha.bd M).smul y), nf_len M _ _, ?_⟩
  unfold barscanref05_Scale.f
  simp only [relm_eq]
  refine Ev.bind (rPValid (s_lt M) a) (evt (ha.valid M hla) (Ev.bind (Ev.now _) (evs ?_)))
  rw [decide_eq_true (M.low y), decide_eq_true (M.high y)]
  simp only [barscanref05_Scale.j0]
  exact evf (by simp) h
theorem rAdd' {a b : List Int} {A B : Ser M.K} (ha : PL M a A) (hb : PL M b B) (hla : a.length ≤ 4097) (hlb : b.length ≤ 4097) :
    ∃ r, PL M r (sadd A B) ∧ r.length ≤ max a.length b.length ∧ Ev (fun k => barscanref05_Add.f k c s p a b) (r, 0) := by
  have h := rAdd_l M ha.inb hb.inb (by omega) (by omega) (max a.length b.length) 0 (by omega)
  rw [ha.eq, hb.eq] at h
  refine ⟨_, PL.nf M (((ha.bd M).mono (Nat.le_max_left _ _)).sadd ((hb.bd M).mono (Nat.le_max_right _ _))), nf_len M _ _, ?_⟩
  unfold barscanref05_Add.f
  refine Ev.bind (rPValid (s_lt M) a) (evt (ha.valid M hla) (Ev.bind (rPValid (s_lt M) b) (evs ?_)))
  rw [hb.valid M hlb]
  simp only [barscanref05_Add.j0]
  exact evf (by simp) h
theorem rInterp_l {xs ys : List Int} (hx : inB s xs = true) (hy : inB s ys = true) (hn : xs.Nodup) (hlen : xs.length = ys.length) (hl : xs.length ≤ 4000) (u : Nat) :
    ∀ (i : Nat) (o : List Int) (F : Ser M.K), i + u = xs.length → PL M o F → Bd F xs.length → Vals M F xs.length xs ys i →
    (∀ (j : Nat) (h : j < xs.length), i ≤ j → Alg.ev xs.length F (el M xs[j]) = 0) →
    ∃ r G, PL M r G ∧ Bd G xs.length ∧ Vals M G xs.length xs ys xs.length ∧ Ev (fun k => barscanref05_Interpolate.l0 k xs ys o (i : Int) c s p) (r, 0) := by
  induction u with
  | zero =>
    intro i o F hi ho hF hv _
    obtain rfl : i = xs.length := by omega
    refine ⟨o, F, ho, hF, hv, evs ?_⟩
    simp only [barscanref05_Interpolate.l0]
    exact evf (by omega) (Ev.now _)
  | succ u ih =>
    intro i o F hi ho hF hv hz
    have hi' : i < xs.length := by omega
    have hiy : i < ys.length := by omega
    have hby := inB_get hy hiy
    have hvy := v_el M hby.1 hby.2
    have hbx := inB_get hx hi'
    have hvx := v_el M hbx.1 hbx.2
    have hol := ho.length_le M hF
    have hO := others_inB hx i xs.length (Nat.le_refl _)
    have hOl := others_len' xs hi'
    obtain ⟨pl, hp, lp, ep⟩ := rFromRoots M hO (by omega)
    obtain ⟨q, hq, lq, eq⟩ := rScale' M hp (by omega) (lag M xs i (el M ys[i]) xs.length)
    obtain ⟨o', ho', lo', eo⟩ := rAdd' M ho hq (by omega) (by omega)
    have hval : ∀ x, Alg.ev xs.length (sadd F (smul (lag M xs i (el M ys[i]) xs.length) (plin ((others xs i xs.length).map (el M))))) x =
        Alg.ev xs.length F x + lag M xs i (el M ys[i]) xs.length * Alg.ev ((others xs i xs.length).length + 1) (plin ((others xs i xs.length).map (el M))) x := fun x => by
      have h1 := Alg.plin_bd ((others xs i xs.length).map (el M))
      rw [List.length_map] at h1
      rw [Alg.ev_sadd, Alg.ev_smul, Alg.ev_bd h1 (by omega)]
    have hroot := fun x => Alg.plin_root ((others xs i xs.length).map (el M)) x
    simp only [List.length_map] at hroot
    have hother : ∀ (j : Nat) (h : j < xs.length), j ≠ i → Alg.ev ((others xs i xs.length).length + 1) (plin ((others xs i xs.length).map (el M))) (el M xs[j]) = 0 := fun j h hne => by
      rw [hroot]
      exact List.mem_map.2 ⟨xs[j], (others_mem i xs.length (Nat.le_refl _) _).2 ⟨j, h, h, hne, rfl⟩, rfl⟩
    have hself := lag_val M hx hn hi' (el M ys[i]) xs.length (Nat.le_refl _)
    have hF' : Bd (sadd F (smul (lag M xs i (el M ys[i]) xs.length) (plin ((others xs i xs.length).map (el M))))) xs.length := by
      have h1 := Alg.plin_bd ((others xs i xs.length).map (el M))
      rw [List.length_map] at h1
      exact hF.sadd ((h1.mono (by omega)).smul _)
    obtain ⟨r, G, h1, h2, h3, h4⟩ := ih (i + 1) o' _ (by omega) ho' hF' (by
      intro j hjx hjy hj
      rw [hval]
      by_cases e : j = i
      · subst e
        rw [hz j hjx (Nat.le_refl _), Alg.mul_comm, hself, Alg.zero_add]
      · rw [hother j hjx e, Alg.mul_zero, Alg.add_zero]
        exact hv j hjx hjy (by omega)) (by
      intro j h hj
      rw [hval, hother j h (by omega), Alg.mul_zero, Alg.add_zero]
      exact hz j h (by omega))
    refine ⟨r, G, h1, h2, h3, evs ?_⟩
    simp only [barscanref05_Interpolate.l0]
    rw [rd_nat hiy]
    refine evt (by omega) (evt (by omega) (evt (by omega) ?_))
    have key : ∀ t k : Nat, k + t = xs.length → Ev (fun m => barscanref05_Interpolate.l1 m xs ys o (i : Int) (others xs i k) (M.v (lag M xs i (el M ys[i]) k)) (k : Int) c s p) (r, 0) := by
      intro t
      induction t with
      | zero =>
        intro k hk
        obtain rfl : k = xs.length := by omega
        refine evs ?_
        simp only [barscanref05_Interpolate.l1]
        rw [show wrap64 ((i : Int) + 1) = ((i + 1 : Nat) : Int) from w64 (by omega) (by omega)]
        exact evf (by omega) (Ev.bind ep (Ev.bind eq (Ev.bind eo h4)))
      | succ t iht =>
        intro k hk
        have hk' : k < xs.length := by omega
        have hnext := iht (k + 1) (by omega)
        refine evs ?_
        simp only [barscanref05_Interpolate.l1]
        rw [show wrap64 ((k : Int) + 1) = ((k + 1 : Nat) : Int) from w64 (by omega) (by omega)]
        refine evt (by omega) ?_
        by_cases e : k = i
        · have e1 : others xs i (k + 1) = others xs i k := if_pos e
          have e2 : lag M xs i (el M ys[i]) (k + 1) = lag M xs i (el M ys[i]) k := if_pos e
          rw [e1, e2] at hnext
          exact evt (by omega) hnext
        · have e1 : others xs i (k + 1) = others xs i k ++ [rd xs (k : Int)] := if_neg e
          have e2 : lag M xs i (el M ys[i]) (k + 1) = lag M xs i (el M ys[i]) k * inv M (el M (rd xs (i : Int)) - el M (rd xs (k : Int))) := if_neg e
          rw [e1, e2, rd_nat hi', rd_nat hk'] at hnext
          have hbk := inB_get hx hk'
          have hvk := v_el M hbk.1 hbk.2
          have hne : el M xs[i] - el M xs[k] ≠ 0 := fun e2 => by
            have := el_inj M hx (List.getElem_mem hi') (List.getElem_mem hk') (Alg.eq_of_sub e2)
            have := (List.getElem_inj hn).1 this
            omega
          have hless : barscanref05_less.f c s p xs[i] xs[k] = some (M.v (el M xs[i] - el M xs[k])) := by
            have := rless_eq M (el M xs[i]) (el M xs[k]); rwa [hvx, hvk] at this
          rw [rd_nat hi', rd_nat hk']
          simp only [hless]
          have hol2 := others_len xs i k
          exact evf (by omega) (evt (by omega) (evt (by omega) (evt (by omega) (evt (by omega) (Ev.bind (Ev.now _) (Ev.bind (rDiv M _ hne) hnext))))))
    have := key xs.length 0 (by omega)
    rw [show M.v (lag M xs i (el M ys[i]) 0) = ys[i] from hvy] at this
    exact this
end
theorem nodup_small {c s p : Int} (M : Model c s p) {xs : List Int} (hx : inB s xs = true) (hn : xs.Nodup) : (xs.length : Int) ≤ s := by
  have h1 := Alg.length_le_of_subset (els_nodup M hx hn) (m := (CF.elems : List M.K)) (fun x _ => CF.full x)
  rw [List.length_map] at h1
  have h2 := M.size
  have h3 : card M.K = (CF.elems : List M.K).length := rfl
  omega
theorem both_Interpolate (c s p : Int) (xs ys : List Int) (hs : s < 2 ^ 63) (hlx : xs.length ≤ 30) (hly : ys.length ≤ 30) : ∃ r : List Int × Int, r.1.length < 17592186044416 ∧ Ev (fun k => polynomial_Interpolate.f k c s p xs ys) r ∧ Ev (fun k => barscanref05_Interpolate.f k c s p xs ys) r := by
  have hex := ev_elements (c := c) (s := s) (p := p) xs
  have hey := ev_elements (c := c) (s := s) (p := p) ys
  rw [any_bad] at hex hey
  have hrx := rElements (c := c) (s := s) (p := p) xs (by omega)
  have hry := rElements (c := c) (s := s) (p := p) ys (by omega)
  by_cases hg : goodB c s p = true
  rotate_left
  · rw [Bool.eq_false_iff.2 hg, Bool.false_and] at hex
    refine ⟨([], 1), by simp, Ev.bind hex (evf (by simp) (evs ?_)), Ev.bind (rValid hs) (evf hg (evs ?_))⟩
    · simp only [polynomial_Interpolate.j0]; exact evt (by simp) (Ev.now _)
    · simp only [barscanref05_Interpolate.j0]; exact evt (by simp) (Ev.now _)
  rw [hg, Bool.true_and] at hex hey
  by_cases hix : inB s xs = true
  rotate_left
  · rw [Bool.eq_false_iff.2 hix] at hex hrx
    refine ⟨([], 1), by simp, Ev.bind hex (evf (by simp) (evs ?_)), Ev.bind (rValid hs) (evt hg (Ev.bind hrx (evf (by simp) (evs ?_))))⟩
    · simp only [polynomial_Interpolate.j0]; exact evt (by simp) (Ev.now _)
    · simp only [barscanref05_Interpolate.j0]; exact evt (by simp) (Ev.now _)
  by_cases hiy : inB s ys = true
  rotate_left
  · rw [hix] at hex hrx
    rw [Bool.eq_false_iff.2 hiy] at hey hry
    refine ⟨([], 1), by simp, Ev.bind hex (evt rfl (Ev.bind hey (evs ?_))), Ev.bind (rValid hs) (evt hg (Ev.bind hrx (evt rfl (Ev.bind hry (evs ?_)))))⟩
    · simp only [polynomial_Interpolate.j0]; exact evt (by simp) (Ev.now _)
    · simp only [barscanref05_Interpolate.j0]; exact evt (by simp) (Ev.now _)
  rw [hix] at hex hrx
  rw [hiy] at hey hry
  by_cases hlen : xs.length = ys.length
  rotate_left
  · refine ⟨([], 7), by simp, Ev.bind hex (evt rfl (Ev.bind hey (evs ?_))), Ev.bind (rValid hs) (evt hg (Ev.bind hrx (evt rfl (Ev.bind hry (evs ?_)))))⟩
    · simp only [polynomial_Interpolate.j0]; exact evf (by simp) (evf (by omega) (Ev.now _))
    · simp only [barscanref05_Interpolate.j0]; exact evf (by simp) (evf (by omega) (Ev.now _))
  obtain ⟨M⟩ := model (goodB_iff.1 hg)
  obtain ⟨g1, g2⟩ := ev_Interpolate M hix hiy hlen (by omega)
  have hpre : ∀ r, Ev (fun k => if (xs.length : Int) > s then (barscanref05_Interpolate.j1 k xs ys true c s p) else ((barscanref05_twice.f k xs).bind fun t1472 => (barscanref05_Interpolate.j1 k xs ys t1472 c s p))) r → Ev (fun k => barscanref05_Interpolate.f k c s p xs ys) r := by
    intro r h
    refine Ev.bind (rValid hs) (evt hg (Ev.bind hrx (evt rfl (Ev.bind hry (evs ?_)))))
    simp only [barscanref05_Interpolate.j0]
    exact evf (by simp) (evt (by omega) h)
  have j1t : Ev (fun k => barscanref05_Interpolate.j1 k xs ys true c s p) ([], 30) := by
    refine evs ?_
    simp only [barscanref05_Interpolate.j1]
    exact evt (by simp) (Ev.now _)
  by_cases hn : xs.Nodup
  · obtain ⟨r, G, h1, h2, h3, h4⟩ := g1 hn
    obtain ⟨r', G', k1, k2, k3, k4⟩ := rInterp_l M hix hiy hn hlen (by omega) xs.length 0 [] (fun _ => 0) (by omega) (PL.nil M) (Alg.bd_zero _) (fun j _ _ h => by omega) (fun j h _ => Alg.ev_zero _ _)
    have e := Vals.unique M hix hn hlen h2 k2 (Nat.le_refl _) h3 k3
    subst e
    rw [← h1.unique M k1] at k4
    have hl := h1.length_le M h2
    refine ⟨(r, 0), by simp only; omega, h4, hpre _ (evf (by have := nodup_small M hix hn; omega) (Ev.bind (rtwice xs (by omega)) (evs ?_)))⟩
    rw [decide_eq_false (show ¬ ¬ xs.Nodup from fun h => h hn)]
    simp only [barscanref05_Interpolate.j1]
    exact evf (by simp) k4
  · refine ⟨([], 30), by simp, g2 hn, hpre _ ?_⟩
    by_cases hb : (xs.length : Int) > s
    · exact evt hb j1t
    · refine evf hb (Ev.bind (rtwice xs (by omega)) ?_)
      rw [decide_eq_true hn]
      exact j1t
theorem pure_PolynomialInterpolates (c s p : Int) (xs ys : List Int) (hs : s < 2 ^ 63) : ∃ k, barscanlaw05_PolynomialInterpolates.f k c s p xs ys = some true := by
  refine Ev.rounds ?_
  simp only [barscanlaw05_PolynomialInterpolates.f]
  by_cases h1 : (xs.length : Int) > 30
  · exact evt h1 (Ev.bind ev_ex (Ev.now _))
  refine evf h1 ?_
  by_cases h2 : (ys.length : Int) > 30
  · exact evt h2 (Ev.bind ev_ex (Ev.now _))
  refine evf h2 ?_
  obtain ⟨r, l, a, b⟩ := both_Interpolate c s p xs ys hs (by omega) (by omega)
  exact Ev.bind a (Ev.bind b (Ev.bind (ev_same l) (evt rfl (evt rfl (Ev.bind ev_ex (Ev.now _))))))
end Go.Proofs.Ytlhaclammaaabaa.Pg
