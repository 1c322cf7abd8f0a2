import Derived.RangeFuncNested
import Derived.RangeFuncBound
import Derived.RangeFuncBox
import Derived.RangeFuncCalls
import Derived.RangeFuncLeaves
import Derived.Shelf.Abstract
import Derived.Shelf.RegionOpen
import Derived.WalkKit
import Derived.OwnWalkIn
import Derived.TacticsInMore
import Derived.LoopNIn
import Derived.LoopIn
import Derived.Test.YtlhaclammaaabaaB1
/-! polynomial.value: a range over slices.Backward. -/
namespace Go.Proofs.Ytlhaclammaaabaa.Pg
open Go.RowKit Go.Shelf Go.Proofs.YtlhaclammaaabaaW.PrintWords Go.Proofs.YtlhaclammaaabaaW.PrintLast Go.Proofs.YtlhaclammaaabaaW.PrintMore
set_option linter.unusedVariables false
set_option linter.unusedSimpArgs false
attribute [local go_sem] Oper.semAt_some

/-! ### The plain side -/
/-- Enough for each call to return. -/
def vOk (f0 f1 x : Int) : Prop := (f0 = 2 ∨ f1 ≠ 0) ∧ 0 ≤ x ∧ x < 4611686018427387904
instance (f0 f1 x : Int) : Decidable (vOk f0 f1 x) := inferInstanceAs (Decidable (_ ∧ _ ∧ _))
theorem mul_l0_some (n : Nat) : ∀ (k : Nat) (a b v f0 f1 f2 : Int), b < (2 : Int) ^ n → n < k → ∃ t, polynomial_mul.l0 k a b v f0 f1 f2 = some t := by
  induction n with
  | zero =>
    intro k a b v f0 f1 f2 hb hk
    obtain ⟨k, rfl⟩ : ∃ m, k = m + 1 := ⟨k - 1, by omega⟩
    refine ⟨v, ?_⟩
    simp only [polynomial_mul.l0]
    rw [if_neg (by simp at hb; omega)]
  | succ n ih =>
    intro k a b v f0 f1 f2 hb hk
    obtain ⟨k, rfl⟩ : ∃ m, k = m + 1 := ⟨k - 1, by omega⟩
    have hb2 : b / 2 < (2 : Int) ^ n := by rw [Int.pow_succ] at hb; omega
    simp only [polynomial_mul.l0]
    by_cases h : b > 0
    · rw [if_pos h]
      by_cases h1 : Go.bits .and .i64 b 1 = 1
      · rw [if_pos h1]
        by_cases h2 : wrap64 (a * 2) ≥ f1
        · rw [if_pos h2]; exact ih k _ _ _ _ _ _ hb2 (by omega)
        · rw [if_neg h2]; exact ih k _ _ _ _ _ _ hb2 (by omega)
      · rw [if_neg h1]
        by_cases h2 : wrap64 (a * 2) ≥ f1
        · rw [if_pos h2]; exact ih k _ _ _ _ _ _ hb2 (by omega)
        · rw [if_neg h2]; exact ih k _ _ _ _ _ _ hb2 (by omega)
    · rw [if_neg h]; exact ⟨_, rfl⟩
/-- The products and sums that the calls return. -/
def mulT (f0 f1 f2 v x : Int) : Int := (polynomial_mul.f 70 f0 f1 f2 v x).getD 0
def addT (f0 f1 f2 a b : Int) : Int := (polynomial_add.f f0 f1 f2 a b).getD 0
theorem mulT_some {f0 f1 f2 x : Int} (h : vOk f0 f1 x) (v : Int) : polynomial_mul.f 70 f0 f1 f2 v x = some (mulT f0 f1 f2 v x) := by
  obtain ⟨t, ht⟩ : ∃ t, polynomial_mul.f 70 f0 f1 f2 v x = some t := by
    unfold polynomial_mul.f
    by_cases h0 : f0 = 2
    · rw [if_pos h0]
      exact mul_l0_some 62 70 _ _ _ _ _ _ (by have := h.2.2; simpa using this) (by omega)
    · rw [if_neg h0, if_neg (h.1.resolve_left h0)]
      exact ⟨_, rfl⟩
  unfold mulT
  rw [ht]; rfl
theorem addT_some {f0 f1 f2 x : Int} (h : vOk f0 f1 x) (a b : Int) : polynomial_add.f f0 f1 f2 a b = some (addT f0 f1 f2 a b) := by
  unfold addT polynomial_add.f
  by_cases h0 : f0 = 2
  · rw [if_pos h0]; rfl
  · rw [if_neg h0, if_neg (h.1.resolve_left h0)]; rfl
/-- Horner's scheme, over coefficients with the highest one first. -/
def horner (f0 f1 f2 x : Int) (l : List Int) : Int := l.foldl (fun v c => addT f0 f1 f2 (mulT f0 f1 f2 v x) c) 0
theorem horner_snoc (f0 f1 f2 x : Int) (l : List Int) (c : Int) : horner f0 f1 f2 x (l ++ [c]) = addT f0 f1 f2 (mulT f0 f1 f2 (horner f0 f1 f2 x l) x) c := by simp [horner]
/-- The value of a polynomial. -/
def polynomial_value.f (k : Nat) (a0_0 : Int) (a0_1 : Int) (a0_2 : Int) (l1 : List Int) (a2 : Int) : Option Int := if vOk a0_0 a0_1 a2 then some (horner a0_0 a0_1 a0_2 a2 l1.reverse) else none
theorem polynomial_value.mono : ∀ a0 a1 a2 a3 a4 k, LeO (polynomial_value.f k a0 a1 a2 a3 a4) (polynomial_value.f (k + 1) a0 a1 a2 a3 a4) := fun _ _ _ _ _ _ => LeO.refl _

/-! ### The iterator -/
/-- What a round keeps: all old blocks but one. -/
def Kq (n₀ Bv : Nat) (W W' : World) : Prop := W.heap.size ≤ W'.heap.size ∧ ∀ k, k < n₀ → k ≠ Bv → W'.heap[k]? = W.heap[k]?
theorem Kq.refl (n₀ Bv : Nat) (W : World) : Kq n₀ Bv W W := ⟨Nat.le_refl _, fun _ _ _ => rfl⟩
theorem Kq.trans {n₀ Bv : Nat} {A B C : World} (h : Kq n₀ Bv A B) (k : Kq n₀ Bv B C) : Kq n₀ Bv A C := ⟨Nat.le_trans h.1 k.1, fun i hi hn => (k.2 i hi hn).trans (h.2 i hi hn)⟩
theorem Kq.cell {n₀ Bv : Nat} {A B : World} (h : Kq n₀ Bv A B) {p : Addr} (hp : p.block < n₀) (hn : p.block ≠ Bv) : B.cell? p = A.cell? p := by
  unfold World.cell?
  rw [h.2 _ hp hn]
theorem Kq.put {n₀ Bv : Nat} (W : World) (l : Nat) (o' : Obj) (h : n₀ ≤ l) : Kq n₀ Bv W (W.putObj l o') :=
  ⟨by simp [World.putObj], fun k hk _ => World.putObj_heap_other (by omega)⟩
/-- The pairs that have come when k rounds are over. -/
def back (zs : List Int) (k : Nat) : List (Int × Int) := (List.range k).map fun j => (((zs.length - 1 - j : Nat) : Int), zs[zs.length - 1 - j]?.getD 0)
theorem back_succ (zs : List Int) (k : Nat) : back zs (k + 1) = back zs k ++ [(((zs.length - 1 - k : Nat) : Int), zs[zs.length - 1 - k]?.getD 0)] := by simp [back, List.range_succ]
theorem back_length (zs : List Int) (k : Nat) : (back zs k).length = k := by simp [back]
theorem back_all (zs : List Int) : (back zs zs.length).map (·.2) = zs.reverse := by
  apply List.ext_getElem
  · simp [back]
  · intro i h1 h2
    have hi : i < zs.length := by simpa [back] using h1
    simp [back, List.getElem_reverse, show zs.length - 1 - i < zs.length from by omega]
set_option maxRecDepth 100000 in
set_option maxHeartbeats 4000000 in
theorem backward1 (n : Nat) (hn : 1 ≤ n) (l Bs n₀ Bv len cap : Nat) (ad : Addr) (zs : List Int) (hlen : zs.length = len) (hl : len ≤ 9223372036854775807) (hb : ad.block < n₀) (hbv : ad.block ≠ Bv) (hs : Bs < n₀) (hsv : Bs ≠ Bv) (J Jx : List (Int × Int) → World → Prop)
    (hY : ∀ pre x W, J pre W → pre.length < len → YieldAt Fence.wide (n - 1) Try.prog l #[.int .i64 x.1, .int .i64 x.2] W fun e W' =>
      (e = .returned (.bool true) ∧ J (pre ++ [x]) W' ∧ Kq n₀ Bv W W') ∨ (e = .returned (.bool false) ∧ Jx (pre ++ [x]) W'))
    (W : World) (hBs : W.cell? ⟨Bs, 0, none⟩ = some (.slice (some ad) len cap)) (hc : ∀ j, j < len → W.cell? (ad.add j) = some (.int .i64 (zs[j]?.getD 0))) (h0 : J [] W) :
    CallsIn Fence.wide n Try.prog 137 #[.func (.yield l) #[] #[], .pointer (some ⟨Bs, 0, none⟩)] W fun e W' => (∃ v, e = .returned v) ∧
      ((∃ ys, ys = back zs len ∧ J ys W') ∨ (∃ pre, True ∧ Jx pre W')) := by
  refine callsIn_of_wp Try.func137 rfl trivial ?_ rfl
  simp only [Try.ntmps137, List.size_toArray, List.length_cons, List.length_nil, Nat.reduceAdd, Nat.reduceSub, Array.replicate_succ, Array.replicate_zero, List.push_toArray, List.append_toArray, List.nil_append, List.cons_append]
  have Hlen := Aside0.mk hlen
  clear hlen
  gi_wp2
  gi_loopw [3] (fun i wr => ∃ k m : Nat, k + m = len ∧ i = .int .i64 ((m : Int) - 1) ∧ J (back zs k) wr ∧ Kq n₀ Bv W wr)
    (fun i _ => (intOf i + 1).toNat)
  case atStart => exact ⟨0, len, by omega, by first | rfl | simp, h0, Kq.refl _ _ _⟩
  case round =>
    obtain ⟨k, m, hk, rfl, hJs, hnx⟩ := hrel
    have hBs' : wr.cell? ⟨Bs, 0, none⟩ = some (.slice (some ad) len cap) := (hnx.cell (p := ⟨Bs, 0, none⟩) hs hsv).trans hBs
    cases m with
    | zero =>
      obtain rfl : k = len := by omega
      rw [show (((0 : Nat) : Int) - 1) = -1 from rfl]
      gi_wp2
      go_end0
      exact ⟨⟨_, rfl⟩, .inl ⟨_, rfl, hJs⟩⟩
    | succ m =>
      have hm : m < len := by omega
      have hadd : (ad.add m).block = ad.block := by unfold Addr.add; split <;> rfl
      have hcx := (hnx.cell (p := ad.add m) (by rw [hadd]; exact hb) (by rw [hadd]; exact hbv)).trans (hc m hm)
      obtain ⟨fn, tmps, assign, body, hy, hR⟩ := hY _ ((m : Int), zs[m]?.getD 0) wr hJs (by rw [back_length]; omega)
      dsimp only at hy
      have HJ := Aside0.mk hJs
      have HN := Aside0.mk hnx
      clear hJs hnx hadd
      rw [show (((m + 1 : Nat) : Int) - 1) = (m : Int) from by omega]
      gi_wp2
      refine hR.mono ?_
      rintro e W3 (⟨rfl, hJ3, hk3⟩ | ⟨rfl, hJx3⟩)
      · gi_wp2
        go_roundw
        case rel =>
          refine ⟨k + 1, m, by omega, by first | rfl | go_num | (simp; done), ?_, HN.out.trans hk3⟩
          rw [back_succ, show zs.length - 1 - k = m from by have := Hlen.out; omega]; exact hJ3
        case measure => simp [intOf]
      · gi_wp2
        refine bodyPost_ret (results_none rfl _ _ _) rfl ?_
        exact ⟨⟨_, rfl⟩, .inr ⟨_, trivial, hJx3⟩⟩
set_option maxRecDepth 100000 in
set_option maxHeartbeats 4000000 in
theorem backward1_nil (n : Nat) (hn : 1 ≤ n) (l Bs cap : Nat) (a : Option Addr) (J : List (Int × Int) → World → Prop)
    (W : World) (hBs : W.cell? ⟨Bs, 0, none⟩ = some (.slice a 0 cap)) (h0 : J [] W) :
    CallsIn Fence.wide n Try.prog 137 #[.func (.yield l) #[] #[], .pointer (some ⟨Bs, 0, none⟩)] W fun e W' => (∃ v, e = .returned v) ∧ J [] W' := by
  refine callsIn_of_wp Try.func137 rfl trivial ?_ rfl
  simp only [Try.ntmps137, List.size_toArray, List.length_cons, List.length_nil, Nat.reduceAdd, Nat.reduceSub, Array.replicate_succ, Array.replicate_zero, List.push_toArray, List.append_toArray, List.nil_append, List.cons_append]
  gi_wp2
  gi_loopw [3] (fun i wr => i = .int .i64 (-1) ∧ J [] wr) (fun _ _ => 0)
  case atStart => exact ⟨by first | rfl | simp, h0⟩
  case round =>
    obtain ⟨rfl, hJs⟩ := hrel
    gi_wp2
    go_end0
    exact ⟨⟨_, rfl⟩, hJs⟩
set_option maxHeartbeats 1000000 in
theorem backward_in (n : Nat) (a : Option Addr) (len cap : Nat) (w : World) :
    CallsIn Fence.wide n Try.prog 130 #[.slice a len cap] w fun e w' => e = .returned (.func (.func 137) #[] #[.pointer (some ⟨w.heap.size, 0, none⟩)]) ∧ w' = w.alloc (.cells #[.slice a len cap] 45) := by
  have hmf : ∀ (fn : Fn) (first cap : Array Value) (w : World), (Instr.makeFunc fn first cap).run Try.prog w = .ok (.func fn first cap) w := fun _ _ _ _ => rfl
  refine callsIn_of_wp Try.func130 rfl trivial ?_ rfl
  simp only [Try.ntmps130, List.size_toArray, List.length_cons, List.length_nil, Nat.reduceAdd, Nat.reduceSub, Array.replicate_succ, Array.replicate_zero, List.push_toArray, List.append_toArray, List.nil_append, List.cons_append]
  gi_wp2
  go_ret
  exact ⟨rfl, rfl⟩
theorem backward_stops (n : Nat) (hn : 1 ≤ n) (Bs n₀ Bv cap : Nat) (A : Option Addr) (zs : List Int) (w w0 : World) (hr : Kd.C (Kd.int .i64) w A zs.length zs) (hw : w.heap.size ≤ Bv) (hv : Bv < n₀) (hs : Bs < n₀) (hsv : Bs ≠ Bv) (hn0 : n₀ ≤ w0.heap.size)
    (hww : Below w.heap.size w w0) (hc : w0.cell? ⟨Bs, 0, none⟩ = some (.slice A zs.length cap)) :
    SeqStopsK Fence.wide n Try.prog 137 #[.pointer (some ⟨Bs, 0, none⟩)] (fun x : Int × Int => #[Value.int .i64 x.1, Value.int .i64 x.2]) (Kq n₀ Bv) (fun ys => ys = back zs zs.length) (fun _ => True) zs.length w0 := fun l J Jx W hW _ _ hY h0 => by
  have hc' := (hW.cell (p := ⟨Bs, 0, none⟩) (Nat.lt_of_lt_of_le hs hn0)).trans hc
  rcases Nat.eq_zero_or_pos zs.length with e | e
  · rw [e] at hc'
    have hz : back zs zs.length = [] := by rw [e]; rfl
    exact (backward1_nil n hn l Bs cap A J W hc' h0).mono fun e W' ⟨he, hj⟩ => ⟨he, .inl ⟨_, hz.symm, hj⟩⟩
  · obtain ⟨ad, rfl, hcs⟩ := hr.2.2 e
    have hcell : ∀ j, j < zs.length → w.cell? (ad.add j) = some (.int .i64 (zs[j]?.getD 0)) := by
      intro j hj
      obtain ⟨c, hc1, hc2, hc3⟩ := hcs j zs[j] (List.getElem?_eq_getElem hj)
      have h3 := hc3 0 (.int .i64 zs[j]) (by rw [show c = [.int .i64 zs[j]] from hc2]; rfl)
      rw [show (j * (Kd.int .i64).sz + 0) = j from by show j * 1 + 0 = j; omega] at h3
      rw [h3]; simp [hj]
    have hblk : ad.block < w.heap.size := by
      have := World.block_lt_of_cell? w _ (hcell 0 e)
      have hadd : (ad.add 0).block = ad.block := by unfold Addr.add; split <;> rfl
      rw [hadd] at this; exact this
    have hadd : ∀ j, (ad.add j).block = ad.block := fun j => by unfold Addr.add; split <;> rfl
    have hWs := hww.trans (hW.mono hww.size)
    exact backward1 n hn l Bs n₀ Bv zs.length cap ad zs rfl hr.2.1 (by omega) (by omega) hs hsv J Jx hY W hc' (fun j hj => (hWs.cell (p := ad.add j) (by rw [hadd]; exact hblk)).trans (hcell j hj)) h0

/-! ### The caller -/
theorem keepsFrom_below {B : Nat} {W W' : World} (h : Below W.heap.size W W') : KeepsFrom B W W' := ⟨h.size, fun k o _ hk _ => blk_below hk h⟩
theorem kq_below {n₀ Bv : Nat} {W W' : World} (h : Below W.heap.size W W') (hn : n₀ ≤ W.heap.size) : Kq n₀ Bv W W' := ⟨h.size, fun k hk _ => by
  obtain ⟨o, ho⟩ : ∃ o, W.heap[k]? = some o := ⟨_, Array.getElem?_eq_getElem (by omega)⟩
  rw [blk_below ho h, ho]⟩
theorem round_keeps {B n₀ Bv : Nat} (W W' w2 : World) (he : W'.heap = W.heap) (hb : Below W'.heap.size W' w2) (hn : n₀ ≤ W.heap.size) : KeepsFrom B W w2 ∧ Kq n₀ Bv W w2 := by
  have h1 : ∀ (k : Nat) (o : Obj), W.heap[k]? = some o → w2.heap[k]? = some o := fun k o hk => blk_below (by rw [he]; exact hk) hb
  have h2 : W.heap.size ≤ w2.heap.size := by have := hb.size; rw [he] at this; exact this
  refine ⟨⟨h2, fun k o _ hk _ => h1 k o hk⟩, h2, fun k hk _ => ?_⟩
  obtain ⟨o, ho⟩ : ∃ o, W.heap[k]? = some o := ⟨_, Array.getElem?_eq_getElem (by omega)⟩
  rw [h1 k o ho, ho]
theorem round_fin {B N : Nat} {w W w2 w3 : World} {F : Obj} {vx vo : Value} (vn : Value) (k2 : KeepsFrom 0 W w2 ∧ Kq (N + 4) (N + 1 + 1) W w2) (k3 : KeepsFrom 0 w2 w3 ∧ Kq (N + 4) (N + 1 + 1) w2 w3)
    (hF : w3.heap[N]? = some F) (hX : Boxed w3 (N + 1) 3 vx) (hV : Boxed w3 (N + 1 + 1) 3 vo) (hs : N + 4 ≤ W.heap.size) (hB : Below N w w3) :
    KeepsFrom B W (w3.setCell ⟨N + 1 + 1, 0, none⟩ vn) ∧ Kq (N + 4) (N + 1 + 1) W (w3.setCell ⟨N + 1 + 1, 0, none⟩ vn) ∧
      (((w3.setCell ⟨N + 1 + 1, 0, none⟩ vn).heap[N]? = some F ∧ Boxed (w3.setCell ⟨N + 1 + 1, 0, none⟩ vn) (N + 1) 3 vx ∧ Boxed (w3.setCell ⟨N + 1 + 1, 0, none⟩ vn) (N + 1 + 1) 3 vn ∧ N + 4 ≤ (w3.setCell ⟨N + 1 + 1, 0, none⟩ vn).heap.size) ∧ Below N w (w3.setCell ⟨N + 1 + 1, 0, none⟩ vn)) := by
  have hg := grownBy_setCell' w3 (N + 1 + 1) vn
  have k23 := k2.2.trans k3.2
  have hsz : w3.heap.size ≤ (w3.setCell ⟨N + 1 + 1, 0, none⟩ vn).heap.size := hg.size
  have hne : ∀ k, k ≠ N + 1 + 1 → (w3.setCell ⟨N + 1 + 1, 0, none⟩ vn).heap[k]? = w3.heap[k]? := fun k hk => Below.heap_setCell _ _ _ k hk
  refine ⟨?_, ⟨Nat.le_trans k23.1 hsz, fun k hk hn => (hne k hn).trans (k23.2 k hk hn)⟩, ⟨(hne N (by omega)).trans hF, hX.kept hg (by simp), hV.set vn, Nat.le_trans (Nat.le_trans hs k23.1) hsz⟩, hB.setCell (p := ⟨N + 1 + 1, 0, none⟩) (by simp; omega) _⟩
  have e1 := (k2.1.trans k3.1).trans ((KeepsOthers.setCell w3 ⟨N + 1 + 1, 0, none⟩ vn).from 0)
  exact ⟨e1.size, fun k o _ hk ho => e1.same k o (Nat.zero_le _) hk ho⟩
set_option maxRecDepth 100000 in
set_option maxHeartbeats 8000000 in
theorem polynomial_value.calls (k : Nat) (a0_0 : Int) (a0_1 : Int) (a0_2 : Int) (A1 : Option Addr) (c1 : Nat) (l1 : List Int) (a2 : Int) (r : Int) (w : World) (hr1 : Kd.C (Kd.int .i64) w A1 l1.length l1) (hc1 : l1.length ≤ c1) (h : polynomial_value.f k a0_0 a0_1 a0_2 l1 a2 = some r) :
    Calls Try.prog 101 #[.agg #[.int .i64 a0_0, .int .i64 a0_1, .int .i64 a0_2], .slice A1 l1.length c1, .int .i64 a2] w fun e w' => e = .returned (.int .i64 r) ∧ Below w.heap.size w w' := by
  unfold polynomial_value.f at h
  by_cases hok : vOk a0_0 a0_1 a2
  · rw [if_pos hok] at h
    have HR := Aside0.mk (Option.some.inj h)
    clear h
    have HOK := Aside0.mk hok
    clear hok
    have HR1 := Aside0.mk hr1
    clear hr1 hc1
    refine (callsIn_wide (n := 5)).1 ?_
    refine callsIn_of_wp_marks Try.func101 rfl trivial ?_ rfl
    simp only [Try.ntmps101, List.size_toArray, List.length_cons, List.length_nil, Nat.reduceAdd, Nat.reduceSub, Array.replicate_succ, Array.replicate_zero, List.push_toArray, List.append_toArray, List.nil_append, List.cons_append]
    gi_wp2_with (refine ⟨trivial, ?_⟩; gi_at_call 130; refine (backward_in 4 _ _ _ _).mono ?_; rintro e w' ⟨rfl, rfl⟩)
    have kF := World.alloc_heap_new w (.cells #[.int .i64 a0_0, .int .i64 a0_1, .int .i64 a0_2] 23)
    have bX := Boxed.new (w.alloc (.cells #[.int .i64 a0_0, .int .i64 a0_1, .int .i64 a0_2] 23)) 3 (.int .i64 a2)
    have bV := Boxed.new ((w.alloc (.cells #[.int .i64 a0_0, .int .i64 a0_1, .int .i64 a0_2] 23)).alloc (.cells #[.int .i64 a2] 3)) 3 (.int .i64 0)
    have bS := Boxed.new (((w.alloc (.cells #[.int .i64 a0_0, .int .i64 a0_1, .int .i64 a0_2] 23)).alloc (.cells #[.int .i64 a2] 3)).alloc (.cells #[.int .i64 0] 3)) 45 (.slice A1 l1.length c1)
    simp only [World.size_alloc] at bX bV bS
    have hB0 : Below w.heap.size w ((((w.alloc (.cells #[.int .i64 a0_0, .int .i64 a0_1, .int .i64 a0_2] 23)).alloc (.cells #[.int .i64 a2] 3)).alloc (.cells #[.int .i64 0] 3)).alloc (.cells #[.slice A1 l1.length c1] 45)) :=
      ((((Below.refl _ w).alloc (Nat.le_refl _) _).alloc (by simp) _).alloc (by simp; omega) _).alloc (by simp; omega) _
    have kF1 := blk_alloc (blk_alloc (blk_alloc kF (.cells #[.int .i64 a2] 3)) (.cells #[.int .i64 0] 3)) (.cells #[.slice A1 l1.length c1] 45)
    have kX1 := (bX.alloc (.cells #[.int .i64 0] 3)).alloc (.cells #[.slice A1 l1.length c1] 45)
    have kV1 := bV.alloc (.cells #[.slice A1 l1.length c1] 45)
    refine wpIn_rangeFunc_ownG rfl (by omega) (gf := 137) (lb := #[.pointer (some ⟨w.heap.size + 1 + 1 + 1, 0, none⟩)]) rfl trivial (enters_of Try.func137 (by kernel_rfl) rfl)
      (backward_stops 4 (by omega) (w.heap.size + 1 + 1 + 1) (w.heap.size + 4) (w.heap.size + 1 + 1) c1 A1 l1 w _ HR1.out (by omega) (by omega) (by omega) (by omega) (by simp) hB0 bS.cell) Kq.trans
      (fun W l o o' hl _ _ _ => Kq.put W l o' (by simp at hl; omega)) (Below.refl _ _) (fun _ => rfl)
      (fun pre W => (W.heap[w.heap.size]? = some (.cells #[.int .i64 a0_0, .int .i64 a0_1, .int .i64 a0_2] 23 (0, 0)) ∧ Boxed W (w.heap.size + 1) 3 (.int .i64 a2) ∧ Boxed W (w.heap.size + 1 + 1) 3 (.int .i64 (horner a0_0 a0_1 a0_2 a2 (pre.map (·.2)))) ∧ w.heap.size + 4 ≤ W.heap.size) ∧ Below w.heap.size w W)
      (fun _ _ _ => False)
      (OwnFrom.and (fun s A B row hs hg hr => by
        have hne : ∀ j, j < w.heap.size + 4 → some j ≠ row := fun j hj e => by have := (hr j e.symm).1; simp at this; omega
        exact ⟨(hg.block _ (by have := hs.2.2.2; omega) (hne _ (by omega))).trans hs.1, hs.2.1.kept hg (hne _ (by omega)), hs.2.2.1.kept hg (hne _ (by omega)), Nat.le_trans hs.2.2.2 hg.size⟩) (ownFrom_below (Nat.le_refl _) (by simp; omega)))
      (fun _ _ _ _ _ hs _ _ => hs)
      ⟨⟨kF1, kX1, kV1, by simp⟩, hB0⟩
      (fun x => { tmps := #[.agg #[.int .i64 a0_0, .int .i64 a0_1, .int .i64 a0_2], .slice A1 l1.length c1, .int .i64 a2, .pointer (some ⟨w.heap.size, 0, none⟩), undef, .pointer (some ⟨w.heap.size + 1, 0, none⟩), .int .i64 0, .pointer (some ⟨w.heap.size + 1 + 1, 0, none⟩), undef, .int .i64 x.2, .slice A1 l1.length c1, .func (.func 137) #[] #[.pointer (some ⟨w.heap.size + 1 + 1 + 1, 0, none⟩)], .int .i64 x.1, .int .i64 x.2, undef, undef, undef, undef, undef, undef, undef, undef], defers := [] }) ?assign ?body ?done ?stop
    case assign =>
      intro l x W K hK
      gi_wp2
      exact hK
    case body =>
      rintro l pre x W ⟨⟨hF, hX, hV, hS⟩, hB⟩ _
      have hm := Aside0.mk (mulT_some (f2 := a0_2) HOK.out (horner a0_0 a0_1 a0_2 a2 (pre.map (·.2))))
      have ha := Aside0.mk (addT_some (f2 := a0_2) HOK.out (mulT a0_0 a0_1 a0_2 (horner a0_0 a0_1 a0_2 a2 (pre.map (·.2))) a2) x.2)
      have hz : horner a0_0 a0_1 a0_2 a2 ((pre ++ [x]).map (·.2)) = addT a0_0 a0_1 a0_2 (mulT a0_0 a0_1 a0_2 (horner a0_0 a0_1 a0_2 a2 (pre.map (·.2))) a2) x.2 := by rw [List.map_append, List.map_cons, List.map_nil, horner_snoc]
      generalize addT a0_0 a0_1 a0_2 (mulT a0_0 a0_1 a0_2 (horner a0_0 a0_1 a0_2 a2 (pre.map (·.2))) a2) x.2 = vn at ha hz
      generalize mulT a0_0 a0_1 a0_2 (horner a0_0 a0_1 a0_2 a2 (pre.map (·.2))) a2 = vm at ha hm
      generalize horner a0_0 a0_1 a0_2 a2 (pre.map (·.2)) = vo at hm hV
      have HZ := Aside0.mk hz
      clear hz
      have f0 : W.cell? ⟨w.heap.size, 0, none⟩ = some (.int .i64 a0_0) := (blk_cell hF 0).trans rfl
      have f1 : W.cell? ⟨w.heap.size, 1, none⟩ = some (.int .i64 a0_1) := (blk_cell hF 1).trans rfl
      have f2 : W.cell? ⟨w.heap.size, 2, none⟩ = some (.int .i64 a0_2) := (blk_cell hF 2).trans rfl
      have x0 := hX.cell
      have v0 := hV.cell
      have v1 := hV.frozen
      have HF := Aside0.mk hF
      have HX := Aside0.mk hX
      have HV := Aside0.mk hV
      have HS := Aside0.mk hS
      have HB := Aside0.mk hB
      clear hF hX hV hS hB kF bX bV bS hB0 kF1 kX1 kV1
      have hmx : Try.prog.follows .mixedOrders = true := by kernel_rfl
      gi_wp2
      gi_region_with_o (first | (refine ⟨trivial, ?_⟩; gi_at_call 114; refine (CallsIn.inRound l (callsIn_wide.2 (polynomial_mul.calls 70 a0_0 a0_1 a0_2 vo a2 vm _ hm.out))).mono ?_; rintro e w2 ⟨rfl, hb⟩; have HF2 := Aside0.mk (blk_below (g := w.heap.size) (o := .cells #[.int .i64 a0_0, .int .i64 a0_1, .int .i64 a0_2] 23 (0, 0)) (by exact HF.out) hb); have HX2 := Aside0.mk (show Boxed w2 (w.heap.size + 1) 3 (.int .i64 a2) from blk_below (by exact HX.out) hb); have HV2 := Aside0.mk (show Boxed w2 (w.heap.size + 1 + 1) 3 (.int .i64 vo) from blk_below (by exact HV.out) hb); have HB2 := Aside0.mk (below_step (by first | exact HB.out | exact below_drew1 HB.out) hb); have f02 : w2.cell? ⟨w.heap.size, 0, none⟩ = some (.int .i64 a0_0) := (blk_cell HF2.out 0).trans rfl; have f12 : w2.cell? ⟨w.heap.size, 1, none⟩ = some (.int .i64 a0_1) := (blk_cell HF2.out 1).trans rfl; have f22 : w2.cell? ⟨w.heap.size, 2, none⟩ = some (.int .i64 a0_2) := (blk_cell HF2.out 2).trans rfl; have x02 := HX2.out.cell; have v02 := HV2.out.cell; have v12 := HV2.out.frozen; have HK2 := Aside0.mk (show KeepsFrom 0 W w2 ∧ Kq (w.heap.size + 4) (w.heap.size + 1 + 1) W w2 from round_keeps W _ w2 (by rfl) hb HS.out); clear hb) | (refine ⟨trivial, ?_⟩; gi_at_call 131; refine (CallsIn.inRound l (callsIn_wide.2 (polynomial_add.calls a0_0 a0_1 a0_2 vm x.2 vn _ ha.out))).mono ?_; rintro e w3 ⟨rfl, hb3⟩; have HF3 := Aside0.mk (blk_below (g := w.heap.size) (o := .cells #[.int .i64 a0_0, .int .i64 a0_1, .int .i64 a0_2] 23 (0, 0)) (by exact HF2.out) hb3); have HX3 := Aside0.mk (show Boxed w3 (w.heap.size + 1) 3 (.int .i64 a2) from blk_below (by exact HX2.out) hb3); have HV3 := Aside0.mk (show Boxed w3 (w.heap.size + 1 + 1) 3 (.int .i64 vo) from blk_below (by exact HV2.out) hb3); have HB3 := Aside0.mk (below_step (by first | exact HB2.out | exact below_drew1 HB2.out) hb3); have f03 : w3.cell? ⟨w.heap.size, 0, none⟩ = some (.int .i64 a0_0) := (blk_cell HF3.out 0).trans rfl; have f13 : w3.cell? ⟨w.heap.size, 1, none⟩ = some (.int .i64 a0_1) := (blk_cell HF3.out 1).trans rfl; have f23 : w3.cell? ⟨w.heap.size, 2, none⟩ = some (.int .i64 a0_2) := (blk_cell HF3.out 2).trans rfl; have x03 := HX3.out.cell; have v03 := HV3.out.cell; have v13 := HV3.out.frozen; have HK3 := Aside0.mk (show KeepsFrom 0 w2 w3 ∧ Kq (w.heap.size + 4) (w.heap.size + 1 + 1) w2 w3 from round_keeps w2 _ w3 (by rfl) hb3 (Nat.le_trans HS.out HK2.out.2.1)); clear hb3))
      all_goals gi_wp2
      all_goals (obtain ⟨z1, z2, ⟨z3, z4, z5, z6⟩, z7⟩ := round_fin (B := w.heap.size + 1 + 1 + 1 + 1) (.int .i64 vn) HK2.out HK3.out HF3.out HX3.out HV3.out HS.out HB3.out; refine ⟨⟨z1.size, fun k o hk => z1.same k o (by simp at hk; omega)⟩, z2, ⟨z3, z4, ?_, z6⟩, z7⟩; rw [← HZ.out] at z5; rw [HZ.out] at z5 ⊢; exact z5)
    case done =>
      rintro D ys W hD rfl ⟨⟨hF, hX, hV, hS⟩, hB⟩ hK
      have v0 := hV.cell
      have HZ := Aside0.mk (show horner a0_0 a0_1 a0_2 a2 ((back l1 l1.length).map (·.2)) = r from by rw [back_all]; exact HR.out)
      rw [HZ.out] at v0
      clear hV
      gi_wp2
      refine ⟨by simp, .inl ⟨_, _, rfl, run_takeDeferred hK, ?_⟩⟩
      exact ⟨_, results_tmp rfl _ _ _, rfl, hB.trans (belowK_b (w := w) (Nat.le_refl _) W D _ _ (by simp at hD; omega) hK rfl rfl)⟩
    case stop =>
      rintro D c pre W _ _ h _
      exact h.elim
  · rw [if_neg hok] at h
    exact absurd h (by simp)
end Go.Proofs.Ytlhaclammaaabaa.Pg
