import Derived.Test.YtlhaclammaaabaaB17
/-! law05.valid behind a literal of slices that came in. -/
namespace Go.Proofs.Ytlhaclammaaabaa.Pg
open Go.RowKit Go.Proofs.YtlhaclammaaabaaW.PrintWords Go.Proofs.YtlhaclammaaabaaW.PrintLast Go.Proofs.YtlhaclammaaabaaW.PrintMore
set_option linter.unusedVariables false
set_option linter.unusedSimpArgs false

theorem cell_made (W : World) (cs : Array Value) (j : Nat) (v : Value) (h : cs[j]? = some v) : (W.alloc (.cells cs 45 (0, 0))).cell? ((⟨W.heap.size, 0, none⟩ : Addr).add (j * 1 + 0)) = some v := by
  rw [Addr.add_lit, Nat.mul_one, Nat.zero_add, Nat.add_zero, World.cell?_alloc_new]
  exact h

/-- The polynomials are valid and not too long. -/
def valid1.f (k : Nat) (a0_0 : Int) (a0_1 : Int) (a0_2 : Int) (a1 : Int) (l2 : List Int) : Option Bool := barscanlaw05_valid.f k a0_0 a0_1 a0_2 a1 [l2]
theorem valid1.mono : ∀ a0 a1 a2 a3 a4 k, LeO (valid1.f k a0 a1 a2 a3 a4) (valid1.f (k + 1) a0 a1 a2 a3 a4) := fun _ _ _ _ _ k => barscanlaw05_valid.mono _ _ _ _ _ k
theorem valid1.calls (k : Nat) (a0_0 : Int) (a0_1 : Int) (a0_2 : Int) (a1 : Int) (A2 : Option Addr) (c2 : Nat) (l2 : List Int) (r : Bool) (W : World) (hr2 : Kd.C (Kd.int .i64) W A2 l2.length l2) (hc2 : l2.length ≤ c2) (h : valid1.f k a0_0 a0_1 a0_2 a1 l2 = some r) :
    Calls Try.prog 47 #[.agg #[.int .i64 a0_0, .int .i64 a0_1, .int .i64 a0_2], .int .i64 a1, .slice (some ⟨W.heap.size, 0, none⟩) 1 1] (W.alloc (.cells #[.slice A2 l2.length c2] 45 (0, 0))) fun e w' => e = .returned (.bool r) ∧ Below W.heap.size W w' := by
  have hb0 : Below W.heap.size W (W.alloc (.cells #[.slice A2 l2.length c2] 45 (0, 0))) := (Below.refl _ _).alloc (Nat.le_refl _) _
  have hC : Kd.C (Kd.slice 3 (Kd.int .i64)) (W.alloc (.cells #[.slice A2 l2.length c2] 45 (0, 0))) (some ⟨W.heap.size, 0, none⟩) ([l2] : List (List Int)).length [l2] := by
    refine ⟨rfl, by simp, fun _ => ⟨_, rfl, fun j p hj => ?_⟩⟩
    match j, hj with
    | 0, hj =>
      obtain rfl : l2 = p := by simpa using hj
      refine ⟨[.slice A2 l2.length c2], rfl, ⟨A2, c2, rfl, hc2, Kd.C_below hr2 hb0⟩, fun i u hu => ?_⟩
      match i, hu with
      | 0, hu =>
        obtain rfl : (.slice A2 l2.length c2 : Value) = u := by simpa using hu
        exact cell_made W _ 0 _ rfl
      | i + 1, hu => simp at hu
    | j + 1, hj => simp at hj
  refine (barscanlaw05_valid.calls k a0_0 a0_1 a0_2 a1 _ _ [l2] r _ hC (Nat.le_refl _) h).mono fun e w' ⟨he, hb⟩ => ⟨he, ?_⟩
  exact below_step hb0 hb

/-- The polynomials are valid and not too long. -/
def valid2.f (k : Nat) (a0_0 : Int) (a0_1 : Int) (a0_2 : Int) (a1 : Int) (l2 l3 : List Int) : Option Bool := barscanlaw05_valid.f k a0_0 a0_1 a0_2 a1 [l2, l3]
theorem valid2.mono : ∀ a0 a1 a2 a3 a4 a5 k, LeO (valid2.f k a0 a1 a2 a3 a4 a5) (valid2.f (k + 1) a0 a1 a2 a3 a4 a5) := fun _ _ _ _ _ _ k => barscanlaw05_valid.mono _ _ _ _ _ k
theorem valid2.calls (k : Nat) (a0_0 : Int) (a0_1 : Int) (a0_2 : Int) (a1 : Int) (A2 : Option Addr) (c2 : Nat) (l2 : List Int) (A3 : Option Addr) (c3 : Nat) (l3 : List Int) (r : Bool) (W : World) (hr2 : Kd.C (Kd.int .i64) W A2 l2.length l2) (hc2 : l2.length ≤ c2) (hr3 : Kd.C (Kd.int .i64) W A3 l3.length l3) (hc3 : l3.length ≤ c3) (h : valid2.f k a0_0 a0_1 a0_2 a1 l2 l3 = some r) :
    Calls Try.prog 47 #[.agg #[.int .i64 a0_0, .int .i64 a0_1, .int .i64 a0_2], .int .i64 a1, .slice (some ⟨W.heap.size, 0, none⟩) 2 2] (W.alloc (.cells #[.slice A2 l2.length c2, .slice A3 l3.length c3] 45 (0, 0))) fun e w' => e = .returned (.bool r) ∧ Below W.heap.size W w' := by
  have hb0 : Below W.heap.size W (W.alloc (.cells #[.slice A2 l2.length c2, .slice A3 l3.length c3] 45 (0, 0))) := (Below.refl _ _).alloc (Nat.le_refl _) _
  have hC : Kd.C (Kd.slice 3 (Kd.int .i64)) (W.alloc (.cells #[.slice A2 l2.length c2, .slice A3 l3.length c3] 45 (0, 0))) (some ⟨W.heap.size, 0, none⟩) ([l2, l3] : List (List Int)).length [l2, l3] := by
    refine ⟨rfl, by simp, fun _ => ⟨_, rfl, fun j p hj => ?_⟩⟩
    match j, hj with
    | 0, hj =>
      obtain rfl : l2 = p := by simpa using hj
      refine ⟨[.slice A2 l2.length c2], rfl, ⟨A2, c2, rfl, hc2, Kd.C_below hr2 hb0⟩, fun i u hu => ?_⟩
      match i, hu with
      | 0, hu =>
        obtain rfl : (.slice A2 l2.length c2 : Value) = u := by simpa using hu
        exact cell_made W _ 0 _ rfl
      | i + 1, hu => simp at hu
    | 1, hj =>
      obtain rfl : l3 = p := by simpa using hj
      refine ⟨[.slice A3 l3.length c3], rfl, ⟨A3, c3, rfl, hc3, Kd.C_below hr3 hb0⟩, fun i u hu => ?_⟩
      match i, hu with
      | 0, hu =>
        obtain rfl : (.slice A3 l3.length c3 : Value) = u := by simpa using hu
        exact cell_made W _ 1 _ rfl
      | i + 1, hu => simp at hu
    | j + 2, hj => simp at hj
  refine (barscanlaw05_valid.calls k a0_0 a0_1 a0_2 a1 _ _ [l2, l3] r _ hC (Nat.le_refl _) h).mono fun e w' ⟨he, hb⟩ => ⟨he, ?_⟩
  exact below_step hb0 hb

/-- The polynomials are valid and not too long. -/
def valid3.f (k : Nat) (a0_0 : Int) (a0_1 : Int) (a0_2 : Int) (a1 : Int) (l2 l3 l4 : List Int) : Option Bool := barscanlaw05_valid.f k a0_0 a0_1 a0_2 a1 [l2, l3, l4]
theorem valid3.mono : ∀ a0 a1 a2 a3 a4 a5 a6 k, LeO (valid3.f k a0 a1 a2 a3 a4 a5 a6) (valid3.f (k + 1) a0 a1 a2 a3 a4 a5 a6) := fun _ _ _ _ _ _ _ k => barscanlaw05_valid.mono _ _ _ _ _ k
theorem valid3.calls (k : Nat) (a0_0 : Int) (a0_1 : Int) (a0_2 : Int) (a1 : Int) (A2 : Option Addr) (c2 : Nat) (l2 : List Int) (A3 : Option Addr) (c3 : Nat) (l3 : List Int) (A4 : Option Addr) (c4 : Nat) (l4 : List Int) (r : Bool) (W : World) (hr2 : Kd.C (Kd.int .i64) W A2 l2.length l2) (hc2 : l2.length ≤ c2) (hr3 : Kd.C (Kd.int .i64) W A3 l3.length l3) (hc3 : l3.length ≤ c3) (hr4 : Kd.C (Kd.int .i64) W A4 l4.length l4) (hc4 : l4.length ≤ c4) (h : valid3.f k a0_0 a0_1 a0_2 a1 l2 l3 l4 = some r) :
    Calls Try.prog 47 #[.agg #[.int .i64 a0_0, .int .i64 a0_1, .int .i64 a0_2], .int .i64 a1, .slice (some ⟨W.heap.size, 0, none⟩) 3 3] (W.alloc (.cells #[.slice A2 l2.length c2, .slice A3 l3.length c3, .slice A4 l4.length c4] 45 (0, 0))) fun e w' => e = .returned (.bool r) ∧ Below W.heap.size W w' := by
  have hb0 : Below W.heap.size W (W.alloc (.cells #[.slice A2 l2.length c2, .slice A3 l3.length c3, .slice A4 l4.length c4] 45 (0, 0))) := (Below.refl _ _).alloc (Nat.le_refl _) _
  have hC : Kd.C (Kd.slice 3 (Kd.int .i64)) (W.alloc (.cells #[.slice A2 l2.length c2, .slice A3 l3.length c3, .slice A4 l4.length c4] 45 (0, 0))) (some ⟨W.heap.size, 0, none⟩) ([l2, l3, l4] : List (List Int)).length [l2, l3, l4] := by
    refine ⟨rfl, by simp, fun _ => ⟨_, rfl, fun j p hj => ?_⟩⟩
    match j, hj with
    | 0, hj =>
      obtain rfl : l2 = p := by simpa using hj
      refine ⟨[.slice A2 l2.length c2], rfl, ⟨A2, c2, rfl, hc2, Kd.C_below hr2 hb0⟩, fun i u hu => ?_⟩
      match i, hu with
      | 0, hu =>
        obtain rfl : (.slice A2 l2.length c2 : Value) = u := by simpa using hu
        exact cell_made W _ 0 _ rfl
      | i + 1, hu => simp at hu
    | 1, hj =>
      obtain rfl : l3 = p := by simpa using hj
      refine ⟨[.slice A3 l3.length c3], rfl, ⟨A3, c3, rfl, hc3, Kd.C_below hr3 hb0⟩, fun i u hu => ?_⟩
      match i, hu with
      | 0, hu =>
        obtain rfl : (.slice A3 l3.length c3 : Value) = u := by simpa using hu
        exact cell_made W _ 1 _ rfl
      | i + 1, hu => simp at hu
    | 2, hj =>
      obtain rfl : l4 = p := by simpa using hj
      refine ⟨[.slice A4 l4.length c4], rfl, ⟨A4, c4, rfl, hc4, Kd.C_below hr4 hb0⟩, fun i u hu => ?_⟩
      match i, hu with
      | 0, hu =>
        obtain rfl : (.slice A4 l4.length c4 : Value) = u := by simpa using hu
        exact cell_made W _ 2 _ rfl
      | i + 1, hu => simp at hu
    | j + 3, hj => simp at hj
  refine (barscanlaw05_valid.calls k a0_0 a0_1 a0_2 a1 _ _ [l2, l3, l4] r _ hC (Nat.le_refl _) h).mono fun e w' ⟨he, hb⟩ => ⟨he, ?_⟩
  exact below_step hb0 hb

end Go.Proofs.Ytlhaclammaaabaa.Pg
