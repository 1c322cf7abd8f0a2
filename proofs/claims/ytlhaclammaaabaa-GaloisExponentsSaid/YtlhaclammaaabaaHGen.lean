import Derived.Test.YtlhaclammaaabaaY
import Derived.Test.YtlhaclammaaabaaB0
import Derived.RangeFuncRecord
import Derived.RangeFuncKeeps
import Derived.MapFrom
import Derived.RegionTactic
import Derived.Deep.RegionWith
/-! galois.generator: a map of known generators, and the search. -/
namespace Go.Proofs.Ytlhaclammaaabaa.Pg
open Go.RowKit Go.Proofs.YtlhaclammaaabaaW.PrintWords Go.Proofs.YtlhaclammaaabaaW.PrintLast Go.Proofs.YtlhaclammaaabaaW.PrintMore
set_option linter.unusedVariables false
set_option linter.unusedSimpArgs false

theorem chk (w : World) (em : Bool) (c s p : Int) : (Instr.checkKey em 10000 23 (.agg #[.int .i64 c, .int .i64 s, .int .i64 p])).run Try.prog w = .ok () w := by
  kernel_rfl
theorem eq23 (w : World) (x0 x1 x2 y0 y1 y2 : Int) : (Op.equal 23 (.agg #[.int .i64 x0, .int .i64 x1, .int .i64 x2]) (.agg #[.int .i64 y0, .int .i64 y1, .int .i64 y2])).run Try.prog w = .ok (x0 == y0 && (x1 == y1 && (x2 == y2))) w := eqA23 9998 w _ _ _ _ _ _
theorem und80 : Try.prog.underlying 80 = some (.map 23 3) := by kernel_rfl
theorem zero3 (w : World) : (zeroValue 3).run Try.prog w = .ok (.int .i64 0) w := by kernel_rfl
/-- An entry: the field and its generator. -/
abbrev Ent := Int × Int × Int × Int
def encE (d : Ent) : Value × Value := (.agg #[.int .i64 d.1, .int .i64 d.2.1, .int .i64 d.2.2.1], .int .i64 d.2.2.2)
def hit (c s p : Int) (d : Ent) : Bool := c == d.1 && (s == d.2.1 && (p == d.2.2.1))
theorem find_asking (w : World) (c s p : Int) : ∀ (es : List MapEntry) (D : List Ent) (i : Nat), es.map (fun e => (e.key, e.val)) = D.map encE →
    ∃ j, (Instr.findAsking 23 (.agg #[.int .i64 c, .int .i64 s, .int .i64 p]) es i).run Try.prog w = .ok ((D.find? (hit c s p)).map fun d => (j, .int .i64 d.2.2.2)) w := by
  intro es
  induction es with
  | nil =>
    intro D i h
    cases D with
    | nil => exact ⟨0, rfl⟩
    | cons d D => simp at h
  | cons e es ih =>
    intro D i h
    cases D with
    | nil => simp at h
    | cons d D =>
      simp only [List.map_cons, List.cons.injEq] at h
      obtain ⟨h1, h2⟩ := h
      have hk : e.key = .agg #[.int .i64 d.1, .int .i64 d.2.1, .int .i64 d.2.2.1] := congrArg Prod.fst h1
      have hv : e.val = .int .i64 d.2.2.2 := congrArg Prod.snd h1
      rw [Instr.findAsking, hk]
      simp only [Sem.run_bind, eq23, Result.andThen]
      by_cases hh : hit c s p d = true
      · refine ⟨i, ?_⟩
        rw [List.find?_cons_of_pos hh]
        rw [show (c == d.1 && (s == d.2.1 && (p == d.2.2.1))) = true from hh]
        rw [if_pos rfl, hv]; rfl
      · obtain ⟨j, hj⟩ := ih D (i + 1) h2
        refine ⟨j, ?_⟩
        rw [List.find?_cons_of_neg hh]
        rw [show (c == d.1 && (s == d.2.1 && (p == d.2.2.1))) = false from Bool.eq_false_iff.mpr hh]
        rw [if_neg (by simp)]; exact hj
theorem find_key (w : World) (c s p : Int) (es : List MapEntry) (D : List Ent) (h : es.map (fun e => (e.key, e.val)) = D.map encE) :
    ∃ j, (Instr.findKey 23 (.agg #[.int .i64 c, .int .i64 s, .int .i64 p]) es).run Try.prog w = .ok ((D.find? (hit c s p)).map fun d => (j, .int .i64 d.2.2.2)) w := by
  cases es with
  | nil =>
    cases D with
    | nil => exact ⟨0, by simp [Instr.findKey, Instr.findNow, run_underlying Try.underlying23, Result.andThen]⟩
    | cons d D => simp at h
  | cons e es =>
    obtain ⟨j, hj⟩ := find_asking w c s p (e :: es) D 0 h
    refine ⟨j, ?_⟩
    rw [← hj]
    simp [Instr.findKey, Instr.findNow, Instr.sameNow, run_underlying Try.underlying23, Result.andThen]
theorem run_ins (w : World) (M : Nat) (es : Array MapEntry) (clk : Nat) (D : List Ent) (c s p v : Int) (hM : w.heap[M]? = some (.map es clk)) (h : es.toList.map (fun e => (e.key, e.val)) = D.map encE)
    (hn : D.find? (hit c s p) = none) :
    (Instr.mapUpdate 80 (.map (some M)) (.agg #[.int .i64 c, .int .i64 s, .int .i64 p]) (.int .i64 v)).run Try.prog w = .ok () (w.putObj M (.map (es.push { key := .agg #[.int .i64 c, .int .i64 s, .int .i64 p], val := .int .i64 v, born := clk }) (clk + 1))) := by
  obtain ⟨j, hj⟩ := find_key w c s p es.toList D h
  rw [hn] at hj
  simp [Instr.mapUpdate, run_underlying und80, run_getObj_map _ _ _ _ hM, chk, hj, Result.andThen]
  simp [setObj, Sem.run, hM, World.putObj]
theorem run_look (w : World) (M : Nat) (es : Array MapEntry) (clk : Nat) (D : List Ent) (c s p : Int) (hM : w.heap[M]? = some (.map es clk)) (h : es.toList.map (fun e => (e.key, e.val)) = D.map encE) :
    (Instr.lookup 80 (.map (some M)) (.agg #[.int .i64 c, .int .i64 s, .int .i64 p]) true).run Try.prog w = .ok (.tuple #[.int .i64 (((D.find? (hit c s p)).map (·.2.2.2)).getD 0), .bool (D.find? (hit c s p)).isSome]) w := by
  obtain ⟨j, hj⟩ := find_key w c s p es.toList D h
  cases hd : D.find? (hit c s p) with
  | none =>
    rw [hd] at hj
    simp [Instr.lookup, run_underlying und80, run_getObj_map _ _ _ _ hM, chk, hj, zero3, Result.andThen]
  | some d =>
    rw [hd] at hj
    simp [Instr.lookup, run_underlying und80, run_getObj_map _ _ _ _ hM, chk, hj, Result.andThen]

def allE : List Ent := [(2, 16, 19, 2), (2, 64, 67, 2), (2, 256, 285, 2), (2, 256, 301, 2), (2, 1024, 1033, 2), (2, 4096, 4201, 2), (929, 929, 0, 3)]
noncomputable abbrev gops : Array Oper := opsOf Try.f93 1
def readyG (b0 b1 b2 b3 b4 b5 b6 : Bool) : List Nat := (if b0 then [] else [2]) ++ (if b1 then [] else [4]) ++ (if b2 then [] else [6]) ++ (if b3 then [] else [8]) ++ (if b4 then [] else [10]) ++ (if b5 then [] else [12]) ++ (if b6 then [] else [14]) ++ (if b0 && b1 && b2 && b3 && b4 && b5 && b6 then [15] else [])
set_option maxRecDepth 100000 in
theorem readyG_eq : ∀ b0 b1 b2 b3 b4 b5 b6 : Bool, Region.ready .any gops #[true, true, b0, true, b1, true, b2, true, b3, true, b4, true, b5, true, b6, false, false] = readyG b0 b1 b2 b3 b4 b5 b6 := by
  intro b0 b1 b2 b3 b4 b5 b6
  cases b0 <;> cases b1 <;> cases b2 <;> cases b3 <;> cases b4 <;> cases b5 <;> cases b6 <;> kernel_rfl
theorem gop2 : (gops[2]?.map fun o => (o.op, o.dst, o.guard)) = some (.insert 80 (.tmp 7) (.tmp 8) (.const (.int .i64 2)), none, none) := by kernel_rfl
theorem gop4 : (gops[4]?.map fun o => (o.op, o.dst, o.guard)) = some (.insert 80 (.tmp 7) (.tmp 9) (.const (.int .i64 2)), none, none) := by kernel_rfl
theorem gop6 : (gops[6]?.map fun o => (o.op, o.dst, o.guard)) = some (.insert 80 (.tmp 7) (.tmp 10) (.const (.int .i64 2)), none, none) := by kernel_rfl
theorem gop8 : (gops[8]?.map fun o => (o.op, o.dst, o.guard)) = some (.insert 80 (.tmp 7) (.tmp 11) (.const (.int .i64 2)), none, none) := by kernel_rfl
theorem gop10 : (gops[10]?.map fun o => (o.op, o.dst, o.guard)) = some (.insert 80 (.tmp 7) (.tmp 12) (.const (.int .i64 2)), none, none) := by kernel_rfl
theorem gop12 : (gops[12]?.map fun o => (o.op, o.dst, o.guard)) = some (.insert 80 (.tmp 7) (.tmp 13) (.const (.int .i64 2)), none, none) := by kernel_rfl
theorem gop14 : (gops[14]?.map fun o => (o.op, o.dst, o.guard)) = some (.insert 80 (.tmp 7) (.tmp 14) (.const (.int .i64 3)), none, none) := by kernel_rfl
theorem gop15 : (gops[15]?.map fun o => (o.op, o.dst, o.guard)) = some (.move (.tmp 7), some 15, none) := by kernel_rfl
theorem gop16 : (gops[16]?.map fun o => (o.op, o.dst, o.guard)) = some (.assign (.tmp 15), some 3, none) := by kernel_rfl
theorem of_op {i : Nat} {op : Op} {dst : Option Tmp} (h : (gops[i]?.map fun o => (o.op, o.dst, o.guard)) = some (op, dst, none)) : ∃ o : Oper, gops[i]? = some o ∧ o.op = op ∧ o.dst = dst ∧ o.guard = none := by
  cases ho : gops[i]? with
  | none => rw [ho] at h; cases h
  | some o =>
    rw [ho] at h
    simp only [Option.map_some, Option.some.injEq, Prod.mk.injEq] at h
    exact ⟨o, rfl, h.1, h.2.1, h.2.2⟩
theorem step_ins {i t M : Nat} {v c s p : Int} {Q : Exit → Act → World → Prop} {K : Act → World → Prop} {a : Act} {w : World} {es : Array MapEntry} {clk : Nat} {D : List Ent}
    (h : (gops[i]?.map fun o => (o.op, o.dst, o.guard)) = some (.insert 80 (.tmp 7) (.tmp t) (.const (.int .i64 v)), none, none))
    (h7 : a.eval (.tmp 7) = .map (some M)) (ht : a.eval (.tmp t) = .agg #[.int .i64 c, .int .i64 s, .int .i64 p])
    (hM : w.heap[M]? = some (.map es clk)) (hD : es.toList.map (fun e => (e.key, e.val)) = D.map encE) (hn : D.find? (hit c s p) = none)
    (hK : K a (w.putObj M (.map (es.push { key := .agg #[.int .i64 c, .int .i64 s, .int .i64 p], val := .int .i64 v, born := clk }) (clk + 1)))) : wpOp Try.prog gops Q i K a w := by
  obtain ⟨o, ho, e1, e2, e3⟩ := of_op h
  have hrun := run_ins w M es clk D c s p v hM hD hn
  obtain ⟨dst, op, ty, pos, after, guard⟩ := o
  dsimp only at e1 e2 e3
  subst e1 e2 e3
  unfold wpOp
  rw [ho]
  dsimp only
  rw [if_pos (by rfl)]
  left
  unfold Oper.wp
  have e : (execOp a.eval { dst := none, op := .insert 80 (.tmp 7) (.tmp t) (.const (.int .i64 v)), type := ty, pos := pos, after := after, guard := none }) = (do Instr.mapUpdate 80 (a.eval (.tmp 7)) (a.eval (.tmp t)) (a.eval (.const (.int .i64 v))); pure .skip) := rfl
  rw [e, h7, ht]
  show Oper.upon _ _ _ _ _ ((Sem.run Try.prog (do Instr.mapUpdate 80 (.map (some M)) (.agg #[.int .i64 c, .int .i64 s, .int .i64 p]) (.int .i64 v); pure .skip) w))
  rw [Sem.run_bind, hrun]
  exact hK

/-- What the map holds, some orders of its entries aside. -/
def Held (w : World) (M : Nat) (b0 b1 b2 b3 b4 b5 b6 : Bool) : Prop := ∃ (es : Array MapEntry) (clk : Nat) (D : List Ent), w.heap[M]? = some (.map es clk) ∧ es.toList.map (fun e => (e.key, e.val)) = D.map encE ∧ ∀ d, d ∈ D ↔ (b0 = true ∧ d = (2, 16, 19, 2)) ∨ (b1 = true ∧ d = (2, 64, 67, 2)) ∨ (b2 = true ∧ d = (2, 256, 285, 2)) ∨ (b3 = true ∧ d = (2, 256, 301, 2)) ∨ (b4 = true ∧ d = (2, 1024, 1033, 2)) ∨ (b5 = true ∧ d = (2, 4096, 4201, 2)) ∨ (b6 = true ∧ d = (929, 929, 0, 3))
theorem encE_push (es : Array MapEntry) (D : List Ent) (e : MapEntry) (d : Ent) (h : es.toList.map (fun e => (e.key, e.val)) = D.map encE) (he : (e.key, e.val) = encE d) : (es.push e).toList.map (fun e => (e.key, e.val)) = (D ++ [d]).map encE := by
  rw [Array.toList_push, List.map_append, List.map_append, h]
  simp [he]
/-- The frame behind the builds. -/
def FrameG (a : Act) (M : Nat) : Prop := a.eval (.tmp 7) = .map (some M) ∧ a.eval (.tmp 8) = .agg #[.int .i64 2, .int .i64 16, .int .i64 19] ∧ a.eval (.tmp 9) = .agg #[.int .i64 2, .int .i64 64, .int .i64 67] ∧ a.eval (.tmp 10) = .agg #[.int .i64 2, .int .i64 256, .int .i64 285] ∧ a.eval (.tmp 11) = .agg #[.int .i64 2, .int .i64 256, .int .i64 301] ∧ a.eval (.tmp 12) = .agg #[.int .i64 2, .int .i64 1024, .int .i64 1033] ∧ a.eval (.tmp 13) = .agg #[.int .i64 2, .int .i64 4096, .int .i64 4201] ∧ a.eval (.tmp 14) = .agg #[.int .i64 929, .int .i64 929, .int .i64 0]
theorem held_put (w : World) (M : Nat) (o : Obj) (k : Nat) (h : k ≠ M) : (w.putObj M o).heap[k]? = w.heap[k]? := World.putObj_heap_other h
theorem heap_lt {w : World} {k : Nat} {o : Obj} (h : w.heap[k]? = some o) : k < w.heap.size := (Array.getElem?_eq_some_iff.1 h).1

theorem held_ins0 {w : World} {M : Nat} {b1 b2 b3 b4 b5 b6 : Bool} {Q : Exit → Act → World → Prop} {K : Act → World → Prop} {a : Act} (hF : FrameG a M) (h : Held w M false b1 b2 b3 b4 b5 b6) (hK : ∀ o, Held (w.putObj M o) M true b1 b2 b3 b4 b5 b6 → (∃ es clk, w.heap[M]? = some (.map es clk)) → K a (w.putObj M o)) : wpOp Try.prog gops Q 2 K a w := by
  obtain ⟨es, clk, D, hM, hD, hmem⟩ := h
  have hn : D.find? (hit 2 16 19) = none := by
    rw [List.find?_eq_none]
    intro d hd
    rcases (hmem d).1 hd with ⟨hb, rfl⟩ | ⟨hb, rfl⟩ | ⟨hb, rfl⟩ | ⟨hb, rfl⟩ | ⟨hb, rfl⟩ | ⟨hb, rfl⟩ | ⟨hb, rfl⟩
    all_goals first | exact absurd hb (by decide) | decide
  refine step_ins (M := M) gop2 hF.1 hF.2.1 hM hD hn (hK _ ⟨_, _, D ++ [(2, 16, 19, 2)], World.putObj_heap_same (heap_lt hM), encE_push es D _ _ hD rfl, fun d => ?_⟩ ⟨es, clk, hM⟩)
  rw [List.mem_append, hmem d, List.mem_singleton]
  simp only [Bool.false_eq_true, false_and, false_or, or_false, true_and]
  constructor
  · intro h; rcases h with h | h
    · (rcases h with h | h | h | h | h | h <;> simp [h])
    · simp [h]
  · intro h; rcases h with h | h | h | h | h | h | h <;> simp [h]
theorem held_ins1 {w : World} {M : Nat} {b0 b2 b3 b4 b5 b6 : Bool} {Q : Exit → Act → World → Prop} {K : Act → World → Prop} {a : Act} (hF : FrameG a M) (h : Held w M b0 false b2 b3 b4 b5 b6) (hK : ∀ o, Held (w.putObj M o) M b0 true b2 b3 b4 b5 b6 → (∃ es clk, w.heap[M]? = some (.map es clk)) → K a (w.putObj M o)) : wpOp Try.prog gops Q 4 K a w := by
  obtain ⟨es, clk, D, hM, hD, hmem⟩ := h
  have hn : D.find? (hit 2 64 67) = none := by
    rw [List.find?_eq_none]
    intro d hd
    rcases (hmem d).1 hd with ⟨hb, rfl⟩ | ⟨hb, rfl⟩ | ⟨hb, rfl⟩ | ⟨hb, rfl⟩ | ⟨hb, rfl⟩ | ⟨hb, rfl⟩ | ⟨hb, rfl⟩
    all_goals first | exact absurd hb (by decide) | decide
  refine step_ins (M := M) gop4 hF.1 hF.2.2.1 hM hD hn (hK _ ⟨_, _, D ++ [(2, 64, 67, 2)], World.putObj_heap_same (heap_lt hM), encE_push es D _ _ hD rfl, fun d => ?_⟩ ⟨es, clk, hM⟩)
  rw [List.mem_append, hmem d, List.mem_singleton]
  simp only [Bool.false_eq_true, false_and, false_or, or_false, true_and]
  constructor
  · intro h; rcases h with h | h
    · (rcases h with h | h | h | h | h | h <;> simp [h])
    · simp [h]
  · intro h; rcases h with h | h | h | h | h | h | h <;> simp [h]
theorem held_ins2 {w : World} {M : Nat} {b0 b1 b3 b4 b5 b6 : Bool} {Q : Exit → Act → World → Prop} {K : Act → World → Prop} {a : Act} (hF : FrameG a M) (h : Held w M b0 b1 false b3 b4 b5 b6) (hK : ∀ o, Held (w.putObj M o) M b0 b1 true b3 b4 b5 b6 → (∃ es clk, w.heap[M]? = some (.map es clk)) → K a (w.putObj M o)) : wpOp Try.prog gops Q 6 K a w := by
  obtain ⟨es, clk, D, hM, hD, hmem⟩ := h
  have hn : D.find? (hit 2 256 285) = none := by
    rw [List.find?_eq_none]
    intro d hd
    rcases (hmem d).1 hd with ⟨hb, rfl⟩ | ⟨hb, rfl⟩ | ⟨hb, rfl⟩ | ⟨hb, rfl⟩ | ⟨hb, rfl⟩ | ⟨hb, rfl⟩ | ⟨hb, rfl⟩
    all_goals first | exact absurd hb (by decide) | decide
  refine step_ins (M := M) gop6 hF.1 hF.2.2.2.1 hM hD hn (hK _ ⟨_, _, D ++ [(2, 256, 285, 2)], World.putObj_heap_same (heap_lt hM), encE_push es D _ _ hD rfl, fun d => ?_⟩ ⟨es, clk, hM⟩)
  rw [List.mem_append, hmem d, List.mem_singleton]
  simp only [Bool.false_eq_true, false_and, false_or, or_false, true_and]
  constructor
  · intro h; rcases h with h | h
    · (rcases h with h | h | h | h | h | h <;> simp [h])
    · simp [h]
  · intro h; rcases h with h | h | h | h | h | h | h <;> simp [h]
theorem held_ins3 {w : World} {M : Nat} {b0 b1 b2 b4 b5 b6 : Bool} {Q : Exit → Act → World → Prop} {K : Act → World → Prop} {a : Act} (hF : FrameG a M) (h : Held w M b0 b1 b2 false b4 b5 b6) (hK : ∀ o, Held (w.putObj M o) M b0 b1 b2 true b4 b5 b6 → (∃ es clk, w.heap[M]? = some (.map es clk)) → K a (w.putObj M o)) : wpOp Try.prog gops Q 8 K a w := by
  obtain ⟨es, clk, D, hM, hD, hmem⟩ := h
  have hn : D.find? (hit 2 256 301) = none := by
    rw [List.find?_eq_none]
    intro d hd
    rcases (hmem d).1 hd with ⟨hb, rfl⟩ | ⟨hb, rfl⟩ | ⟨hb, rfl⟩ | ⟨hb, rfl⟩ | ⟨hb, rfl⟩ | ⟨hb, rfl⟩ | ⟨hb, rfl⟩
    all_goals first | exact absurd hb (by decide) | decide
  refine step_ins (M := M) gop8 hF.1 hF.2.2.2.2.1 hM hD hn (hK _ ⟨_, _, D ++ [(2, 256, 301, 2)], World.putObj_heap_same (heap_lt hM), encE_push es D _ _ hD rfl, fun d => ?_⟩ ⟨es, clk, hM⟩)
  rw [List.mem_append, hmem d, List.mem_singleton]
  simp only [Bool.false_eq_true, false_and, false_or, or_false, true_and]
  constructor
  · intro h; rcases h with h | h
    · (rcases h with h | h | h | h | h | h <;> simp [h])
    · simp [h]
  · intro h; rcases h with h | h | h | h | h | h | h <;> simp [h]
theorem held_ins4 {w : World} {M : Nat} {b0 b1 b2 b3 b5 b6 : Bool} {Q : Exit → Act → World → Prop} {K : Act → World → Prop} {a : Act} (hF : FrameG a M) (h : Held w M b0 b1 b2 b3 false b5 b6) (hK : ∀ o, Held (w.putObj M o) M b0 b1 b2 b3 true b5 b6 → (∃ es clk, w.heap[M]? = some (.map es clk)) → K a (w.putObj M o)) : wpOp Try.prog gops Q 10 K a w := by
  obtain ⟨es, clk, D, hM, hD, hmem⟩ := h
  have hn : D.find? (hit 2 1024 1033) = none := by
    rw [List.find?_eq_none]
    intro d hd
    rcases (hmem d).1 hd with ⟨hb, rfl⟩ | ⟨hb, rfl⟩ | ⟨hb, rfl⟩ | ⟨hb, rfl⟩ | ⟨hb, rfl⟩ | ⟨hb, rfl⟩ | ⟨hb, rfl⟩
    all_goals first | exact absurd hb (by decide) | decide
  refine step_ins (M := M) gop10 hF.1 hF.2.2.2.2.2.1 hM hD hn (hK _ ⟨_, _, D ++ [(2, 1024, 1033, 2)], World.putObj_heap_same (heap_lt hM), encE_push es D _ _ hD rfl, fun d => ?_⟩ ⟨es, clk, hM⟩)
  rw [List.mem_append, hmem d, List.mem_singleton]
  simp only [Bool.false_eq_true, false_and, false_or, or_false, true_and]
  constructor
  · intro h; rcases h with h | h
    · (rcases h with h | h | h | h | h | h <;> simp [h])
    · simp [h]
  · intro h; rcases h with h | h | h | h | h | h | h <;> simp [h]
theorem held_ins5 {w : World} {M : Nat} {b0 b1 b2 b3 b4 b6 : Bool} {Q : Exit → Act → World → Prop} {K : Act → World → Prop} {a : Act} (hF : FrameG a M) (h : Held w M b0 b1 b2 b3 b4 false b6) (hK : ∀ o, Held (w.putObj M o) M b0 b1 b2 b3 b4 true b6 → (∃ es clk, w.heap[M]? = some (.map es clk)) → K a (w.putObj M o)) : wpOp Try.prog gops Q 12 K a w := by
  obtain ⟨es, clk, D, hM, hD, hmem⟩ := h
  have hn : D.find? (hit 2 4096 4201) = none := by
    rw [List.find?_eq_none]
    intro d hd
    rcases (hmem d).1 hd with ⟨hb, rfl⟩ | ⟨hb, rfl⟩ | ⟨hb, rfl⟩ | ⟨hb, rfl⟩ | ⟨hb, rfl⟩ | ⟨hb, rfl⟩ | ⟨hb, rfl⟩
    all_goals first | exact absurd hb (by decide) | decide
  refine step_ins (M := M) gop12 hF.1 hF.2.2.2.2.2.2.1 hM hD hn (hK _ ⟨_, _, D ++ [(2, 4096, 4201, 2)], World.putObj_heap_same (heap_lt hM), encE_push es D _ _ hD rfl, fun d => ?_⟩ ⟨es, clk, hM⟩)
  rw [List.mem_append, hmem d, List.mem_singleton]
  simp only [Bool.false_eq_true, false_and, false_or, or_false, true_and]
  constructor
  · intro h; rcases h with h | h
    · (rcases h with h | h | h | h | h | h <;> simp [h])
    · simp [h]
  · intro h; rcases h with h | h | h | h | h | h | h <;> simp [h]
theorem held_ins6 {w : World} {M : Nat} {b0 b1 b2 b3 b4 b5 : Bool} {Q : Exit → Act → World → Prop} {K : Act → World → Prop} {a : Act} (hF : FrameG a M) (h : Held w M b0 b1 b2 b3 b4 b5 false) (hK : ∀ o, Held (w.putObj M o) M b0 b1 b2 b3 b4 b5 true → (∃ es clk, w.heap[M]? = some (.map es clk)) → K a (w.putObj M o)) : wpOp Try.prog gops Q 14 K a w := by
  obtain ⟨es, clk, D, hM, hD, hmem⟩ := h
  have hn : D.find? (hit 929 929 0) = none := by
    rw [List.find?_eq_none]
    intro d hd
    rcases (hmem d).1 hd with ⟨hb, rfl⟩ | ⟨hb, rfl⟩ | ⟨hb, rfl⟩ | ⟨hb, rfl⟩ | ⟨hb, rfl⟩ | ⟨hb, rfl⟩ | ⟨hb, rfl⟩
    all_goals first | exact absurd hb (by decide) | decide
  refine step_ins (M := M) gop14 hF.1 hF.2.2.2.2.2.2.2 hM hD hn (hK _ ⟨_, _, D ++ [(929, 929, 0, 3)], World.putObj_heap_same (heap_lt hM), encE_push es D _ _ hD rfl, fun d => ?_⟩ ⟨es, clk, hM⟩)
  rw [List.mem_append, hmem d, List.mem_singleton]
  simp only [Bool.false_eq_true, false_and, false_or, or_false, true_and]
  constructor
  · intro h; rcases h with h | h
    · (rcases h with h | h | h | h | h | h <;> simp [h])
    · simp [h]
  · intro h; rcases h with h | h | h | h | h | h | h <;> simp [h]
theorem readyG_ne : ∀ b0 b1 b2 b3 b4 b5 b6 : Bool, readyG b0 b1 b2 b3 b4 b5 b6 ≠ [] := by decide
theorem readyG_cases {P : Nat → Prop} (b0 b1 b2 b3 b4 b5 b6 : Bool) (h0 : b0 = false → P 2) (h1 : b1 = false → P 4) (h2 : b2 = false → P 6) (h3 : b3 = false → P 8) (h4 : b4 = false → P 10) (h5 : b5 = false → P 12) (h6 : b6 = false → P 14) (h15 : b0 = true → b1 = true → b2 = true → b3 = true → b4 = true → b5 = true → b6 = true → P 15) : ∀ i ∈ readyG b0 b1 b2 b3 b4 b5 b6, P i := by
  intro i hi
  unfold readyG at hi
  simp only [List.mem_append] at hi
  rcases hi with ((((((hi | hi) | hi) | hi) | hi) | hi) | hi) | hi
  · cases b0 with
    | true => simp at hi
    | false => simp at hi; subst hi; exact h0 rfl
  · cases b1 with
    | true => simp at hi
    | false => simp at hi; subst hi; exact h1 rfl
  · cases b2 with
    | true => simp at hi
    | false => simp at hi; subst hi; exact h2 rfl
  · cases b3 with
    | true => simp at hi
    | false => simp at hi; subst hi; exact h3 rfl
  · cases b4 with
    | true => simp at hi
    | false => simp at hi; subst hi; exact h4 rfl
  · cases b5 with
    | true => simp at hi
    | false => simp at hi; subst hi; exact h5 rfl
  · cases b6 with
    | true => simp at hi
    | false => simp at hi; subst hi; exact h6 rfl
  · split at hi
    · rename_i hb
      simp only [Bool.and_eq_true] at hb
      rw [List.mem_singleton] at hi; subst hi
      obtain ⟨⟨⟨⟨⟨⟨e0, e1⟩, e2⟩, e3⟩, e4⟩, e5⟩, e6⟩ := hb
      exact h15 e0 e1 e2 e3 e4 e5 e6
    · simp at hi
theorem step_put {i d : Nat} {x : Operand} {u : Value} {Q : Exit → Act → World → Prop} {K : Act → World → Prop} {a : Act} {w : World} {op : Op}
    (h : (gops[i]?.map fun o => (o.op, o.dst, o.guard)) = some (op, some d, none)) (hop : op = .move x ∨ op = .assign x) (hx : a.eval x = u) (hK : K (a.put (some d) u) w) : wpOp Try.prog gops Q i K a w := by
  obtain ⟨o, ho, e1, e2, e3⟩ := of_op h
  obtain ⟨dst, op', ty, pos, after, guard⟩ := o
  dsimp only at e1 e2 e3
  subst e1 e2 e3
  unfold wpOp
  rw [ho]
  dsimp only
  rw [if_pos (by rfl)]
  left
  unfold Oper.wp
  rcases hop with rfl | rfl
  · show K (a.put (some d) (a.eval x)) w
    rw [hx]; exact hK
  · show K (a.put (some d) (a.eval x)) w
    rw [hx]; exact hK
/-- The world beside the map. -/
def InvG (N gb : Nat) (F : Obj) (wf w : World) : Prop := Below N wf w ∧ w.heap[gb]? = some F
theorem InvG.put {N gb M : Nat} {F : Obj} {wf w : World} (h : InvG N gb F wf w) (hN : N = wf.heap.size) (hM : N ≤ M) (hg : gb ≠ M) (o : Obj) (hm : ∃ es clk, w.heap[M]? = some (.map es clk)) : InvG N gb F wf (w.putObj M o) := by
  obtain ⟨es, clk, hm⟩ := hm
  exact ⟨h.1.grown (grownBy_putObj' w M o) (by have := h.1.size; omega) (fun k e => by cases e; exact hM), (held_put w M o gb hg).trans h.2⟩
theorem ready16 : Region.ready .any gops #[true, true, true, true, true, true, true, true, true, true, true, true, true, true, true, true, false] = [16] := by kernel_rfl
theorem ready17 : Region.ready .any gops #[true, true, true, true, true, true, true, true, true, true, true, true, true, true, true, true, true] = [] := by kernel_rfl
theorem ins_all {M N gb : Nat} {F : Obj} {wf : World} {Q : Exit → Act → World → Prop} {a : Act} (hF : FrameG a M) (hN : N = wf.heap.size) (hM : N ≤ M) (hg : gb ≠ M) (h15 : ((a.put (some 15) (.map (some M))).eval (.tmp 15)) = .map (some M))
    (hQ : ∀ w, Held w M true true true true true true true → InvG N gb F wf w → Q .normal ((a.put (some 15) (.map (some M))).put (some 3) (.map (some M))) w) (n : Nat) : ∀ (b0 b1 b2 b3 b4 b5 b6 : Bool), (if b0 then 0 else 1) + (if b1 then 0 else 1) + (if b2 then 0 else 1) + (if b3 then 0 else 1) + (if b4 then 0 else 1) + (if b5 then 0 else 1) + (if b6 then 0 else 1) = n → ∀ w, Held w M b0 b1 b2 b3 b4 b5 b6 → InvG N gb F wf w →
    wpAny Try.prog .any gops Q (n + 2) #[true, true, b0, true, b1, true, b2, true, b3, true, b4, true, b5, true, b6, false, false] a w := by
  induction n with
  | zero =>
    intro b0 b1 b2 b3 b4 b5 b6 hc w hH hI
    refine wpAny_all (readyG_eq b0 b1 b2 b3 b4 b5 b6) (readyG_ne b0 b1 b2 b3 b4 b5 b6) (readyG_cases b0 b1 b2 b3 b4 b5 b6 (fun e => by subst e; simp at hc) (fun e => by subst e; simp at hc) (fun e => by subst e; simp at hc) (fun e => by subst e; simp at hc) (fun e => by subst e; simp at hc) (fun e => by subst e; simp at hc) (fun e => by subst e; simp at hc) ?_)
    rintro rfl rfl rfl rfl rfl rfl rfl
    refine step_put gop15 (.inl rfl) hF.1 ?_
    refine wpAny_all (rs := [16]) ready16 (by simp) ?_
    intro i hi
    rw [List.mem_singleton] at hi
    subst hi
    refine step_put gop16 (.inr rfl) h15 ?_
    exact wpAny_done ready17 (hQ w hH hI) 0
  | succ n ih =>
    intro b0 b1 b2 b3 b4 b5 b6 hc w hH hI
    refine wpAny_all (readyG_eq b0 b1 b2 b3 b4 b5 b6) (readyG_ne b0 b1 b2 b3 b4 b5 b6) (readyG_cases b0 b1 b2 b3 b4 b5 b6 ?_ ?_ ?_ ?_ ?_ ?_ ?_ ?_)
    · rintro rfl
      exact held_ins0 hF hH fun o h1 h2 => ih true b1 b2 b3 b4 b5 b6 (by simp at hc ⊢; omega) _ h1 (hI.put hN hM hg o h2)
    · rintro rfl
      exact held_ins1 hF hH fun o h1 h2 => ih b0 true b2 b3 b4 b5 b6 (by simp at hc ⊢; omega) _ h1 (hI.put hN hM hg o h2)
    · rintro rfl
      exact held_ins2 hF hH fun o h1 h2 => ih b0 b1 true b3 b4 b5 b6 (by simp at hc ⊢; omega) _ h1 (hI.put hN hM hg o h2)
    · rintro rfl
      exact held_ins3 hF hH fun o h1 h2 => ih b0 b1 b2 true b4 b5 b6 (by simp at hc ⊢; omega) _ h1 (hI.put hN hM hg o h2)
    · rintro rfl
      exact held_ins4 hF hH fun o h1 h2 => ih b0 b1 b2 b3 true b5 b6 (by simp at hc ⊢; omega) _ h1 (hI.put hN hM hg o h2)
    · rintro rfl
      exact held_ins5 hF hH fun o h1 h2 => ih b0 b1 b2 b3 b4 true b6 (by simp at hc ⊢; omega) _ h1 (hI.put hN hM hg o h2)
    · rintro rfl
      exact held_ins6 hF hH fun o h1 h2 => ih b0 b1 b2 b3 b4 b5 true (by simp at hc ⊢; omega) _ h1 (hI.put hN hM hg o h2)
    · rintro rfl rfl rfl rfl rfl rfl rfl
      simp at hc
theorem bop0 : (gops[1]?.map fun o => (o.op, o.dst, o.guard)) = some (.build 23 #[(0, .const (.int .i64 2)), (1, .const (.int .i64 16)), (2, .const (.int .i64 19))], some 8, none) := by kernel_rfl
theorem bval0 (a : Act) (dst : Option Tmp) (ty : TypeId) (pos : String) (after : Array Edge) (guard : Option (Nat × Bool)) (w : World) : (execOp a.eval { dst := dst, op := .build 23 #[(0, .const (.int .i64 2)), (1, .const (.int .i64 16)), (2, .const (.int .i64 19))], type := ty, pos := pos, after := after, guard := guard }).run Try.prog w = .ok (.value (.agg #[.int .i64 2, .int .i64 16, .int .i64 19])) w := by kernel_rfl
theorem bop1 : (gops[3]?.map fun o => (o.op, o.dst, o.guard)) = some (.build 23 #[(0, .const (.int .i64 2)), (1, .const (.int .i64 64)), (2, .const (.int .i64 67))], some 9, none) := by kernel_rfl
theorem bval1 (a : Act) (dst : Option Tmp) (ty : TypeId) (pos : String) (after : Array Edge) (guard : Option (Nat × Bool)) (w : World) : (execOp a.eval { dst := dst, op := .build 23 #[(0, .const (.int .i64 2)), (1, .const (.int .i64 64)), (2, .const (.int .i64 67))], type := ty, pos := pos, after := after, guard := guard }).run Try.prog w = .ok (.value (.agg #[.int .i64 2, .int .i64 64, .int .i64 67])) w := by kernel_rfl
theorem bop2 : (gops[5]?.map fun o => (o.op, o.dst, o.guard)) = some (.build 23 #[(0, .const (.int .i64 2)), (1, .const (.int .i64 256)), (2, .const (.int .i64 285))], some 10, none) := by kernel_rfl
theorem bval2 (a : Act) (dst : Option Tmp) (ty : TypeId) (pos : String) (after : Array Edge) (guard : Option (Nat × Bool)) (w : World) : (execOp a.eval { dst := dst, op := .build 23 #[(0, .const (.int .i64 2)), (1, .const (.int .i64 256)), (2, .const (.int .i64 285))], type := ty, pos := pos, after := after, guard := guard }).run Try.prog w = .ok (.value (.agg #[.int .i64 2, .int .i64 256, .int .i64 285])) w := by kernel_rfl
theorem bop3 : (gops[7]?.map fun o => (o.op, o.dst, o.guard)) = some (.build 23 #[(0, .const (.int .i64 2)), (1, .const (.int .i64 256)), (2, .const (.int .i64 301))], some 11, none) := by kernel_rfl
theorem bval3 (a : Act) (dst : Option Tmp) (ty : TypeId) (pos : String) (after : Array Edge) (guard : Option (Nat × Bool)) (w : World) : (execOp a.eval { dst := dst, op := .build 23 #[(0, .const (.int .i64 2)), (1, .const (.int .i64 256)), (2, .const (.int .i64 301))], type := ty, pos := pos, after := after, guard := guard }).run Try.prog w = .ok (.value (.agg #[.int .i64 2, .int .i64 256, .int .i64 301])) w := by kernel_rfl
theorem bop4 : (gops[9]?.map fun o => (o.op, o.dst, o.guard)) = some (.build 23 #[(0, .const (.int .i64 2)), (1, .const (.int .i64 1024)), (2, .const (.int .i64 1033))], some 12, none) := by kernel_rfl
theorem bval4 (a : Act) (dst : Option Tmp) (ty : TypeId) (pos : String) (after : Array Edge) (guard : Option (Nat × Bool)) (w : World) : (execOp a.eval { dst := dst, op := .build 23 #[(0, .const (.int .i64 2)), (1, .const (.int .i64 1024)), (2, .const (.int .i64 1033))], type := ty, pos := pos, after := after, guard := guard }).run Try.prog w = .ok (.value (.agg #[.int .i64 2, .int .i64 1024, .int .i64 1033])) w := by kernel_rfl
theorem bop5 : (gops[11]?.map fun o => (o.op, o.dst, o.guard)) = some (.build 23 #[(0, .const (.int .i64 2)), (1, .const (.int .i64 4096)), (2, .const (.int .i64 4201))], some 13, none) := by kernel_rfl
theorem bval5 (a : Act) (dst : Option Tmp) (ty : TypeId) (pos : String) (after : Array Edge) (guard : Option (Nat × Bool)) (w : World) : (execOp a.eval { dst := dst, op := .build 23 #[(0, .const (.int .i64 2)), (1, .const (.int .i64 4096)), (2, .const (.int .i64 4201))], type := ty, pos := pos, after := after, guard := guard }).run Try.prog w = .ok (.value (.agg #[.int .i64 2, .int .i64 4096, .int .i64 4201])) w := by kernel_rfl
theorem bop6 : (gops[13]?.map fun o => (o.op, o.dst, o.guard)) = some (.build 23 #[(0, .const (.int .i64 929)), (1, .const (.int .i64 929))], some 14, none) := by kernel_rfl
theorem bval6 (a : Act) (dst : Option Tmp) (ty : TypeId) (pos : String) (after : Array Edge) (guard : Option (Nat × Bool)) (w : World) : (execOp a.eval { dst := dst, op := .build 23 #[(0, .const (.int .i64 929)), (1, .const (.int .i64 929))], type := ty, pos := pos, after := after, guard := guard }).run Try.prog w = .ok (.value (.agg #[.int .i64 929, .int .i64 929, .int .i64 0])) w := by kernel_rfl
theorem take_build {i d fuel : Nat} {op : Op} {v : Value} {Q : Exit → Act → World → Prop} {l : Array Bool} {a : Act} {w : World} (l' : Array Bool)
    (h : (gops[i]?.map fun o => (o.op, o.dst, o.guard)) = some (op, some d, none))
    (hv : ∀ (a : Act) (dst : Option Tmp) (ty : TypeId) (pos : String) (after : Array Edge) (guard : Option (Nat × Bool)) (w : World), (execOp a.eval { dst := dst, op := op, type := ty, pos := pos, after := after, guard := guard }).run Try.prog w = .ok (.value v) w)
    (hc : (Region.noSelect gops && Region.free .any gops l i && (Region.ready .any gops l).contains i && (l.setIfInBounds i true == l')) = true)
    (hQ : ∀ c a w, Q (.panic c) (a.put (some d) v) w → Q (.panic c) a w) (hK : wpAny Try.prog .any gops Q fuel l' (a.put (some d) v) w) : wpAny Try.prog .any gops Q (fuel + 1) l a w := by
  obtain ⟨o, ho, e1, e2, e3⟩ := of_op h
  simp only [Bool.and_eq_true, beq_iff_eq] at hc
  obtain ⟨⟨⟨h1, h2⟩, h3⟩, h4⟩ := hc
  obtain ⟨dst, op', ty, pos, after, guard⟩ := o
  dsimp only at e1 e2 e3
  subst e1 e2 e3 h4
  exact wpAny_take ho h1 h2 h3 hQ (Or.inl ⟨by rfl, fun w => hv _ _ _ _ _ _ w⟩) hK

theorem mop : (gops[0]?.map fun o => (o.op, o.dst, o.guard)) = some (.makeMap 80 none, some 7, none) := by kernel_rfl
theorem step_make {Q : Exit → Act → World → Prop} {K : Act → World → Prop} {a : Act} {w : World} (hK : K (a.put (some 7) (.map (some w.heap.size))) (w.alloc (.map #[] 0))) : wpOp Try.prog gops Q 0 K a w := by
  obtain ⟨o, ho, e1, e2, e3⟩ := of_op mop
  obtain ⟨dst, op', ty, pos, after, guard⟩ := o
  dsimp only at e1 e2 e3
  subst e1 e2 e3
  unfold wpOp
  rw [ho]
  dsimp only
  rw [if_pos (by rfl)]
  left
  exact hK
theorem region_start {ops : Array Oper} {id : Nat} {a : Act} {w : World} {Q : Exit → Act → World → Prop} (hops : ops = gops)
    (h : wpAny Try.prog .any gops Q 17 (Array.replicate 17 false) a w.drew) : (Code.region id ops true).wp Try.prog Q a w := by
  subst hops
  have hs : gops.size = 17 := by kernel_rfl
  refine wp_region_any (by kernel_rfl) ?_
  rw [hs]
  exact h
theorem ready0 : Region.ready .any gops #[false, true, false, true, false, true, false, true, false, true, false, true, false, true, false, false, false] = [0] := by kernel_rfl
theorem set0 : (#[false, true, false, true, false, true, false, true, false, true, false, true, false, true, false, false, false] : Array Bool).setIfInBounds 0 true = #[true, true, false, true, false, true, false, true, false, true, false, true, false, true, false, false, false] := by rfl
/-- The known generator of a field. -/
def known (f0 f1 f2 : Int) : Option Int := (allE.find? (hit f0 f1 f2)).map (·.2.2.2)
theorem held_look {w : World} {M : Nat} (h : Held w M true true true true true true true) (f0 f1 f2 : Int) :
    (Instr.lookup 80 (.map (some M)) (.agg #[.int .i64 f0, .int .i64 f1, .int .i64 f2]) true).run Try.prog w = .ok (.tuple #[.int .i64 ((known f0 f1 f2).getD 0), .bool (known f0 f1 f2).isSome]) w := by
  obtain ⟨es, clk, D, hM, hD, hmem⟩ := h
  have hall : ∀ d, d ∈ D ↔ d ∈ allE := fun d => by rw [hmem d]; simp [allE]
  have huni : ∀ d ∈ allE, ∀ d' ∈ allE, d.1 = d'.1 → d.2.1 = d'.2.1 → d.2.2.1 = d'.2.2.1 → d = d' := by decide
  have e : D.find? (hit f0 f1 f2) = allE.find? (hit f0 f1 f2) := by
    cases ha : allE.find? (hit f0 f1 f2) with
    | none =>
      rw [List.find?_eq_none] at ha ⊢
      intro d hd; exact ha d ((hall d).1 hd)
    | some d =>
      have h1 := List.find?_some ha
      have h2 := List.mem_of_find?_eq_some ha
      cases hb : D.find? (hit f0 f1 f2) with
      | none => rw [List.find?_eq_none] at hb; exact absurd h1 (hb d ((hall d).2 h2))
      | some d' =>
        have h3 := List.find?_some hb
        have h4 := (hall d').1 (List.mem_of_find?_eq_some hb)
        simp only [hit, Bool.and_eq_true, beq_iff_eq] at h1 h3
        rw [huni d h2 d' h4 (by rw [← h1.1, ← h3.1]) (by rw [← h1.2.1, ← h3.2.1]) (by rw [← h1.2.2, ← h3.2.2])]
  rw [run_look w M es clk D f0 f1 f2 hM hD, e]
  cases hk : allE.find? (hit f0 f1 f2) with
  | none => simp [known, hk]
  | some d => simp [known, hk]
/-- The search for a generator, from x on. -/
def galois_generator.l0 : Nat → Int → Int → Int → Int → Option Int
  | 0, _, _, _, _ => none
  | k + 1, x, f0, f1, f2 => (galois_order.f k f0 f1 f2 x).bind fun t => if t = wrap64 (f1 - 1) then some x else galois_generator.l0 k (wrap64 (x + 1)) f0 f1 f2
/-- The least generator. -/
def galois_generator.f (k : Nat) (a0_0 : Int) (a0_1 : Int) (a0_2 : Int) : Option Int := match known a0_0 a0_1 a0_2 with
  | some g => some g
  | none => galois_generator.l0 k 1 a0_0 a0_1 a0_2
theorem galois_generator.mono_l : ∀ k, ∀ y0 y1 y2 y3, LeO (galois_generator.l0 k y0 y1 y2 y3) (galois_generator.l0 (k + 1) y0 y1 y2 y3)
  | 0 => fun _ _ _ _ r h => by simp [galois_generator.l0] at h
  | k + 1 => by
    intro y0 y1 y2 y3
    have ih := galois_generator.mono_l k
    unfold galois_generator.l0
    exact LeO.bind (galois_order.mono _ _ _ _ _) (fun _ => LeO.ite (LeO.refl _) (ih _ _ _ _))
theorem galois_generator.mono : ∀ a0 a1 a2 k, LeO (galois_generator.f k a0 a1 a2) (galois_generator.f (k + 1) a0 a1 a2) := by
  intro a0 a1 a2 k
  unfold galois_generator.f
  cases known a0 a1 a2 with
  | some g => exact LeO.refl _
  | none => exact galois_generator.mono_l k _ _ _ _
set_option maxHeartbeats 8000000 in
set_option maxRecDepth 100000 in
theorem galois_generator.calls (k : Nat) (a0_0 : Int) (a0_1 : Int) (a0_2 : Int) (r : Int) (w : World) (h : galois_generator.f k a0_0 a0_1 a0_2 = some r) :
    Calls Try.prog 93 #[.agg #[.int .i64 a0_0, .int .i64 a0_1, .int .i64 a0_2]] w fun e w' => e = .returned (.int .i64 r) ∧ Below w.heap.size w w' := by
  have hu23 := Try.underlying23
  have HB := Aside0.mk (Below.refl w.heap.size w)
  have HH := Aside0.mk h
  clear h
  go_enter Try.func93, Try.ntmps93
  go_wp2_with ((with_reducible refine gate_dst (N := 1) rfl ?_); refine box_event ?hg (N := 1) ?hd (cs := #[.int .i64 a0_0, .int .i64 a0_1, .int .i64 a0_2]) (t := 23) ?hr ?_; (case hd => rfl); (case hg => rfl); (case hr => first | (go_simp; done) | (go_simp; rfl)); intro gb hg w7 hbox hb; have n0_ := Aside0.mk (below_step HB.out hb); have n1_ := Aside0.mk hbox; have HGB := Aside0.mk hg; clear HB; have HB := n0_; have BK := n1_; clear n0_ n1_; clear hb hbox hg)
  refine region_start (by kernel_rfl) ?_
  refine take_build (fuel := 16) #[false, true, false, false, false, false, false, false, false, false, false, false, false, false, false, false, false] bop0 bval0 (by kernel_rfl) (fun _ _ _ h => h) ?_
  refine take_build (fuel := 15) #[false, true, false, true, false, false, false, false, false, false, false, false, false, false, false, false, false] bop1 bval1 (by kernel_rfl) (fun _ _ _ h => h) ?_
  refine take_build (fuel := 14) #[false, true, false, true, false, true, false, false, false, false, false, false, false, false, false, false, false] bop2 bval2 (by kernel_rfl) (fun _ _ _ h => h) ?_
  refine take_build (fuel := 13) #[false, true, false, true, false, true, false, true, false, false, false, false, false, false, false, false, false] bop3 bval3 (by kernel_rfl) (fun _ _ _ h => h) ?_
  refine take_build (fuel := 12) #[false, true, false, true, false, true, false, true, false, true, false, false, false, false, false, false, false] bop4 bval4 (by kernel_rfl) (fun _ _ _ h => h) ?_
  refine take_build (fuel := 11) #[false, true, false, true, false, true, false, true, false, true, false, true, false, false, false, false, false] bop5 bval5 (by kernel_rfl) (fun _ _ _ h => h) ?_
  refine take_build (fuel := 10) #[false, true, false, true, false, true, false, true, false, true, false, true, false, true, false, false, false] bop6 bval6 (by kernel_rfl) (fun _ _ _ h => h) ?_
  refine wpAny_all (rs := [0]) ready0 (by simp) ?_
  intro i_ hi_
  rw [List.mem_singleton] at hi_
  subst hi_
  refine step_make ?_
  simp only [Act.put, List.setIfInBounds_toArray, List.set_cons_zero, List.set_cons_succ]
  refine ins_all (M := w7.drew.heap.size) (N := w.heap.size) (gb := gb) (F := .cells #[.int .i64 a0_0, .int .i64 a0_1, .int .i64 a0_2] 23 (0, 0)) (wf := w) ?fr rfl ?ms ?gm ?fe ?go 7 false false false false false false false rfl _ ?hd ?iv
  case fr => exact ⟨rfl, rfl, rfl, rfl, rfl, rfl, rfl, rfl⟩
  case ms => exact HB.out.size
  case gm => have := blk_lt BK.out; show gb ≠ w7.heap.size; omega
  case fe => rfl
  case hd => exact ⟨#[], 0, [], World.alloc_heap_new _ _, rfl, fun d => by simp⟩
  case iv => exact ⟨(below_drew1 HB.out).alloc (by have := HB.out.size; exact this) _, (blk_alloc (show w7.drew.heap[gb]? = _ from BK.out) _)⟩
  case go =>
    intro w8 hheld hinv
    have hlk := held_look hheld a0_0 a0_1 a0_2
    have HB8 := Aside0.mk hinv.1
    have BK8 := Aside0.mk hinv.2
    clear hheld hinv
    have b0_ : w8.cell? ⟨gb, 0, none⟩ = some (.int .i64 a0_0) := (blk_cell BK8.out 0).trans rfl
    have b1_ : w8.cell? ⟨gb, 1, none⟩ = some (.int .i64 a0_1) := (blk_cell BK8.out 1).trans rfl
    have b2_ : w8.cell? ⟨gb, 2, none⟩ = some (.int .i64 a0_2) := (blk_cell BK8.out 2).trans rfl
    have H := HH.out
    clear HH
    unfold galois_generator.f at H
    show Exit.then _ _ _ _ _
    simp only [Act.put, List.setIfInBounds_toArray, List.set_cons_zero, List.set_cons_succ]
    generalize known a0_0 a0_1 a0_2 = kn at hlk H
    generalize w7.drew.heap.size = M at hlk ⊢
    cases kn with
    | some g =>
      obtain rfl := Option.some.inj H
      clear H
      simp only [Option.getD_some, Option.isSome_some] at hlk
      go_wp2
      go_ret
      exact ⟨rfl, HB8.out⟩
    | none =>
      have H' := Aside0.mk (show galois_generator.l0 k 1 a0_0 a0_1 a0_2 = some r from H)
      clear H
      simp only [Option.getD_none, Option.isSome_none] at hlk
      go_wp2
      go_loopg [6] k (fun kq v6 w' => ∃ (x6 : Int), v6 = .int .i64 x6 ∧ Aside0 (galois_generator.l0 kq x6 a0_0 a0_1 a0_2 = some r) ∧ Aside0 (kq ≤ k) ∧ Aside0 (w'.heap[gb]? = some (.cells #[.int .i64 a0_0, .int .i64 a0_1, .int .i64 a0_2] 23 (0, 0))) ∧ Aside0 (Below w.heap.size w w'))
      case atStart => exact ⟨1, rfl, H', ⟨Nat.le_refl _⟩, BK8, HB8⟩
      case round =>
        clear H' hlk b0_ b1_ b2_ HB8 BK8 BK HB
        obtain ⟨x6, rfl, HA, HK1, BK, HB⟩ := hrel
        cases gk with
        | zero => exact absurd HA.out (by simp [galois_generator.l0])
        | succ k1 =>
          have H := HA.out
          clear HA
          simp only [galois_generator.l0] at H
          replace H := Option.bind_eq_some_iff.mp H
          obtain ⟨t, A0, H⟩ := H
          have A := Aside0.mk A0
          clear A0
          obtain ⟨ji, hji⟩ : ∃ j_ : Int, wrap64 (a0_1 - 1) = j_ := ⟨_, rfl⟩
          rw [hji] at H
          have hjiw : (IntKind.i64.wrap (a0_1 - 1)) = ji := (i64_w _).trans hji
          have b0_ : wr.cell? ⟨gb, 0, none⟩ = some (.int .i64 a0_0) := (blk_cell BK.out 0).trans rfl
          have b1_ : wr.cell? ⟨gb, 1, none⟩ = some (.int .i64 a0_1) := (blk_cell BK.out 1).trans rfl
          have b2_ : wr.cell? ⟨gb, 2, none⟩ = some (.int .i64 a0_2) := (blk_cell BK.out 2).trans rfl
          have hmx : Try.prog.follows .mixedOrders = true := by kernel_rfl
          by_cases c : t = ji
          · rw [if_pos c] at H
            have cb0 : (t == ji) = true := beq_iff_eq.mpr c
            have cb1 : (t != ji) = false := bne_eq_false_iff_eq.mpr c
            clear c
            obtain rfl := Option.some.inj H
            clear H
            go_wp2
            go_region_with (go_at_call 91; refine (galois_order.calls k1 a0_0 a0_1 a0_2 x6 t _ A.out).mono ?_; rintro e w9 ⟨rfl, hb⟩; have HB9 := Aside0.mk (below_step (by first | exact below_drew1 HB.out | exact HB.out) hb); have BK9 := Aside0.mk (blk_below (g := gb) (o := .cells #[.int .i64 a0_0, .int .i64 a0_1, .int .i64 a0_2] 23 (0, 0)) (by exact BK.out) hb); have c0_ : w9.cell? ⟨gb, 0, none⟩ = some (.int .i64 a0_0) := (blk_cell BK9.out 0).trans rfl; have c1_ : w9.cell? ⟨gb, 1, none⟩ = some (.int .i64 a0_1) := (blk_cell BK9.out 1).trans rfl; have c2_ : w9.cell? ⟨gb, 2, none⟩ = some (.int .i64 a0_2) := (blk_cell BK9.out 2).trans rfl; clear hb)
            all_goals (simp only [Act.put, List.setIfInBounds_toArray, List.set_cons_zero, List.set_cons_succ]; go_wp2; go_ret; exact ⟨rfl, HB9.out⟩)
          · rw [if_neg c] at H
            have cb0 : (t == ji) = false := beq_eq_false_iff_ne.mpr c
            have cb1 : (t != ji) = true := bne_iff_ne.mpr c
            clear c
            have H' := Aside0.mk H
            clear H
            go_wp2
            go_region_with (go_at_call 91; refine (galois_order.calls k1 a0_0 a0_1 a0_2 x6 t _ A.out).mono ?_; rintro e w9 ⟨rfl, hb⟩; have HB9 := Aside0.mk (below_step (by first | exact below_drew1 HB.out | exact HB.out) hb); have BK9 := Aside0.mk (blk_below (g := gb) (o := .cells #[.int .i64 a0_0, .int .i64 a0_1, .int .i64 a0_2] 23 (0, 0)) (by exact BK.out) hb); have c0_ : w9.cell? ⟨gb, 0, none⟩ = some (.int .i64 a0_0) := (blk_cell BK9.out 0).trans rfl; have c1_ : w9.cell? ⟨gb, 1, none⟩ = some (.int .i64 a0_1) := (blk_cell BK9.out 1).trans rfl; have c2_ : w9.cell? ⟨gb, 2, none⟩ = some (.int .i64 a0_2) := (blk_cell BK9.out 2).trans rfl; clear hb)
            all_goals (simp only [Act.put, List.setIfInBounds_toArray, List.set_cons_zero, List.set_cons_succ]; go_wp2; go_roundg k1; (case measure => have := HK1.out; omega); (case rel => exact ⟨_, rfl, H', ⟨by have := HK1.out; omega⟩, BK9, HB9⟩))

end Go.Proofs.Ytlhaclammaaabaa.Pg
