import Derived.Test.YtlhaclammaaabaaB16
/-! Short words for a law that makes a struct of type 42 and calls its methods. -/
namespace Go.Proofs.Ytlhaclammaaabaa.Pg
open Go.RowKit Go.Proofs.YtlhaclammaaabaaW.PrintWords Go.Proofs.YtlhaclammaaabaaW.PrintLast Go.Proofs.YtlhaclammaaabaaW.PrintMore
set_option linter.unusedVariables false
theorem f42 {w0 W : World} {g g' i : Nat} {f0 f1 f2 : Int} {f3 : Bool} {u : Value} (h : IsS42 w0 W g f0 f1 f2 f3) (hp : Aside0 (g ≠ g')) : IsS42 w0 (W.setCell ⟨g', i, none⟩ u) g f0 f1 f2 f3 := h.far hp.out u
theorem s42 {p q : Prop} (b : Aside0 p) (h : p → q := by intro hzk_; (repeat (first | (with_reducible first | exact hzk_ | apply IsS42.alloc | apply IsS42.drewN | apply IsS42.drew | apply IsS42.set_0 | apply IsS42.set_1 | apply IsS42.set_2 | apply IsS42.set_3 | refine f42 ?_ (by assumption)) | exact hzk_)); (first | done | fail)) : q := h b.out
theorem b42 {p q : Prop} (b : Aside0 p) (h : p → q := by intro hzk_; (repeat (first | (with_reducible first | exact HB.out | apply below_alloc | apply pw_below_drewN | apply below_drew1 | refine below_set ?_ (IsS42.ge hzk_) | refine zSet ?_ (by assumption)) | exact HB.out)); (first | done | fail)) : q := h b.out
theorem k42 {w0 w w1 : World} {g g' : Nat} {o : Obj} (b : Aside0 (w0.heap[g']? = some o)) (hk : KeepBut w w1 g none) (n : Aside0 (g' ≠ g)) (h : w0.heap[g']? = some o → w.heap[g']? = some o := by intro hzk_; (with_reducible repeat (first | refine blk_drewN ?_ _ | refine blk_drew ?_ | refine blk_alloc ?_ _ | apply zPut | refine zFar ?_ (by assumption))); exact hzk_; all_goals rfl) : Aside0 (w1.heap[g']? = some o) := ⟨(hk.2 g' (blk_lt (h b.out)) n.out (by simp)).trans (h b.out)⟩
end Go.Proofs.Ytlhaclammaaabaa.Pg
