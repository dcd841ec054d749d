/- Short words for steps that the printed walks take again and again: a fact of an elder world holds in the world as it stands. -/
import Derived.Test.YtojbcpklmegjpaaV
import Derived.Lib.SliceRun
namespace Go.Proofs.YtojbcpklmegjpaaV
open Go.RowKit Go.ChangeShapes Go.WideShapes Go.Deep Go.Proofs.YtojbcpklmegjpaaW.PrintWords Go.Proofs.YtojbcpklmegjpaaW.PrintLast
set_option linter.unusedVariables false
theorem bk {w w1 : World} {g : Nat} {o : Obj} (h : w.heap[g]? = some o) (f : w.heap[g]? = some o → w1.heap[g]? = some o := by intro h_; (with_reducible repeat (first | refine blk_drewN ?_ _ | refine blk_drew ?_ | refine blk_alloc ?_ _)); exact h_) : w1.heap[g]? = some o := f h
theorem rk {α : Type} {d : Kd α} {e : Nat} {w w1 : World} {base : Nat} {ok : Nat → Prop} {v : Value} {xs : List α} (h : d.R e w base ok v xs) (f : d.R e w base ok v xs → d.R e w1 base ok v xs := by intro h_; (with_reducible repeat (first | apply Kd.R_alloc | apply Kd.R_drewN | apply Kd.R_drew)); exact h_) : d.R e w1 base ok v xs := f h
theorem bset {w w1 : World} {g j : Nat} {v : Value} (h : Below w.heap.size w w1) (hg : Aside0 (w.heap.size ≤ g) := by assumption) : Below w.heap.size w (w1.setCell ⟨g, j, none⟩ v) := below_set h hg.out
theorem hB {b : Nat} {w w1 w2 : World} (h : Below b w w1) (f : Below b w w1 → Below b w w2 := by intro h_; repeat (first | (with_reducible first | exact h_ | apply below_alloc | apply pw_below_drewN | apply below_drew1 | refine bset ?_) | exact h_)) : Below b w w2 := f h
end Go.Proofs.YtojbcpklmegjpaaV
