/- Contracts of functions of the given program (PCp). No conditions beyond those stated. -/
import Derived.Test.YtcofdgeelojebaaPBase
import Derived.Test.YtcofdgeelojebaaPHvdef
import Derived.Test.YtcofdgeelojebaaA0
namespace Go.Proofs.Ytcofdgeelojebaa.A
open Go.RowKit Go.Proofs.YtcofdgeelojebaaW.PrintWords Go.Proofs.YtcofdgeelojebaaW.PrintLast Go.Proofs.YtcofdgeelojebaaW.PrintMore
attribute [local go_sem] max2_int min2_int max_two min_two max_three min_three max_four min_four   -- for this text's walks alone
set_option linter.unusedVariables false
set_option linter.unusedSimpArgs false

/-- How many are not -1. -/
def cnt (l : List Int) : Nat := l.countP (fun x => decide (x ≠ -1))
def cpM (a b c : List Int) : Int := if hv a b c = true then ((cnt (a ++ b ++ c) : Nat) : Int) else 0
theorem cnt_drop (l : List Int) (n : Nat) (h : n < l.length) : cnt (l.drop n) = cnt (l.drop (n + 1)) + (if rd l (n : Int) = -1 then 0 else 1) := by
  unfold cnt
  rw [drop_rd l n h, List.countP_cons]
  by_cases h : rd l (n : Int) = -1 <;> simp [h]
theorem cnt_nil (l : List Int) (n : Nat) (h : l.length ≤ n) : cnt (l.drop n) = 0 := by rw [List.drop_eq_nil_of_le h]; rfl
theorem cnt_le (l : List Int) : cnt l ≤ l.length := List.countP_le_length

end Go.Proofs.Ytcofdgeelojebaa.A
