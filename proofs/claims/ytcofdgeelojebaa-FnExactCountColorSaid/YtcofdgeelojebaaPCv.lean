/- Contracts of functions of the given program (PCv). No conditions beyond those stated. -/
import Derived.Test.YtcofdgeelojebaaPHvdef
import Derived.Test.YtcofdgeelojebaaA0
namespace Go.Proofs.Ytcofdgeelojebaa.A
open Go.RowKit Go.Proofs.YtcofdgeelojebaaW.PrintWords Go.Proofs.YtcofdgeelojebaaW.PrintLast Go.Proofs.YtcofdgeelojebaaW.PrintMore
attribute [local go_sem] max2_int min2_int max_two min_two max_three min_three max_four min_four   -- for this text's walks alone
set_option linter.unusedVariables false
set_option linter.unusedSimpArgs false

def okc (x : Int) : Bool := decide (0 ≤ x ∧ x ≤ 2)
def cv (a b c e : List Int) : Bool := hv a b c && (e.all okc && decide (e.length = a.length))
theorem okc_iff {x : Int} : okc x = true ↔ 0 ≤ x ∧ x ≤ 2 := by unfold okc; exact decide_eq_true_iff
theorem cv_iff {a b c e : List Int} : cv a b c e = true ↔ hv a b c = true ∧ (∀ x ∈ e, 0 ≤ x ∧ x ≤ 2) ∧ e.length = a.length := by
  unfold cv
  simp only [Bool.and_eq_true, decide_eq_true_eq, List.all_eq_true, okc_iff]

end Go.Proofs.Ytcofdgeelojebaa.A
