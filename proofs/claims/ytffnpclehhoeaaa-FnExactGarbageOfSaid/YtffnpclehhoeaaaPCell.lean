/- Contracts of functions of the given program (PCell). No conditions beyond those stated. -/
import Derived.Test.YtffnpclehhoeaaaPHvdef
import Derived.Test.YtffnpclehhoeaaaA0
namespace Go.Proofs.Ytffnpclehhoeaaa.A
open Go.RowKit Go.Proofs.YtffnpclehhoeaaaW.PrintWords Go.Proofs.YtffnpclehhoeaaaW.PrintLast Go.Proofs.YtffnpclehhoeaaaW.PrintMore
attribute [local go_sem] max2_int min2_int max_two min_two max_three min_three max_four min_four   -- for this text's walks alone
set_option linter.unusedVariables false
set_option linter.unusedSimpArgs false

/-- A cell of a valid heap. -/
def cellM (a b c : List Int) (x : Int) : Bool := hv a b c && decide (0 ≤ x ∧ x < (a.length : Int))
theorem cellM_iff {a b c : List Int} {x : Int} : cellM a b c x = true ↔ hv a b c = true ∧ 0 ≤ x ∧ x < (a.length : Int) := by
  unfold cellM; simp

end Go.Proofs.Ytffnpclehhoeaaa.A
