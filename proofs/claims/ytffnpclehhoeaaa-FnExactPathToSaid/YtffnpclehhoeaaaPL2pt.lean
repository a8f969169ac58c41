/- Contracts of functions of the given program (PL2pt). No conditions beyond those stated. -/
import Derived.Test.YtffnpclehhoeaaaASpecL2Points
import Derived.Test.YtffnpclehhoeaaaA0
namespace Go.Proofs.Ytffnpclehhoeaaa.A
open Go.RowKit Go.Proofs.YtffnpclehhoeaaaW.PrintWords Go.Proofs.YtffnpclehhoeaaaW.PrintLast Go.Proofs.YtffnpclehhoeaaaW.PrintMore
attribute [local go_sem] max2_int min2_int max_two min_two max_three min_three max_four min_four   -- for this text's walks alone
set_option linter.unusedVariables false
set_option linter.unusedSimpArgs false

theorem l2Points_tells (a b c : List Int) (i : Nat) (x : Int) (h : i < a.length) (hb : b.length = a.length) : spec_l2Points.f a b c (i : Int) x = some (decide (rd a (i : Int) = x ∨ rd b (i : Int) = x)) := by
  unfold spec_l2Points.f
  rw [if_pos (by omega), if_pos (by omega)]
  by_cases h1 : rd a (i : Int) = x
  · rw [if_pos h1]; simp [h1]
  · rw [if_neg h1, if_pos (by omega)]; simp [h1]; rw [Bool.eq_iff_iff]; simp

end Go.Proofs.Ytffnpclehhoeaaa.A
