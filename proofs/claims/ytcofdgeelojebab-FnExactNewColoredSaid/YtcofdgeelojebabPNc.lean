/- Contracts of functions of the given program (PNc). No conditions beyond those stated. -/
import Derived.Test.YtcofdgeelojebabPHvdef
import Derived.Test.YtcofdgeelojebabA0
namespace Go.Proofs.Ytcofdgeelojebab.A
open Go.RowKit Go.Proofs.YtcofdgeelojebabW.PrintWords Go.Proofs.YtcofdgeelojebabW.PrintLast Go.Proofs.YtcofdgeelojebabW.PrintMore
attribute [local go_sem] max2_int min2_int max_two min_two max_three min_three max_four min_four   -- for this text's walks alone
set_option linter.unusedVariables false
set_option linter.unusedSimpArgs false

def ncM (a b c : List Int) : List Int × List Int × List Int × List Int × Bool := if hv a b c = true then (a, b, c, List.replicate a.length 0, true) else ([], [], [], [], false)
theorem ncM_lens (a b c : List Int) : (ncM a b c).1.length ≤ 8 ∧ (ncM a b c).2.1.length ≤ 8 ∧ (ncM a b c).2.2.1.length ≤ 3 ∧ (ncM a b c).2.2.2.1.length ≤ 8 := by
  unfold ncM
  by_cases h : hv a b c = true
  · have := hv_len h
    rw [if_pos h]; simp; omega
  · rw [if_neg h]; simp

end Go.Proofs.Ytcofdgeelojebab.A
