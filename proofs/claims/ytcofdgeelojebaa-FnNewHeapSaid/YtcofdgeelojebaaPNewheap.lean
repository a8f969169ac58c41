/- Contracts of functions of the given program (PNewheap). No conditions beyond those stated. -/
import Derived.Test.YtcofdgeelojebaaA0
namespace Go.Proofs.Ytcofdgeelojebaa.A
open Go.RowKit Go.Proofs.YtcofdgeelojebaaW.PrintWords Go.Proofs.YtcofdgeelojebaaW.PrintLast Go.Proofs.YtcofdgeelojebaaW.PrintMore
attribute [local go_sem] max2_int min2_int max_two min_two max_three min_three max_four min_four   -- for this text's walks alone
set_option linter.unusedVariables false
set_option linter.unusedSimpArgs false

def nhM (c r : Int) : List Int × List Int × List Int × Bool := if 1 ≤ c ∧ c ≤ 8 ∧ 1 ≤ r ∧ r ≤ 3 then (List.replicate c.toNat (-1), List.replicate c.toNat (-1), List.replicate r.toNat (-1), true) else ([], [], [], false)
theorem nhM_lens (c r : Int) : (nhM c r).1.length ≤ 8 ∧ (nhM c r).2.1.length ≤ 8 ∧ (nhM c r).2.2.1.length ≤ 3 := by
  unfold nhM
  by_cases h : 1 ≤ c ∧ c ≤ 8 ∧ 1 ≤ r ∧ r ≤ 3
  · rw [if_pos h]; simp; omega
  · rw [if_neg h]; simp

end Go.Proofs.Ytcofdgeelojebaa.A
