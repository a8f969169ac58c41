/- Contracts of functions of the given program (PPutR). No conditions beyond those stated. -/
import Derived.Test.YtcofdgeelojebaaPHvdef
import Derived.Test.YtcofdgeelojebaaA0
namespace Go.Proofs.Ytcofdgeelojebaa.A
open Go.RowKit Go.Proofs.YtcofdgeelojebaaW.PrintWords Go.Proofs.YtcofdgeelojebaaW.PrintLast Go.Proofs.YtcofdgeelojebaaW.PrintMore
attribute [local go_sem] max2_int min2_int max_two min_two max_three min_three max_four min_four   -- for this text's walks alone
set_option linter.unusedVariables false
set_option linter.unusedSimpArgs false

def putRM (a b c : List Int) (x t : Int) : List Int × List Int × List Int × Bool := if hv a b c = true ∧ (0 ≤ x ∧ x < (b.length : Int)) ∧ okp a.length t = true then (a, b.set x.toNat t, c, true) else ([], [], [], false)
theorem putRM_lens (a b c : List Int) (x t : Int) : (putRM a b c x t).1.length ≤ 8 ∧ (putRM a b c x t).2.1.length ≤ 8 ∧ (putRM a b c x t).2.2.1.length ≤ 3 := by
  unfold putRM
  by_cases h : hv a b c = true ∧ (0 ≤ x ∧ x < (b.length : Int)) ∧ okp a.length t = true
  · rw [if_pos h]; have := hv_len h.1; simp; omega
  · rw [if_neg h]; simp

end Go.Proofs.Ytcofdgeelojebaa.A
