/- Contracts of functions of the given program (PPutL). No conditions beyond those stated. -/
import Derived.Test.YthkipbdnfkpbgaaPHvdef
import Derived.Test.YthkipbdnfkpbgaaA0
namespace Go.Proofs.Ythkipbdnfkpbgaa.A
open Go.RowKit Go.Proofs.YthkipbdnfkpbgaaW.PrintWords Go.Proofs.YthkipbdnfkpbgaaW.PrintLast Go.Proofs.YthkipbdnfkpbgaaW.PrintMore
attribute [local go_sem] max2_int min2_int max_two min_two max_three min_three max_four min_four   -- for this text's walks alone
set_option linter.unusedVariables false
set_option linter.unusedSimpArgs false

def putLM (a b c : List Int) (x t : Int) : List Int × List Int × List Int × Bool := if hv a b c = true ∧ (0 ≤ x ∧ x < (a.length : Int)) ∧ okp a.length t = true then (a.set x.toNat t, b, c, true) else ([], [], [], false)
theorem putLM_lens (a b c : List Int) (x t : Int) : (putLM a b c x t).1.length ≤ 8 ∧ (putLM a b c x t).2.1.length ≤ 8 ∧ (putLM a b c x t).2.2.1.length ≤ 3 := by
  unfold putLM
  by_cases h : hv a b c = true ∧ (0 ≤ x ∧ x < (a.length : Int)) ∧ okp a.length t = true
  · rw [if_pos h]; have := hv_len h.1; simp; omega
  · rw [if_neg h]; simp

end Go.Proofs.Ythkipbdnfkpbgaa.A
