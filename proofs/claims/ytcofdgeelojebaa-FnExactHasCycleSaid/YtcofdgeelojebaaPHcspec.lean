/- Contracts of functions of the given program (PHcspec). No conditions beyond those stated. -/
import Derived.Test.YtcofdgeelojebaaASpecHasCycle
import Derived.Test.YtcofdgeelojebaaPBfs
import Derived.Test.YtcofdgeelojebaaPBfsspec
import Derived.Test.YtcofdgeelojebaaPCell
import Derived.Test.YtcofdgeelojebaaPCellspec
import Derived.Test.YtcofdgeelojebaaPHvd
import Derived.Test.YtcofdgeelojebaaPHvdef
import Derived.Test.YtcofdgeelojebaaA0
namespace Go.Proofs.Ytcofdgeelojebaa.A
open Go.RowKit Go.Proofs.YtcofdgeelojebaaW.PrintWords Go.Proofs.YtcofdgeelojebaaW.PrintLast Go.Proofs.YtcofdgeelojebaaW.PrintMore
attribute [local go_sem] max2_int min2_int max_two min_two max_three min_three max_four min_four   -- for this text's walks alone
set_option linter.unusedVariables false
set_option linter.unusedSimpArgs false

theorem specHC_tells (a b c : List Int) (x : Int) (k : Nat) (hk : 2000 ≤ k) : spec_HasCycle.f k a b c x = some (hcM a b c x) := by
  unfold spec_HasCycle.f hcM
  rw [l1Cell_tells a b c x k (by omega)]
  simp only [Option.bind_some]
  by_cases h : cellM a b c x = true
  · have hh := cellM_iff.1 h
    have hl := hv_len hh.1
    have ht := two_ok (hv_a hh.1 _ (rd_mem a x hh.2.1 (by omega))) (hv_b hh.1 _ (rd_mem b x hh.2.1 (by omega)))
    rw [if_pos h, if_pos (by omega), if_pos (by omega), if_pos (by omega), specD_tells a b c _ (by omega) (by omega) (hv_a hh.1) (hv_b hh.1) ht (by simp) k hk]
    simp only [Option.bind_some]
    rw [if_pos (by rw [distM_len (by omega) (hv_a hh.1) (hv_b hh.1) ht]; omega), h, Bool.true_and]
  · rw [if_neg h, Bool.eq_false_iff.2 h, Bool.false_and]

end Go.Proofs.Ytcofdgeelojebaa.A
