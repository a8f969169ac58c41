/- Contracts of functions of the given program (PExactHasCycle). No conditions beyond those stated. -/
import Derived.Test.YtcofdgeelojebaaCLawsFnExactHasCycle
import Derived.Test.YtcofdgeelojebaaPHcimpl
import Derived.Test.YtcofdgeelojebaaPHcspec
import Derived.Test.YtcofdgeelojebaaPSameEqHeap
import Derived.Test.YtcofdgeelojebaaPSz
import Derived.Test.YtcofdgeelojebaaPTo
import Derived.Test.YtcofdgeelojebaaA0
namespace Go.Proofs.Ytcofdgeelojebaa.A
open Go.RowKit Go.Proofs.YtcofdgeelojebaaW.PrintWords Go.Proofs.YtcofdgeelojebaaW.PrintLast Go.Proofs.YtcofdgeelojebaaW.PrintMore
attribute [local go_sem] max2_int min2_int max_two min_two max_three min_three max_four min_four   -- for this text's walks alone
set_option linter.unusedVariables false
set_option linter.unusedSimpArgs false

theorem pure_FnExactHasCycle (a b c : List Int) (x : Int) (ha : a.length ≤ 9223372036854775807) (hb : b.length ≤ 9223372036854775807) (hc : c.length ≤ 9223372036854775807) (_hx : -9223372036854775808 ≤ x ∧ x ≤ 9223372036854775807) : ∃ k, laws_FnExactHasCycle.f k a b c x = some true := by
  refine ⟨1048600, ?_⟩
  obtain ⟨k, hk⟩ : ∃ k : Nat, k = 1048600 := ⟨_, rfl⟩
  rw [← hk]
  unfold laws_FnExactHasCycle.f
  rw [szHeap_tells a b c 1048576 (by omega) (by omega) ha hb hc]
  simp only [Option.bind_some]
  by_cases h : (a.length : Int) + b.length + c.length ≤ 1048576
  · rw [if_pos h, if_neg (by omega), toHeap_tells a b c k (by omega) (by omega) (by omega) (by omega)]
    simp only [Option.bind_some]
    rw [specHC_tells a b c x k (by omega), implHC_tells a b c x k (by omega)]
    simp only [Option.bind_some]
    rw [if_neg (by simp), eqHeap_tells a b c a b c k (by omega) (by omega) (by omega) (by omega)]
    simp
  · rw [if_neg h, if_pos (by omega)]

end Go.Proofs.Ytcofdgeelojebaa.A
