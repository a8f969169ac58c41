/- Contracts of functions of the given program (PExactCountLive). No conditions beyond those stated. -/
import Derived.Test.YtcofdgeelojebabCLawsFnExactCountLive
import Derived.Test.YtcofdgeelojebabPClimpl
import Derived.Test.YtcofdgeelojebabPClspec
import Derived.Test.YtcofdgeelojebabPSameEqHeap
import Derived.Test.YtcofdgeelojebabPSz
import Derived.Test.YtcofdgeelojebabPTo
import Derived.Test.YtcofdgeelojebabA0
namespace Go.Proofs.Ytcofdgeelojebab.A
open Go.RowKit Go.Proofs.YtcofdgeelojebabW.PrintWords Go.Proofs.YtcofdgeelojebabW.PrintLast Go.Proofs.YtcofdgeelojebabW.PrintMore
attribute [local go_sem] max2_int min2_int max_two min_two max_three min_three max_four min_four   -- for this text's walks alone
set_option linter.unusedVariables false
set_option linter.unusedSimpArgs false

theorem pure_FnExactCountLive (a b c : List Int) (ha : a.length ≤ 9223372036854775807) (hb : b.length ≤ 9223372036854775807) (hc : c.length ≤ 9223372036854775807) : ∃ k, laws_FnExactCountLive.f k a b c = some true := by
  refine ⟨1048577, ?_⟩
  obtain ⟨k, hk⟩ : ∃ k : Nat, k = 1048577 := ⟨_, rfl⟩
  rw [← hk]
  unfold laws_FnExactCountLive.f
  rw [szHeap_tells a b c 1048576 (by omega) (by omega) ha hb hc]
  simp only [Option.bind_some]
  by_cases h : (a.length : Int) + b.length + c.length ≤ 1048576
  · rw [if_pos h, if_neg (by omega), toHeap_tells a b c k (by omega) (by omega) (by omega) (by omega)]
    simp only [Option.bind_some]
    rw [specCL_tells a b c k (by omega), implCL_tells a b c k (by omega)]
    simp only [Option.bind_some]
    rw [if_pos (by simp), eqHeap_tells a b c a b c k (by omega) (by omega) (by omega) (by omega)]
    simp
  · rw [if_neg h, if_pos (by omega)]

end Go.Proofs.Ytcofdgeelojebab.A
