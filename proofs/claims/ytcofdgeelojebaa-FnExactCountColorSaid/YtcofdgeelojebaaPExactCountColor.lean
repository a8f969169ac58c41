/- Contracts of functions of the given program (PExactCountColor). No conditions beyond those stated. -/
import Derived.Test.YtcofdgeelojebaaCLawsFnExactCountColor
import Derived.Test.YtcofdgeelojebaaPCcimpl
import Derived.Test.YtcofdgeelojebaaPCcspec
import Derived.Test.YtcofdgeelojebaaPSameEqColored
import Derived.Test.YtcofdgeelojebaaPSzcol
import Derived.Test.YtcofdgeelojebaaPTocol
import Derived.Test.YtcofdgeelojebaaA0
namespace Go.Proofs.Ytcofdgeelojebaa.A
open Go.RowKit Go.Proofs.YtcofdgeelojebaaW.PrintWords Go.Proofs.YtcofdgeelojebaaW.PrintLast Go.Proofs.YtcofdgeelojebaaW.PrintMore
attribute [local go_sem] max2_int min2_int max_two min_two max_three min_three max_four min_four   -- for this text's walks alone
set_option linter.unusedVariables false
set_option linter.unusedSimpArgs false

theorem pure_FnExactCountColor (a b c e : List Int) (x : Int) (ha : a.length ≤ 9223372036854775807) (hb : b.length ≤ 9223372036854775807) (hc : c.length ≤ 9223372036854775807) (he : e.length ≤ 9223372036854775807) (_hx : -9223372036854775808 ≤ x ∧ x ≤ 9223372036854775807) : ∃ k, laws_FnExactCountColor.f k a b c e x = some true := by
  refine ⟨3145800, ?_⟩
  obtain ⟨k, hk⟩ : ∃ k : Nat, k = 3145800 := ⟨_, rfl⟩
  rw [← hk]
  unfold laws_FnExactCountColor.f
  rw [szColored_tells a b c e 1048576 (by omega) (by omega) ha hb hc he]
  simp only [Option.bind_some]
  by_cases h : (a.length : Int) + b.length + c.length + e.length ≤ 1048576
  · rw [if_pos h, if_neg (by omega), toColored_tells a b c e k (by omega) (by omega) (by omega) (by omega) (by omega)]
    simp only [Option.bind_some]
    rw [specCC_tells a b c e x k (by omega) (by omega), implCC_tells a b c e x k (by omega) (by omega)]
    simp only [Option.bind_some]
    rw [if_pos (by simp), eqColored_tells _ _ _ _ _ _ _ _ k (by omega) (by omega) (by omega) (by omega) (by omega)]
    simp
  · rw [if_neg h, if_pos (by omega)]

end Go.Proofs.Ytcofdgeelojebaa.A
