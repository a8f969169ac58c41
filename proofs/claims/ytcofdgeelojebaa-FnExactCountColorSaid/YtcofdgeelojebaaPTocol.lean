/- Contracts of functions of the given program (PTocol). No conditions beyond those stated. -/
import Derived.Test.YtcofdgeelojebaaALawsToColored
import Derived.Test.YtcofdgeelojebaaPTo
import Derived.Test.YtcofdgeelojebaaA0
namespace Go.Proofs.Ytcofdgeelojebaa.A
open Go.RowKit Go.Proofs.YtcofdgeelojebaaW.PrintWords Go.Proofs.YtcofdgeelojebaaW.PrintLast Go.Proofs.YtcofdgeelojebaaW.PrintMore
attribute [local go_sem] max2_int min2_int max_two min_two max_three min_three max_four min_four   -- for this text's walks alone
set_option linter.unusedVariables false
set_option linter.unusedSimpArgs false

theorem toColored_tells (a b c e : List Int) (k : Nat) (ha : a.length ≤ 1048576) (hb : b.length ≤ 1048576) (hc : c.length ≤ 1048576) (he : e.length ≤ 1048576) (hk : 1048577 ≤ k) : laws_toColored.f k a b c e = some (a, b, c, e) := by
  unfold laws_toColored.f
  rw [toHeap_tells a b c k ha hb hc hk]
  simp only [Option.bind_some]
  rw [toIntS_tells e k he (by omega)]
  rfl

end Go.Proofs.Ytcofdgeelojebaa.A
