/- Contracts of functions of the given program (PSzcol). No conditions beyond those stated. -/
import Derived.Test.YtcofdgeelojebaaALawsSzColored
import Derived.Test.YtcofdgeelojebaaPSz
import Derived.Test.YtcofdgeelojebaaA0
namespace Go.Proofs.Ytcofdgeelojebaa.A
open Go.RowKit Go.Proofs.YtcofdgeelojebaaW.PrintWords Go.Proofs.YtcofdgeelojebaaW.PrintLast Go.Proofs.YtcofdgeelojebaaW.PrintMore
attribute [local go_sem] max2_int min2_int max_two min_two max_three min_three max_four min_four   -- for this text's walks alone
set_option linter.unusedVariables false
set_option linter.unusedSimpArgs false

theorem szColored_tells (a b c e : List Int) (L : Int) (h0 : 0 ≤ L) (h1 : L ≤ 1048576) (ha : a.length ≤ 9223372036854775807) (hb : b.length ≤ 9223372036854775807) (hc : c.length ≤ 9223372036854775807) (he : e.length ≤ 9223372036854775807) :
    laws_szColored.f a b c e L = some (if (a.length : Int) + b.length + c.length + e.length ≤ L then L - a.length - b.length - c.length - e.length else -1) := by
  unfold laws_szColored.f
  rw [szHeap_tells a b c L h0 h1 ha hb hc]
  simp only [Option.bind_some]
  by_cases h2 : (a.length : Int) + b.length + c.length ≤ L
  · rw [if_pos h2, if_neg (by omega), szIntS_tells e _ (by omega) (by omega) he]
    simp only [Option.bind_some]
    by_cases h3 : (e.length : Int) ≤ L - a.length - b.length - c.length
    · rw [if_pos h3, if_neg (by omega), if_pos (by omega)]
    · rw [if_neg h3, if_pos (by omega), if_neg (by omega)]
  · rw [if_neg h2, if_pos (by omega), if_neg (by omega)]

end Go.Proofs.Ytcofdgeelojebaa.A
