/- Contracts of functions of the given program (PNcspec). No conditions beyond those stated. -/
import Derived.Test.YtcofdgeelojebabASpecNewColored
import Derived.Test.YtcofdgeelojebabPCopy
import Derived.Test.YtcofdgeelojebabPHvdef
import Derived.Test.YtcofdgeelojebabPHvspec
import Derived.Test.YtcofdgeelojebabPNc
import Derived.Test.YtcofdgeelojebabA0
namespace Go.Proofs.Ytcofdgeelojebab.A
open Go.RowKit Go.Proofs.YtcofdgeelojebabW.PrintWords Go.Proofs.YtcofdgeelojebabW.PrintLast Go.Proofs.YtcofdgeelojebabW.PrintMore
attribute [local go_sem] max2_int min2_int max_two min_two max_three min_three max_four min_four   -- for this text's walks alone
set_option linter.unusedVariables false
set_option linter.unusedSimpArgs false

theorem specNC_tells (a b c : List Int) (k : Nat) (hk : 60 ≤ k) : spec_NewColored.f k a b c = some (ncM a b c) := by
  unfold spec_NewColored.f ncM
  rw [specHV_tells a b c k (by omega)]
  simp only [Option.bind_some]
  by_cases h : hv a b c = true
  · have hl := hv_len h
    rw [if_pos h, if_pos h, l1Copy_tells a b c (by omega) (by omega) (by omega)]
    simp only [Option.bind_some]
    rw [if_pos (by omega), Int.toNat_natCast, if_pos (by omega)]
  · rw [if_neg h, if_neg h]

end Go.Proofs.Ytcofdgeelojebab.A
