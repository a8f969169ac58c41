/- Contracts of functions of the given program (PPutOimpl). No conditions beyond those stated. -/
import Derived.Test.YtcofdgeelojebaaAImplPutRoot
import Derived.Test.YtcofdgeelojebaaPCopied
import Derived.Test.YtcofdgeelojebaaPHvdef
import Derived.Test.YtcofdgeelojebaaPHvimpl
import Derived.Test.YtcofdgeelojebaaPPointer
import Derived.Test.YtcofdgeelojebaaPPutO
import Derived.Test.YtcofdgeelojebaaA0
namespace Go.Proofs.Ytcofdgeelojebaa.A
open Go.RowKit Go.Proofs.YtcofdgeelojebaaW.PrintWords Go.Proofs.YtcofdgeelojebaaW.PrintLast Go.Proofs.YtcofdgeelojebaaW.PrintMore
attribute [local go_sem] max2_int min2_int max_two min_two max_three min_three max_four min_four   -- for this text's walks alone
set_option linter.unusedVariables false
set_option linter.unusedSimpArgs false

theorem implPutO_tells (a b c : List Int) (x t : Int) (k : Nat) (hk : 60 ≤ k) : impl_PutRoot.f k a b c x t = some (putOM a b c x t) := by
  unfold impl_PutRoot.f putOM
  rw [implHV_tells a b c k (by omega)]
  simp only [Option.bind_some]
  by_cases h : hv a b c = true
  · have hl := hv_len h
    rw [if_pos h]
    by_cases h1 : x < 0
    · rw [if_pos h1, if_neg (by omega)]
    · rw [if_neg h1]
      by_cases h2 : x ≥ (c.length : Int)
      · rw [if_pos h2, if_neg (by omega)]
      · rw [if_neg h2, pointer_tells a b c t]
        simp only [Option.bind_some]
        by_cases h3 : okp a.length t = true
        · rw [if_pos h3, copied_tells a b c (by omega) (by omega) (by omega)]
          simp only [Option.bind_some]
          rw [if_pos (by omega), if_pos (by omega), if_pos ⟨h, ⟨by omega, by omega⟩, h3⟩]
        · rw [if_neg h3, if_neg (fun hh => h3 hh.2.2)]
  · rw [if_neg h, if_neg (fun hh => h hh.1)]

end Go.Proofs.Ytcofdgeelojebaa.A
