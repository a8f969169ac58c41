/- Contracts of functions of the given program (PDospec). No conditions beyond those stated. -/
import Derived.Test.YtffnpclehhoeaaaASpecDistanceOf
import Derived.Test.YtffnpclehhoeaaaPBfs
import Derived.Test.YtffnpclehhoeaaaPBfsspec
import Derived.Test.YtffnpclehhoeaaaPCellspec
import Derived.Test.YtffnpclehhoeaaaPHvdef
import Derived.Test.YtffnpclehhoeaaaA0
namespace Go.Proofs.Ytffnpclehhoeaaa.A
open Go.RowKit Go.Proofs.YtffnpclehhoeaaaW.PrintWords Go.Proofs.YtffnpclehhoeaaaW.PrintLast Go.Proofs.YtffnpclehhoeaaaW.PrintMore
attribute [local go_sem] max2_int min2_int max_two min_two max_three min_three max_four min_four   -- for this text's walks alone
set_option linter.unusedVariables false
set_option linter.unusedSimpArgs false

theorem specDO_tells (a b c : List Int) (x : Int) (k : Nat) (hk : 2000 ≤ k) : spec_DistanceOf.f k a b c x = some (doM a b c x) := by
  unfold spec_DistanceOf.f doM
  rw [l1Cell_tells a b c x k (by omega)]
  simp only [Option.bind_some]
  by_cases h : cellM a b c x = true
  · have hh := cellM_iff.1 h
    have hl := hv_len hh.1
    have hdl := distM_len (by omega) (hv_a hh.1) (hv_b hh.1) (hv_c hh.1)
    rw [if_pos h, if_pos h, specD_tells a b c _ (by omega) (by omega) (hv_a hh.1) (hv_b hh.1) (hv_c hh.1) (by omega) k hk]
    simp only [Option.bind_some]
    rw [if_pos (by omega), if_pos (by omega)]
    by_cases h2 : rd (distM a b c) x < 0
    · rw [if_pos h2, if_pos h2]
    · rw [if_neg h2, if_neg h2]
  · rw [if_neg h, if_neg h]

end Go.Proofs.Ytffnpclehhoeaaa.A
