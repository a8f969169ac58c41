/- Contracts of functions of the given program (PExactReachable). No conditions beyond those stated. -/
import Derived.Test.YtffnpclehhoeaaaCLawsFnExactReachable
import Derived.Test.YtffnpclehhoeaaaPEqEqBoolS
import Derived.Test.YtffnpclehhoeaaaPMarkb
import Derived.Test.YtffnpclehhoeaaaPMarkheap
import Derived.Test.YtffnpclehhoeaaaPReach
import Derived.Test.YtffnpclehhoeaaaPReachimpl
import Derived.Test.YtffnpclehhoeaaaPReachspec
import Derived.Test.YtffnpclehhoeaaaPSameEqHeap
import Derived.Test.YtffnpclehhoeaaaPSz
import Derived.Test.YtffnpclehhoeaaaPTo
import Derived.Test.YtffnpclehhoeaaaA0
namespace Go.Proofs.Ytffnpclehhoeaaa.A
open Go.RowKit Go.Proofs.YtffnpclehhoeaaaW.PrintWords Go.Proofs.YtffnpclehhoeaaaW.PrintLast Go.Proofs.YtffnpclehhoeaaaW.PrintMore
attribute [local go_sem] max2_int min2_int max_two min_two max_three min_three max_four min_four   -- for this text's walks alone
set_option linter.unusedVariables false
set_option linter.unusedSimpArgs false

theorem pure_FnExactReachable (a b c : List Int) (ha : a.length ≤ 9223372036854775807) (hb : b.length ≤ 9223372036854775807) (hc : c.length ≤ 9223372036854775807) : ∃ k, laws_FnExactReachable.f k a b c = some true := by
  refine ⟨1048600, ?_⟩
  obtain ⟨k, hk⟩ : ∃ k : Nat, k = 1048599 := ⟨_, rfl⟩
  rw [show 1048600 = k + 1 from by omega]
  unfold laws_FnExactReachable.f
  rw [szHeap_tells a b c 1048576 (by omega) (by omega) ha hb hc]
  simp only [Option.bind_some]
  by_cases h : (a.length : Int) + b.length + c.length ≤ 1048576
  · have hl := reachM_len a b c
    rw [if_pos h, if_neg (by omega), toHeap_tells a b c _ (by omega) (by omega) (by omega) (by omega)]
    simp only [Option.bind_some]
    rw [specRE_tells a b c _ (by omega), implRE_tells a b c _ (by omega)]
    simp only [Option.bind_some]
    rw [eqBoolS_tells _ _ _ (by omega) (by omega)]
    simp only [Option.bind_some]
    rw [if_pos (by simp), eqHeap_tells _ _ _ _ _ _ _ (by omega) (by omega) (by omega) (by omega)]
    simp only [Option.bind_some]
    have hm := markHeap_tells a b c 1 (k + 1) (by omega) (by omega) (by omega) (by omega) (by omega)
    have hm2 := markBoolS_tells (reachM a b c) 1 k (by omega) (by omega)
    have hh := heldBoolS_tells 1 (reachM a b c).length k (by omega) (by omega)
    rw [show ((1 : Nat) : Int) = 1 from rfl] at hm hm2 hh
    rw [if_pos (by simp), hm]
    simp only [Option.bind_some]
    rw [if_neg (by omega)]
    rw [laws_FnExactReachable.j0, if_neg (by simp), hm2]
    simp only [Option.bind_some]
    rw [hh]
    simp only [Option.bind_some]
    rw [if_neg (by omega), if_pos (by simp), toHeap_tells a b c _ (by omega) (by omega) (by omega) (by omega)]
    simp only [Option.bind_some]
    rw [implRE_tells a b c _ (by omega)]
    simp only [Option.bind_some]
    rw [eqBoolS_tells _ _ _ (by omega) (by omega)]
    simp only [Option.bind_some]
    rw [if_pos (by simp), if_neg (by omega), if_pos (by simp)]
  · rw [if_neg h, if_pos (by omega)]

end Go.Proofs.Ytffnpclehhoeaaa.A
