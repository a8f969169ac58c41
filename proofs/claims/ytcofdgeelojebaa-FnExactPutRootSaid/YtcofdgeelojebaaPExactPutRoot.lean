/- Contracts of functions of the given program (PExactPutRoot). No conditions beyond those stated. -/
import Derived.Test.YtcofdgeelojebaaCLawsFnExactPutRoot
import Derived.Test.YtcofdgeelojebaaPMarkheap
import Derived.Test.YtcofdgeelojebaaPPutO
import Derived.Test.YtcofdgeelojebaaPPutOimpl
import Derived.Test.YtcofdgeelojebaaPPutOspec
import Derived.Test.YtcofdgeelojebaaPSameEqHeap
import Derived.Test.YtcofdgeelojebaaPSz
import Derived.Test.YtcofdgeelojebaaPTo
import Derived.Test.YtcofdgeelojebaaA0
namespace Go.Proofs.Ytcofdgeelojebaa.A
open Go.RowKit Go.Proofs.YtcofdgeelojebaaW.PrintWords Go.Proofs.YtcofdgeelojebaaW.PrintLast Go.Proofs.YtcofdgeelojebaaW.PrintMore
attribute [local go_sem] max2_int min2_int max_two min_two max_three min_three max_four min_four   -- for this text's walks alone
set_option linter.unusedVariables false
set_option linter.unusedSimpArgs false

theorem pure_FnExactPutRoot (a b c : List Int) (x t : Int) (ha : a.length ≤ 9223372036854775807) (hb : b.length ≤ 9223372036854775807) (hc : c.length ≤ 9223372036854775807) (_hx : -9223372036854775808 ≤ x ∧ x ≤ 9223372036854775807) (_ht : -9223372036854775808 ≤ t ∧ t ≤ 9223372036854775807) : ∃ k, laws_FnExactPutRoot.f k a b c x t = some true := by
  refine ⟨1048600, ?_⟩
  obtain ⟨k, hk⟩ : ∃ k : Nat, k = 1048597 := ⟨_, rfl⟩
  rw [show 1048600 = k + 3 from by omega]
  unfold laws_FnExactPutRoot.f
  rw [szHeap_tells a b c 1048576 (by omega) (by omega) ha hb hc]
  simp only [Option.bind_some]
  by_cases h : (a.length : Int) + b.length + c.length ≤ 1048576
  · have hl := putOM_lens a b c x t
    rw [if_pos h, if_neg (by omega), toHeap_tells a b c _ (by omega) (by omega) (by omega) (by omega)]
    simp only [Option.bind_some]
    rw [specPutO_tells a b c x t _ (by omega), implPutO_tells a b c x t _ (by omega)]
    simp only [Option.bind_some]
    rw [eqHeap_tells _ _ _ _ _ _ _ (by omega) (by omega) (by omega) (by omega)]
    simp only [Option.bind_some]
    have hm := markHeap_tells a b c 1 (k + 2) (by omega) (by omega) (by omega) (by omega) (by omega)
    have hm2 := markHeap_tells (putOM a b c x t).1 (putOM a b c x t).2.1 (putOM a b c x t).2.2.1 1 (k + 1) (by omega) (by omega) (by omega) (by omega) (by omega)
    have hh := heldHeap_tells (putOM a b c x t).1.length (putOM a b c x t).2.1.length (putOM a b c x t).2.2.1.length 1 (k + 1) (by omega) (by omega) (by omega) (by omega) (by omega)
    have hh2 := heldHeap_tells (putOM a b c x t).1.length (putOM a b c x t).2.1.length (putOM a b c x t).2.2.1.length 1 k (by omega) (by omega) (by omega) (by omega) (by omega)
    rw [show ((1 : Nat) : Int) = 1 from rfl] at hm hm2 hh hh2
    rw [if_pos (by simp), laws_FnExactPutRoot.j0, if_neg (by simp), toHeap_tells a b c _ (by omega) (by omega) (by omega) (by omega)]
    simp only [Option.bind_some]
    rw [eqHeap_tells _ _ _ _ _ _ _ (by omega) (by omega) (by omega) (by omega)]
    simp only [Option.bind_some]
    rw [if_pos (by simp), hm]
    simp only [Option.bind_some]
    rw [if_neg (by omega), eqHeap_tells _ _ _ _ _ _ _ (by omega) (by omega) (by omega) (by omega)]
    simp only [Option.bind_some]
    rw [if_pos (by simp), laws_FnExactPutRoot.j1, if_neg (by simp), hm2]
    simp only [Option.bind_some]
    rw [hh]
    simp only [Option.bind_some]
    rw [if_neg (by omega), if_pos (by simp), toHeap_tells a b c _ (by omega) (by omega) (by omega) (by omega)]
    simp only [Option.bind_some]
    rw [implPutO_tells a b c x t _ (by omega)]
    simp only [Option.bind_some]
    rw [eqHeap_tells _ _ _ _ _ _ _ (by omega) (by omega) (by omega) (by omega)]
    simp only [Option.bind_some]
    rw [if_pos (by simp), laws_FnExactPutRoot.j2, if_neg (by simp), hh2]
    simp only [Option.bind_some]
    rw [if_neg (by omega), if_pos (by simp)]
  · rw [if_neg h, if_pos (by omega)]

end Go.Proofs.Ytcofdgeelojebaa.A
