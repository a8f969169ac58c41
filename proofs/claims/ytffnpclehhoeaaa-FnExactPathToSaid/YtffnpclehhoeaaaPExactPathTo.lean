/- Contracts of functions of the given program (PExactPathTo). No conditions beyond those stated. -/
import Derived.Test.YtffnpclehhoeaaaCLawsFnExactPathTo
import Derived.Test.YtffnpclehhoeaaaPEqEqIntS
import Derived.Test.YtffnpclehhoeaaaPMark
import Derived.Test.YtffnpclehhoeaaaPMarkheap
import Derived.Test.YtffnpclehhoeaaaPPath
import Derived.Test.YtffnpclehhoeaaaPPathimpl
import Derived.Test.YtffnpclehhoeaaaPPathspec
import Derived.Test.YtffnpclehhoeaaaPSameEqHeap
import Derived.Test.YtffnpclehhoeaaaPSz
import Derived.Test.YtffnpclehhoeaaaPTo
import Derived.Test.YtffnpclehhoeaaaA0
namespace Go.Proofs.Ytffnpclehhoeaaa.A
open Go.RowKit Go.Proofs.YtffnpclehhoeaaaW.PrintWords Go.Proofs.YtffnpclehhoeaaaW.PrintLast Go.Proofs.YtffnpclehhoeaaaW.PrintMore
attribute [local go_sem] max2_int min2_int max_two min_two max_three min_three max_four min_four   -- for this text's walks alone
set_option linter.unusedVariables false
set_option linter.unusedSimpArgs false

theorem pure_FnExactPathTo (a b c : List Int) (x : Int) (ha : a.length ≤ 9223372036854775807) (hb : b.length ≤ 9223372036854775807) (hc : c.length ≤ 9223372036854775807) (_hx : -9223372036854775808 ≤ x ∧ x ≤ 9223372036854775807) : ∃ k, laws_FnExactPathTo.f k a b c x = some true := by
  refine ⟨1048600, ?_⟩
  obtain ⟨k, hk⟩ : ∃ k : Nat, k = 1048597 := ⟨_, rfl⟩
  rw [show 1048600 = k + 3 from by omega]
  unfold laws_FnExactPathTo.f
  rw [szHeap_tells a b c 1048576 (by omega) (by omega) ha hb hc]
  simp only [Option.bind_some]
  by_cases h : (a.length : Int) + b.length + c.length ≤ 1048576
  · have hl := pathM_len a b c x
    rw [if_pos h, if_neg (by omega), toHeap_tells a b c _ (by omega) (by omega) (by omega) (by omega)]
    simp only [Option.bind_some]
    rw [specPA_tells a b c x _ (by omega), implPA_tells a b c x _ (by omega)]
    simp only [Option.bind_some]
    rw [eqIntS_tells _ _ _ (by omega) (by omega)]
    simp only [Option.bind_some]
    have hm := markHeap_tells a b c 1 (k + 2) (by omega) (by omega) (by omega) (by omega) (by omega)
    have hm2 := markIntS_tells (pathM a b c x).1 1 (k + 1) (by omega) (by omega)
    have hh := heldIntS_tells 1 (pathM a b c x).1.length (k + 1) (by omega) (by omega)
    have hh2 := heldIntS_tells 1 (pathM a b c x).1.length k (by omega) (by omega)
    rw [show ((1 : Nat) : Int) = 1 from rfl] at hm hm2 hh hh2
    rw [if_pos (by simp), laws_FnExactPathTo.j0, if_neg (by simp), toHeap_tells a b c _ (by omega) (by omega) (by omega) (by omega)]
    simp only [Option.bind_some]
    rw [eqHeap_tells _ _ _ _ _ _ _ (by omega) (by omega) (by omega) (by omega)]
    simp only [Option.bind_some]
    rw [if_pos (by simp), hm]
    simp only [Option.bind_some]
    rw [if_neg (by omega), eqIntS_tells _ _ _ (by omega) (by omega)]
    simp only [Option.bind_some]
    rw [if_pos (by simp), laws_FnExactPathTo.j1, if_neg (by simp), hm2]
    simp only [Option.bind_some]
    rw [hh]
    simp only [Option.bind_some]
    rw [if_neg (by omega), if_pos (by simp), toHeap_tells a b c _ (by omega) (by omega) (by omega) (by omega)]
    simp only [Option.bind_some]
    rw [implPA_tells a b c x _ (by omega)]
    simp only [Option.bind_some]
    rw [eqIntS_tells _ _ _ (by omega) (by omega)]
    simp only [Option.bind_some]
    rw [if_pos (by simp), laws_FnExactPathTo.j2, if_neg (by simp), hh2]
    simp only [Option.bind_some]
    rw [if_neg (by omega), if_pos (by simp)]
  · rw [if_neg h, if_pos (by omega)]

end Go.Proofs.Ytffnpclehhoeaaa.A
