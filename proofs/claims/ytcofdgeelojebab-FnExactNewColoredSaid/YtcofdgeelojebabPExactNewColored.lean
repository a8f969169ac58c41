/- Contracts of functions of the given program (PExactNewColored). No conditions beyond those stated. -/
import Derived.Test.YtcofdgeelojebabCLawsFnExactNewColored
import Derived.Test.YtcofdgeelojebabPMarkcol
import Derived.Test.YtcofdgeelojebabPMarkheap
import Derived.Test.YtcofdgeelojebabPNc
import Derived.Test.YtcofdgeelojebabPNcimpl
import Derived.Test.YtcofdgeelojebabPNcspec
import Derived.Test.YtcofdgeelojebabPSameEqColored
import Derived.Test.YtcofdgeelojebabPSameEqHeap
import Derived.Test.YtcofdgeelojebabPSz
import Derived.Test.YtcofdgeelojebabPTo
import Derived.Test.YtcofdgeelojebabA0
namespace Go.Proofs.Ytcofdgeelojebab.A
open Go.RowKit Go.Proofs.YtcofdgeelojebabW.PrintWords Go.Proofs.YtcofdgeelojebabW.PrintLast Go.Proofs.YtcofdgeelojebabW.PrintMore
attribute [local go_sem] max2_int min2_int max_two min_two max_three min_three max_four min_four   -- for this text's walks alone
set_option linter.unusedVariables false
set_option linter.unusedSimpArgs false

theorem pure_FnExactNewColored (a b c : List Int) (ha : a.length ≤ 9223372036854775807) (hb : b.length ≤ 9223372036854775807) (hc : c.length ≤ 9223372036854775807) : ∃ k, laws_FnExactNewColored.f k a b c = some true := by
  refine ⟨1048600, ?_⟩
  obtain ⟨k, hk⟩ : ∃ k : Nat, k = 1048597 := ⟨_, rfl⟩
  rw [show 1048600 = k + 3 from by omega]
  unfold laws_FnExactNewColored.f
  rw [szHeap_tells a b c 1048576 (by omega) (by omega) ha hb hc]
  simp only [Option.bind_some]
  by_cases h : (a.length : Int) + b.length + c.length ≤ 1048576
  · have hl := ncM_lens a b c
    rw [if_pos h, if_neg (by omega), toHeap_tells a b c _ (by omega) (by omega) (by omega) (by omega)]
    simp only [Option.bind_some]
    rw [specNC_tells a b c _ (by omega), implNC_tells a b c _ (by omega)]
    simp only [Option.bind_some]
    rw [eqColored_tells _ _ _ _ _ _ _ _ _ (by omega) (by omega) (by omega) (by omega) (by omega)]
    simp only [Option.bind_some]
    have hm := markHeap_tells a b c 1 (k + 2) (by omega) (by omega) (by omega) (by omega) (by omega)
    have hm2 := markColored_tells (ncM a b c).1 (ncM a b c).2.1 (ncM a b c).2.2.1 (ncM a b c).2.2.2.1 1 (k + 1) (by omega) (by omega) (by omega) (by omega) (by omega) (by omega)
    have hh := heldColored_tells (ncM a b c).1.length (ncM a b c).2.1.length (ncM a b c).2.2.1.length (ncM a b c).2.2.2.1.length 1 (k + 1) (by omega) (by omega) (by omega) (by omega) (by omega) (by omega)
    have hh2 := heldColored_tells (ncM a b c).1.length (ncM a b c).2.1.length (ncM a b c).2.2.1.length (ncM a b c).2.2.2.1.length 1 k (by omega) (by omega) (by omega) (by omega) (by omega) (by omega)
    rw [show ((1 : Nat) : Int) = 1 from rfl] at hm hm2 hh hh2
    rw [if_pos (by simp), laws_FnExactNewColored.j0, if_neg (by simp), toHeap_tells a b c _ (by omega) (by omega) (by omega) (by omega)]
    simp only [Option.bind_some]
    rw [eqHeap_tells _ _ _ _ _ _ _ (by omega) (by omega) (by omega) (by omega)]
    simp only [Option.bind_some]
    rw [if_pos (by simp), hm]
    simp only [Option.bind_some]
    rw [if_neg (by omega), eqColored_tells _ _ _ _ _ _ _ _ _ (by omega) (by omega) (by omega) (by omega) (by omega)]
    simp only [Option.bind_some]
    rw [if_pos (by simp), laws_FnExactNewColored.j1, if_neg (by simp), hm2]
    simp only [Option.bind_some]
    rw [hh]
    simp only [Option.bind_some]
    rw [if_neg (by omega), if_pos (by simp), toHeap_tells a b c _ (by omega) (by omega) (by omega) (by omega)]
    simp only [Option.bind_some]
    rw [implNC_tells a b c _ (by omega)]
    simp only [Option.bind_some]
    rw [eqColored_tells _ _ _ _ _ _ _ _ _ (by omega) (by omega) (by omega) (by omega) (by omega)]
    simp only [Option.bind_some]
    rw [if_pos (by simp), laws_FnExactNewColored.j2, if_neg (by simp), hh2]
    simp only [Option.bind_some]
    rw [if_neg (by omega), if_pos (by simp)]
  · rw [if_neg h, if_pos (by omega)]

end Go.Proofs.Ytcofdgeelojebab.A
