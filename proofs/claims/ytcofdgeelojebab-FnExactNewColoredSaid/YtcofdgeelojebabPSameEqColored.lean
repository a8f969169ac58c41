/- Contracts of functions of the given program (PSameEqColored). No conditions beyond those stated. -/
import Derived.Test.YtcofdgeelojebabALawsEqColored
import Derived.Test.YtcofdgeelojebabPEqEqIntS
import Derived.Test.YtcofdgeelojebabPSameEqHeap
import Derived.Test.YtcofdgeelojebabA0
namespace Go.Proofs.Ytcofdgeelojebab.A
open Go.RowKit Go.Proofs.YtcofdgeelojebabW.PrintWords Go.Proofs.YtcofdgeelojebabW.PrintLast Go.Proofs.YtcofdgeelojebabW.PrintMore
attribute [local go_sem] max2_int min2_int max_two min_two max_three min_three max_four min_four   -- for this text's walks alone
set_option linter.unusedVariables false
set_option linter.unusedSimpArgs false

theorem eqColored_tells (a b c e a' b' c' e' : List Int) (k : Nat) (ha : a.length ≤ 1048576) (hb : b.length ≤ 1048576) (hc : c.length ≤ 1048576) (he : e.length ≤ 1048576) (hk : 1048577 ≤ k) :
    laws_eqColored.f k a b c e a' b' c' e' = some (decide (a = a' ∧ b = b' ∧ c = c' ∧ e = e')) := by
  unfold laws_eqColored.f
  rw [eqHeap_tells a b c a' b' c' k ha hb hc hk]
  simp only [Option.bind_some, decide_eq_true_eq]
  by_cases h1 : a = a' ∧ b = b' ∧ c = c'
  · rw [if_pos h1, eqIntS_tells e e' k (by omega) (by omega)]
    obtain ⟨rfl, rfl, rfl⟩ := h1
    by_cases h3 : e = e' <;> simp [h3]
  · rw [if_neg h1]
    simp only [Option.some.injEq]
    exact (decide_eq_false (fun h => h1 ⟨h.1, h.2.1, h.2.2.1⟩)).symm

end Go.Proofs.Ytcofdgeelojebab.A
