/- Contracts of functions of the given program (PNhimpl). No conditions beyond those stated. -/
import Derived.Test.YtcofdgeelojebaaAImplNewHeap
import Derived.Test.YtcofdgeelojebaaASlicesRepeatIntInt
import Derived.Test.YtcofdgeelojebaaPNewheap
import Derived.Test.YtcofdgeelojebaaA0
namespace Go.Proofs.Ytcofdgeelojebaa.A
open Go.RowKit Go.Proofs.YtcofdgeelojebaaW.PrintWords Go.Proofs.YtcofdgeelojebaaW.PrintLast Go.Proofs.YtcofdgeelojebaaW.PrintMore
attribute [local go_sem] max2_int min2_int max_two min_two max_three min_three max_four min_four   -- for this text's walks alone
set_option linter.unusedVariables false
set_option linter.unusedSimpArgs false

theorem repeat_tells (c : Int) (h1 : 1 ≤ c) (h2 : c ≤ 8) : slices_Repeat_int_int.f [-1] c = some (List.replicate c.toNat (-1)) := by
  unfold slices_Repeat_int_int.f
  rw [if_pos ⟨rfl, h1, h2⟩]
  rfl
theorem implNH_tells (c r : Int) (k : Nat) (hk : 20 ≤ k) : impl_NewHeap.f k c r = some (nhM c r) := by
  unfold impl_NewHeap.f
  obtain ⟨k, rfl⟩ : ∃ m, k = m + 1 := ⟨k - 1, by omega⟩
  have hj : impl_NewHeap.j0 (k + 1) c r true = some ([], [], [], false) := by rw [impl_NewHeap.j0, if_pos rfl]
  have hf : ¬ (1 ≤ c ∧ c ≤ 8 ∧ 1 ≤ r ∧ r ≤ 3) → nhM c r = ([], [], [], false) := fun h => by unfold nhM; rw [if_neg h]
  by_cases h1 : c < 1
  · rw [if_pos h1, hj, hf (by omega)]
  rw [if_neg h1]
  by_cases h2 : c > 8
  · rw [if_pos h2, hj, hf (by omega)]
  rw [if_neg h2]
  by_cases h3 : r < 1
  · rw [if_pos h3, hj, hf (by omega)]
  rw [if_neg h3]
  by_cases h4 : r > 3
  · rw [decide_eq_true h4, hj, hf (by omega)]
  rw [decide_eq_false h4, impl_NewHeap.j0, if_neg (by simp), repeat_tells c (by omega) (by omega), repeat_tells r (by omega) (by omega)]
  unfold nhM
  rw [if_pos (by omega)]
  rfl

end Go.Proofs.Ytcofdgeelojebaa.A
