/- Contracts of functions of the given program (PNhspec). No conditions beyond those stated. -/
import Derived.Test.YtcofdgeelojebaaASpecL1Many
import Derived.Test.YtcofdgeelojebaaASpecNewHeap
import Derived.Test.YtcofdgeelojebaaPBase
import Derived.Test.YtcofdgeelojebaaPNewheap
import Derived.Test.YtcofdgeelojebaaA0
namespace Go.Proofs.Ytcofdgeelojebaa.A
open Go.RowKit Go.Proofs.YtcofdgeelojebaaW.PrintWords Go.Proofs.YtcofdgeelojebaaW.PrintLast Go.Proofs.YtcofdgeelojebaaW.PrintMore
attribute [local go_sem] max2_int min2_int max_two min_two max_three min_three max_four min_four   -- for this text's walks alone
set_option linter.unusedVariables false
set_option linter.unusedSimpArgs false

theorem many_l0 (n : Nat) (hn : n ≤ 1000) : ∀ (d i k : Nat), i ≤ n → n - i = d → d < k → spec_l1Many.l0 k (n : Int) (List.replicate i (-1)) (i : Int) = some (List.replicate n (-1)) := by
  intro d
  induction d with
  | zero =>
    intro i k hi hd hk
    obtain ⟨k, rfl⟩ : ∃ m, k = m + 1 := ⟨k - 1, by omega⟩
    obtain rfl : i = n := by omega
    rw [spec_l1Many.l0, if_neg (by omega)]
  | succ d ih =>
    intro i k hi hd hk
    obtain ⟨k, rfl⟩ : ∃ m, k = m + 1 := ⟨k - 1, by omega⟩
    rw [spec_l1Many.l0, if_pos (by omega), if_pos (by simp; omega), wrap_succ (m := n) (by omega) (by omega), ← List.replicate_succ']
    exact ih (i + 1) k (by omega) (by omega) (by omega)
theorem many_tells (n k : Nat) (hn : n ≤ 1000) (hk : n < k) : spec_l1Many.f k (n : Int) = some (List.replicate n (-1)) := by
  unfold spec_l1Many.f
  exact many_l0 n hn n 0 k (by omega) (by omega) hk
theorem specNH_tells (c r : Int) (k : Nat) (hk : 20 ≤ k) : spec_NewHeap.f k c r = some (nhM c r) := by
  unfold spec_NewHeap.f
  obtain ⟨k, rfl⟩ : ∃ m, k = m + 1 := ⟨k - 1, by omega⟩
  have hj : spec_NewHeap.j0 (k + 1) c r true = some ([], [], [], false) := by rw [spec_NewHeap.j0, if_pos rfl]
  have hf : ¬ (1 ≤ c ∧ c ≤ 8 ∧ 1 ≤ r ∧ r ≤ 3) → nhM c r = ([], [], [], false) := fun h => by unfold nhM; rw [if_neg h]
  by_cases h1 : c < 1
  · rw [if_pos h1, hj, hf (by omega)]
  rw [if_neg h1]
  by_cases h2 : c > 8
  · rw [if_pos h2, hj, hf (by omega)]
  rw [if_neg h2]
  by_cases h3 : r < 1
  · rw [if_pos h3, hj, hf (by omega)]
  rw [if_neg h3]
  by_cases h4 : r > 3
  · rw [decide_eq_true h4, hj, hf (by omega)]
  obtain ⟨c, rfl⟩ : ∃ n : Nat, c = (n : Int) := ⟨c.toNat, by omega⟩
  obtain ⟨r, rfl⟩ : ∃ n : Nat, r = (n : Int) := ⟨r.toNat, by omega⟩
  rw [decide_eq_false h4, spec_NewHeap.j0, if_neg (by simp), many_tells c k (by omega) (by omega), many_tells r k (by omega) (by omega)]
  unfold nhM
  rw [if_pos (by omega)]
  rfl

end Go.Proofs.Ytcofdgeelojebaa.A
