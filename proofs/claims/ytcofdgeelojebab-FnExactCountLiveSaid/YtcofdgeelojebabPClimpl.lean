/- Contracts of functions of the given program (PClimpl). No conditions beyond those stated. -/
import Derived.Test.YtcofdgeelojebabAImplCountLive
import Derived.Test.YtcofdgeelojebabPBase
import Derived.Test.YtcofdgeelojebabPReach
import Derived.Test.YtcofdgeelojebabPReachimpl
import Derived.Test.YtcofdgeelojebabA0
namespace Go.Proofs.Ytcofdgeelojebab.A
open Go.RowKit Go.Proofs.YtcofdgeelojebabW.PrintWords Go.Proofs.YtcofdgeelojebabW.PrintLast Go.Proofs.YtcofdgeelojebabW.PrintMore
attribute [local go_sem] max2_int min2_int max_two min_two max_three min_three max_four min_four   -- for this text's walks alone
set_option linter.unusedVariables false
set_option linter.unusedSimpArgs false

theorem implCL_l0 (l : List Bool) (hl : l.length ≤ 1000) : ∀ (d i k m : Nat), i ≤ l.length → l.length - i = d → d < k → m ≤ i →
    impl_CountLive.l0 k (m : Int) l (l.length : Int) (i : Int) = some (((m + trues (l.drop i) : Nat) : Int)) := by
  intro d
  induction d with
  | zero =>
    intro i k m hi hd hk hm
    obtain ⟨k, rfl⟩ : ∃ m, k = m + 1 := ⟨k - 1, by omega⟩
    rw [impl_CountLive.l0, if_neg (by omega), trues_nil _ _ (by omega), Nat.add_zero]
  | succ d ih =>
    intro i k m hi hd hk hm
    obtain ⟨k, rfl⟩ : ∃ m, k = m + 1 := ⟨k - 1, by omega⟩
    have hlt : i < l.length := by omega
    rw [impl_CountLive.l0, if_pos (by omega), if_pos (by omega), if_pos (by omega), trues_drop l i hlt, wrap_succ hlt (by omega)]
    by_cases h : rdOf false l (i : Int) = true
    · rw [if_pos h, if_pos h, wrap_succ (n := m) (m := l.length) (by omega) (by omega), ih (i + 1) k (m + 1) (by omega) (by omega) (by omega) (by omega)]
      congr 2; omega
    · rw [if_neg h, if_neg h, ih (i + 1) k m (by omega) (by omega) (by omega) (by omega)]
      congr 2; omega
theorem implCL_tells (a b c : List Int) (k : Nat) (hk : 60 ≤ k) : impl_CountLive.f k a b c = some (clM a b c) := by
  unfold impl_CountLive.f clM
  rw [implRE_tells a b c k hk]
  simp only [Option.bind_some]
  have := reachM_len a b c
  refine Eq.trans (implCL_l0 (reachM a b c) (by omega) (reachM a b c).length 0 k 0 (by omega) (by omega) (by omega) (by omega)) ?_
  rw [List.drop_zero, Nat.zero_add]

end Go.Proofs.Ytcofdgeelojebab.A
