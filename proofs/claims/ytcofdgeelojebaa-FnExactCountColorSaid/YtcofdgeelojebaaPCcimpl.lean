/- Contracts of functions of the given program (PCcimpl). No conditions beyond those stated. -/
import Derived.Test.YtcofdgeelojebaaAImplCountColor
import Derived.Test.YtcofdgeelojebaaPBase
import Derived.Test.YtcofdgeelojebaaPCc
import Derived.Test.YtcofdgeelojebaaPCv
import Derived.Test.YtcofdgeelojebaaPCvimpl
import Derived.Test.YtcofdgeelojebaaA0
namespace Go.Proofs.Ytcofdgeelojebaa.A
open Go.RowKit Go.Proofs.YtcofdgeelojebaaW.PrintWords Go.Proofs.YtcofdgeelojebaaW.PrintLast Go.Proofs.YtcofdgeelojebaaW.PrintMore
attribute [local go_sem] max2_int min2_int max_two min_two max_three min_three max_four min_four   -- for this text's walks alone
set_option linter.unusedVariables false
set_option linter.unusedSimpArgs false

theorem implCC_l0 (x : Int) (e : List Int) (he : e.length ≤ 1048576) : ∀ (d i k m : Nat), i ≤ e.length → e.length - i = d → d < k → m ≤ i →
    impl_CountColor.l0 k x (m : Int) e (e.length : Int) (i : Int) = some (((m + ccnt x (e.drop i) : Nat) : Int)) := by
  intro d
  induction d with
  | zero =>
    intro i k m hi hd hk hm
    obtain ⟨k, rfl⟩ : ∃ m, k = m + 1 := ⟨k - 1, by omega⟩
    rw [impl_CountColor.l0, if_neg (by omega), ccnt_nil _ _ _ (by omega), Nat.add_zero]
  | succ d ih =>
    intro i k m hi hd hk hm
    obtain ⟨k, rfl⟩ : ∃ m, k = m + 1 := ⟨k - 1, by omega⟩
    have hlt : i < e.length := by omega
    rw [impl_CountColor.l0, if_pos (by omega), if_pos (by omega), if_pos (by omega), ccnt_drop x e i hlt, wrap_succ hlt (by omega)]
    by_cases h : rd e (i : Int) = x
    · rw [if_pos h, if_pos h, wrap_succ (n := m) (m := e.length) (by omega) (by omega), ih (i + 1) k (m + 1) (by omega) (by omega) (by omega) (by omega)]
      congr 2; omega
    · rw [if_neg h, if_neg h, ih (i + 1) k m (by omega) (by omega) (by omega) (by omega)]
      congr 2; omega
theorem implCC_tells (a b c e : List Int) (x : Int) (k : Nat) (he : e.length ≤ 1048576) (hk : 1048600 ≤ k) : impl_CountColor.f k a b c e x = some (ccM a b c e x) := by
  unfold impl_CountColor.f ccM
  rw [implCV_tells a b c e k he hk]
  simp only [Option.bind_some]
  by_cases h : cv a b c e = true
  · rw [if_pos h, if_pos h]
    refine Eq.trans (implCC_l0 x e he e.length 0 k 0 (by omega) (by omega) (by omega) (by omega)) ?_
    rw [List.drop_zero, Nat.zero_add]
  · rw [if_neg h, if_neg h]

end Go.Proofs.Ytcofdgeelojebaa.A
