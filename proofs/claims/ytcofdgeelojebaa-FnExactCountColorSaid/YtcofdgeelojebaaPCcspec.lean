/- Contracts of functions of the given program (PCcspec). No conditions beyond those stated. -/
import Derived.Test.YtcofdgeelojebaaASpecCountColor
import Derived.Test.YtcofdgeelojebaaPBase
import Derived.Test.YtcofdgeelojebaaPCc
import Derived.Test.YtcofdgeelojebaaPCv
import Derived.Test.YtcofdgeelojebaaPCvspec
import Derived.Test.YtcofdgeelojebaaPHvdef
import Derived.Test.YtcofdgeelojebaaA0
namespace Go.Proofs.Ytcofdgeelojebaa.A
open Go.RowKit Go.Proofs.YtcofdgeelojebaaW.PrintWords Go.Proofs.YtcofdgeelojebaaW.PrintLast Go.Proofs.YtcofdgeelojebaaW.PrintMore
attribute [local go_sem] max2_int min2_int max_two min_two max_three min_three max_four min_four   -- for this text's walks alone
set_option linter.unusedVariables false
set_option linter.unusedSimpArgs false

theorem specCC_l0 (a b c e : List Int) (x : Int) (he : e.length ≤ 1048576) (hv : cv a b c e = true) : ∀ (d i k m : Nat), i ≤ e.length → e.length - i = d → 1048602 + 2 * d < k → m ≤ i →
    spec_CountColor.l0 k x (m : Int) (i : Int) a b c e = some (((m + ccnt x (e.drop i) : Nat) : Int)) := by
  intro d
  induction d with
  | zero =>
    intro i k m hi hd hk hm
    obtain ⟨k, rfl⟩ : ∃ m, k = m + 2 := ⟨k - 2, by omega⟩
    rw [spec_CountColor.l0, if_neg (by omega), spec_CountColor.j1, if_neg (by simp), ccnt_nil _ _ _ (by omega), Nat.add_zero]
  | succ d ih =>
    intro i k m hi hd hk hm
    obtain ⟨k, rfl⟩ : ∃ m, k = m + 2 := ⟨k - 2, by omega⟩
    have hlt : i < e.length := by omega
    rw [spec_CountColor.l0, if_pos (by omega), specCV_tells a b c e _ he (by omega)]
    simp only [Option.bind_some]
    rw [spec_CountColor.j1, if_pos hv, if_pos (by omega), if_pos (by omega), ccnt_drop x e i hlt, wrap_succ hlt (by omega)]
    by_cases h : rd e (i : Int) = x
    · rw [if_pos h, if_pos h, wrap_succ (n := m) (m := e.length) (by omega) (by omega), ih (i + 1) k (m + 1) (by omega) (by omega) (by omega) (by omega)]
      congr 2; omega
    · rw [if_neg h, if_neg h, ih (i + 1) k m (by omega) (by omega) (by omega) (by omega)]
      congr 2; omega
theorem specCC_tells (a b c e : List Int) (x : Int) (k : Nat) (he : e.length ≤ 1048576) (hk : 3145800 ≤ k) : spec_CountColor.f k a b c e x = some (ccM a b c e x) := by
  unfold spec_CountColor.f ccM
  by_cases h : cv a b c e = true
  · rw [if_pos h]
    refine Eq.trans (specCC_l0 a b c e x he h e.length 0 k 0 (by omega) (by omega) (by omega) (by omega)) ?_
    rw [List.drop_zero, Nat.zero_add]
  · rw [if_neg h]
    obtain ⟨k, rfl⟩ : ∃ m, k = m + 2 := ⟨k - 2, by omega⟩
    rw [spec_CountColor.l0]
    by_cases h1 : (0 : Int) < (e.length : Int)
    · rw [if_pos h1, specCV_tells a b c e _ he (by omega)]
      simp only [Option.bind_some]
      rw [spec_CountColor.j1, if_neg h]
    · rw [if_neg h1, spec_CountColor.j1, if_neg (by simp)]

end Go.Proofs.Ytcofdgeelojebaa.A
