/- Contracts of functions of the given program (PCvimpl). No conditions beyond those stated. -/
import Derived.Test.YtcofdgeelojebaaAImplColoredValid
import Derived.Test.YtcofdgeelojebaaAImplColorsOk
import Derived.Test.YtcofdgeelojebaaPBase
import Derived.Test.YtcofdgeelojebaaPCv
import Derived.Test.YtcofdgeelojebaaPHvdef
import Derived.Test.YtcofdgeelojebaaPHvimpl
import Derived.Test.YtcofdgeelojebaaA0
namespace Go.Proofs.Ytcofdgeelojebaa.A
open Go.RowKit Go.Proofs.YtcofdgeelojebaaW.PrintWords Go.Proofs.YtcofdgeelojebaaW.PrintLast Go.Proofs.YtcofdgeelojebaaW.PrintMore
attribute [local go_sem] max2_int min2_int max_two min_two max_three min_three max_four min_four   -- for this text's walks alone
set_option linter.unusedVariables false
set_option linter.unusedSimpArgs false

theorem colorsOk_l0 (x e : List Int) (n : Int) (hl : e.length ≤ 9223372036854775807) : ∀ (d i k : Nat), i ≤ e.length → e.length - i = d → d < k →
    impl_colorsOk.l0 k x n e (e.length : Int) (i : Int) = some ((e.drop i).all okc && ((x.length : Int) == n)) := by
  intro d
  induction d with
  | zero =>
    intro i k hi hd hk
    obtain ⟨k, rfl⟩ : ∃ m, k = m + 1 := ⟨k - 1, by omega⟩
    rw [impl_colorsOk.l0, if_neg (by omega), all_drop_nil _ _ _ (by omega), Bool.true_and]
  | succ d ih =>
    intro i k hi hd hk
    obtain ⟨k, rfl⟩ : ∃ m, k = m + 1 := ⟨k - 1, by omega⟩
    have hlt : i < e.length := by omega
    rw [impl_colorsOk.l0, if_pos (by omega), if_pos (by omega), if_pos (by omega), all_drop_cons _ _ _ hlt, wrap_succ hlt hl]
    by_cases h1 : rd e (i : Int) < 0
    · have : okc (rd e (i : Int)) = false := by unfold okc; exact decide_eq_false (by omega)
      rw [if_pos h1, this, Bool.false_and, Bool.false_and]
    · rw [if_neg h1]
      by_cases h2 : rd e (i : Int) > 2
      · have : okc (rd e (i : Int)) = false := by unfold okc; exact decide_eq_false (by omega)
        rw [if_pos h2, this, Bool.false_and, Bool.false_and]
      · have : okc (rd e (i : Int)) = true := by unfold okc; exact decide_eq_true (by omega)
        rw [if_neg h2, this, Bool.true_and]
        exact ih (i + 1) k (by omega) (by omega) (by omega)
theorem colorsOk_tells (e : List Int) (n : Nat) (k : Nat) (he : e.length ≤ 1048576) (hk : 1048600 ≤ k) : impl_colorsOk.f k e (n : Int) = some (e.all okc && decide (e.length = n)) := by
  unfold impl_colorsOk.f
  refine Eq.trans (colorsOk_l0 e e n (by omega) e.length 0 k (by omega) (by omega) (by omega)) ?_
  rw [List.drop_zero]
  congr 2
  rw [Bool.eq_iff_iff]; simp; omega
theorem implCV_tells (a b c e : List Int) (k : Nat) (he : e.length ≤ 1048576) (hk : 1048600 ≤ k) : impl_ColoredValid.f k a b c e = some (cv a b c e) := by
  unfold impl_ColoredValid.f cv
  rw [implHV_tells a b c k (by omega)]
  simp only [Option.bind_some]
  cases h : hv a b c with
  | false => rw [if_neg (by simp), Bool.false_and]
  | true => rw [if_pos rfl, Bool.true_and, colorsOk_tells e a.length k he hk]; rfl

end Go.Proofs.Ytcofdgeelojebaa.A
