/- Contracts of functions of the given program (PCvspec). No conditions beyond those stated. -/
import Derived.Test.YtcofdgeelojebaaASpecColoredValid
import Derived.Test.YtcofdgeelojebaaPBase
import Derived.Test.YtcofdgeelojebaaPCv
import Derived.Test.YtcofdgeelojebaaPHvdef
import Derived.Test.YtcofdgeelojebaaPHvspec
import Derived.Test.YtcofdgeelojebaaA0
namespace Go.Proofs.Ytcofdgeelojebaa.A
open Go.RowKit Go.Proofs.YtcofdgeelojebaaW.PrintWords Go.Proofs.YtcofdgeelojebaaW.PrintLast Go.Proofs.YtcofdgeelojebaaW.PrintMore
attribute [local go_sem] max2_int min2_int max_two min_two max_three min_three max_four min_four   -- for this text's walks alone
set_option linter.unusedVariables false
set_option linter.unusedSimpArgs false

theorem specCV_l0 (a b c e : List Int) (hl : e.length ≤ 9223372036854775807) : ∀ (d i k : Nat), i ≤ e.length → e.length - i = d → d < k →
    spec_ColoredValid.l0 k (i : Int) a b c e = some ((e.drop i).all okc) := by
  intro d
  induction d with
  | zero =>
    intro i k hi hd hk
    obtain ⟨k, rfl⟩ : ∃ m, k = m + 1 := ⟨k - 1, by omega⟩
    rw [spec_ColoredValid.l0, if_neg (by omega), all_drop_nil _ _ _ (by omega)]
  | succ d ih =>
    intro i k hi hd hk
    obtain ⟨k, rfl⟩ : ∃ m, k = m + 1 := ⟨k - 1, by omega⟩
    have hlt : i < e.length := by omega
    rw [spec_ColoredValid.l0, if_pos (by omega), if_pos (by omega), all_drop_cons _ _ _ hlt, wrap_succ hlt hl]
    by_cases h1 : rd e (i : Int) < 0
    · have : okc (rd e (i : Int)) = false := by unfold okc; exact decide_eq_false (by omega)
      rw [if_pos h1, this, Bool.false_and]
    · rw [if_neg h1]
      by_cases h2 : rd e (i : Int) > 2
      · have : okc (rd e (i : Int)) = false := by unfold okc; exact decide_eq_false (by omega)
        rw [if_pos h2, this, Bool.false_and]
      · have : okc (rd e (i : Int)) = true := by unfold okc; exact decide_eq_true (by omega)
        rw [if_neg h2, this, Bool.true_and]
        exact ih (i + 1) k (by omega) (by omega) (by omega)
theorem specCV_tells (a b c e : List Int) (k : Nat) (he : e.length ≤ 1048576) (hk : 1048600 ≤ k) : spec_ColoredValid.f k a b c e = some (cv a b c e) := by
  unfold spec_ColoredValid.f
  rw [specHV_tells a b c k (by omega)]
  simp only [Option.bind_some]
  obtain ⟨k, rfl⟩ : ∃ m, k = m + 1 := ⟨k - 1, by omega⟩
  have hj : spec_ColoredValid.j0 (k + 1) true a b c e = some false := by rw [spec_ColoredValid.j0, if_pos rfl]
  unfold cv
  cases h : hv a b c with
  | false => rw [if_neg (by simp), hj, Bool.false_and]
  | true =>
    rw [if_pos rfl, Bool.true_and]
    by_cases h2 : e.length = a.length
    · have : ((e.length : Int) != (a.length : Int)) = false := by simp [h2]
      rw [this, spec_ColoredValid.j0, if_neg (by simp), decide_eq_true h2, Bool.and_true]
      exact specCV_l0 a b c e (by omega) e.length 0 k (by omega) (by omega) (by omega)
    · have : ((e.length : Int) != (a.length : Int)) = true := by simp; omega
      rw [this, hj, decide_eq_false h2, Bool.and_false]

end Go.Proofs.Ytcofdgeelojebaa.A
