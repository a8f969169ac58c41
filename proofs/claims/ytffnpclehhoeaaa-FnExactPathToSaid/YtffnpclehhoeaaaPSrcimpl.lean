/- Contracts of functions of the given program (PSrcimpl). No conditions beyond those stated. -/
import Derived.Test.YtffnpclehhoeaaaAImplSourcesOf
import Derived.Test.YtffnpclehhoeaaaPBase
import Derived.Test.YtffnpclehhoeaaaPCellimpl
import Derived.Test.YtffnpclehhoeaaaPHvdef
import Derived.Test.YtffnpclehhoeaaaPSrc
import Derived.Test.YtffnpclehhoeaaaA0
namespace Go.Proofs.Ytffnpclehhoeaaa.A
open Go.RowKit Go.Proofs.YtffnpclehhoeaaaW.PrintWords Go.Proofs.YtffnpclehhoeaaaW.PrintLast Go.Proofs.YtffnpclehhoeaaaW.PrintMore
attribute [local go_sem] max2_int min2_int max_two min_two max_three min_three max_four min_four   -- for this text's walks alone
set_option linter.unusedVariables false
set_option linter.unusedSimpArgs false

theorem implSrc_l0 (a b c : List Int) (x : Int) (ha : a.length ≤ 8) (hb : b.length = a.length) : ∀ (d i k : Nat) (o : List Int), i ≤ a.length → a.length - i = d → d < k → o.length ≤ i →
    impl_SourcesOf.l0 k x o (a.length : Int) (i : Int) a b c = some (o ++ srcFrom a b x i) := by
  intro d
  induction d with
  | zero =>
    intro i k o hi hd hk ho
    obtain ⟨k, rfl⟩ : ∃ m, k = m + 1 := ⟨k - 1, by omega⟩
    rw [impl_SourcesOf.l0, if_neg (by omega), srcFrom_nil _ _ _ _ (by omega), List.append_nil]
  | succ d ih =>
    intro i k o hi hd hk ho
    obtain ⟨k, rfl⟩ : ∃ m, k = m + 1 := ⟨k - 1, by omega⟩
    have hlt : i < a.length := by omega
    rw [impl_SourcesOf.l0, if_pos (by omega), if_pos (by omega), if_pos (by omega), srcFrom_cons a b x i hlt, wrap_succ hlt (by omega)]
    by_cases h1 : rd a (i : Int) = x
    · rw [if_pos h1, if_pos (by omega), if_pos (Or.inl h1), ih (i + 1) k _ (by omega) (by omega) (by omega) (by simp; omega), List.append_assoc]
    · rw [if_neg h1, if_pos (by omega)]
      by_cases h2 : rd b (i : Int) = x
      · rw [if_pos h2, if_pos (by omega), if_pos (Or.inr h2), ih (i + 1) k _ (by omega) (by omega) (by omega) (by simp; omega), List.append_assoc]
      · rw [if_neg h2, if_neg (by simp [h1, h2]), ih (i + 1) k o (by omega) (by omega) (by omega) (by omega), List.nil_append]
theorem implSrc_tells (a b c : List Int) (x : Int) (k : Nat) (hk : 60 ≤ k) : impl_SourcesOf.f k a b c x = some (srcM a b c x) := by
  unfold impl_SourcesOf.f srcM
  rw [has_tells a b c x k hk]
  simp only [Option.bind_some]
  cases h : cellM a b c x with
  | false => rfl
  | true =>
    have hl := hv_len (cellM_iff.1 h).1
    rw [if_pos rfl, if_pos rfl]
    exact implSrc_l0 a b c x (by omega) (by omega) a.length 0 k [] (by omega) (by omega) (by omega) (by simp)

end Go.Proofs.Ytffnpclehhoeaaa.A
