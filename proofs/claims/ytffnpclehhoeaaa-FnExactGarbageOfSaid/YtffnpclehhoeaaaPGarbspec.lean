/- Contracts of functions of the given program (PGarbspec). No conditions beyond those stated. -/
import Derived.Test.YtffnpclehhoeaaaASpecGarbageOf
import Derived.Test.YtffnpclehhoeaaaPBase
import Derived.Test.YtffnpclehhoeaaaPGarb
import Derived.Test.YtffnpclehhoeaaaPReach
import Derived.Test.YtffnpclehhoeaaaPReachspec
import Derived.Test.YtffnpclehhoeaaaA0
namespace Go.Proofs.Ytffnpclehhoeaaa.A
open Go.RowKit Go.Proofs.YtffnpclehhoeaaaW.PrintWords Go.Proofs.YtffnpclehhoeaaaW.PrintLast Go.Proofs.YtffnpclehhoeaaaW.PrintMore
attribute [local go_sem] max2_int min2_int max_two min_two max_three min_three max_four min_four   -- for this text's walks alone
set_option linter.unusedVariables false
set_option linter.unusedSimpArgs false

theorem specGA_l0 (r : List Bool) (hl : r.length ≤ 1000) : ∀ (d i k : Nat) (o : List Int), i ≤ r.length → r.length - i = d → d < k → o.length ≤ i →
    spec_GarbageOf.l0 k o r (i : Int) = some (o ++ gFrom r i) := by
  intro d
  induction d with
  | zero =>
    intro i k o hi hd hk ho
    obtain ⟨k, rfl⟩ : ∃ m, k = m + 1 := ⟨k - 1, by omega⟩
    rw [spec_GarbageOf.l0, if_neg (by omega), gFrom_nil _ _ (by omega), List.append_nil]
  | succ d ih =>
    intro i k o hi hd hk ho
    obtain ⟨k, rfl⟩ : ∃ m, k = m + 1 := ⟨k - 1, by omega⟩
    have hlt : i < r.length := by omega
    rw [spec_GarbageOf.l0, if_pos (by omega), if_pos (by omega), gFrom_cons r i hlt, wrap_succ hlt (by omega)]
    by_cases h : rdOf false r (i : Int) = true
    · rw [if_pos h, if_pos h, ih (i + 1) k o (by omega) (by omega) (by omega) (by omega), List.nil_append]
    · rw [if_neg h, if_neg h, if_pos (by omega), ih (i + 1) k _ (by omega) (by omega) (by omega) (by simp; omega), List.append_assoc]
theorem specGA_tells (a b c : List Int) (k : Nat) (hk : 2000 ≤ k) : spec_GarbageOf.f k a b c = some (garbM a b c) := by
  unfold spec_GarbageOf.f garbM
  rw [specRE_tells a b c k (by omega)]
  simp only [Option.bind_some]
  have := reachM_len a b c
  refine Eq.trans (specGA_l0 (reachM a b c) (by omega) (reachM a b c).length 0 k [] (by omega) (by omega) (by omega) (by simp)) ?_
  rw [List.nil_append]

end Go.Proofs.Ytffnpclehhoeaaa.A
