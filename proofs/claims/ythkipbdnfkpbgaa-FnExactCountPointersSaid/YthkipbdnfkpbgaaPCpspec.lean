/- Contracts of functions of the given program (PCpspec). No conditions beyond those stated. -/
import Derived.Test.YthkipbdnfkpbgaaASpecCountPointers
import Derived.Test.YthkipbdnfkpbgaaPBase
import Derived.Test.YthkipbdnfkpbgaaPCp
import Derived.Test.YthkipbdnfkpbgaaPHvdef
import Derived.Test.YthkipbdnfkpbgaaPHvspec
import Derived.Test.YthkipbdnfkpbgaaA0
namespace Go.Proofs.Ythkipbdnfkpbgaa.A
open Go.RowKit Go.Proofs.YthkipbdnfkpbgaaW.PrintWords Go.Proofs.YthkipbdnfkpbgaaW.PrintLast Go.Proofs.YthkipbdnfkpbgaaW.PrintMore
attribute [local go_sem] max2_int min2_int max_two min_two max_three min_three max_four min_four   -- for this text's walks alone
set_option linter.unusedVariables false
set_option linter.unusedSimpArgs false

theorem specCP_l0 (l : List Int) (hl : l.length ≤ 1000) : ∀ (d i k m : Nat), i ≤ l.length → l.length - i = d → d < k → m ≤ i →
    spec_CountPointers.l0 k (m : Int) l (i : Int) = some (((m + cnt (l.drop i) : Nat) : Int)) := by
  intro d
  induction d with
  | zero =>
    intro i k m hi hd hk hm
    obtain ⟨k, rfl⟩ : ∃ m, k = m + 1 := ⟨k - 1, by omega⟩
    rw [spec_CountPointers.l0, if_neg (by omega), cnt_nil _ _ (by omega), Nat.add_zero]
  | succ d ih =>
    intro i k m hi hd hk hm
    obtain ⟨k, rfl⟩ : ∃ m, k = m + 1 := ⟨k - 1, by omega⟩
    have hlt : i < l.length := by omega
    rw [spec_CountPointers.l0, if_pos (by omega), if_pos (by omega), cnt_drop l i hlt, wrap_succ hlt (by omega)]
    by_cases h : rd l (i : Int) = -1
    · rw [if_pos h, if_pos h]; exact ih (i + 1) k m (by omega) (by omega) (by omega) (by omega)
    · rw [if_neg h, if_neg h, wrap_succ (n := m) (m := l.length) (by omega) (by omega), ih (i + 1) k (m + 1) (by omega) (by omega) (by omega) (by omega)]
      congr 2; omega
theorem specCP_tells (a b c : List Int) (k : Nat) (hk : 100 ≤ k) : spec_CountPointers.f k a b c = some (cpM a b c) := by
  unfold spec_CountPointers.f cpM
  rw [specHV_tells a b c k (by omega)]
  simp only [Option.bind_some]
  cases h : hv a b c with
  | false => rfl
  | true =>
    have hl := hv_len h
    rw [if_pos rfl, if_pos rfl, if_pos (by simp; omega), if_pos (by simp; omega), if_pos (by simp; omega)]
    simp only [List.nil_append]
    refine Eq.trans (specCP_l0 (a ++ b ++ c) (by simp; omega) (a ++ b ++ c).length 0 k 0 (by omega) (by omega) (by simp; omega) (by omega)) ?_
    rw [List.drop_zero, Nat.zero_add]

end Go.Proofs.Ythkipbdnfkpbgaa.A
