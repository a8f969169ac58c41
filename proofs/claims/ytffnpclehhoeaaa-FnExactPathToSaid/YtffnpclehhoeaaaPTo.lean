/- Contracts of functions of the given program (PTo). No conditions beyond those stated. -/
import Derived.Test.YtffnpclehhoeaaaALawsToHeap
import Derived.Test.YtffnpclehhoeaaaALawsToIntS
import Derived.Test.YtffnpclehhoeaaaPBase
import Derived.Test.YtffnpclehhoeaaaA0
namespace Go.Proofs.Ytffnpclehhoeaaa.A
open Go.RowKit Go.Proofs.YtffnpclehhoeaaaW.PrintWords Go.Proofs.YtffnpclehhoeaaaW.PrintLast Go.Proofs.YtffnpclehhoeaaaW.PrintMore
attribute [local go_sem] max2_int min2_int max_two min_two max_three min_three max_four min_four   -- for this text's walks alone
set_option linter.unusedVariables false
set_option linter.unusedSimpArgs false

theorem toIntS_l0 (l : List Int) (hl : l.length ≤ 9223372036854775807) : ∀ (d n k : Nat) (x : List Int), n ≤ l.length → l.length - n = d → d < k → x.length = l.length → x.take n = l.take n →
    laws_toIntS.l0 k l x (n : Int) = some l := by
  intro d
  induction d with
  | zero =>
    intro k' k x hn hd hk hx he
    obtain ⟨k, rfl⟩ : ∃ m, k = m + 1 := ⟨k - 1, by omega⟩
    rw [laws_toIntS.l0, if_neg (by omega)]
    obtain rfl : k' = l.length := by omega
    rw [List.take_of_length_le (by omega), List.take_of_length_le (by omega)] at he
    rw [he]
  | succ d ih =>
    intro n k x hn hd hk hx he
    obtain ⟨k, rfl⟩ : ∃ m, k = m + 1 := ⟨k - 1, by omega⟩
    have hlt : n < l.length := by omega
    rw [laws_toIntS.l0, if_pos (by omega), if_pos (by omega), if_pos (by omega), wrap_succ hlt hl, Int.toNat_natCast]
    exact ih (n + 1) k _ (by omega) (by omega) (by omega) (by simpa using hx) (set_take l x n hlt hx he)
theorem toIntS_tells (l : List Int) (k : Nat) (hl : l.length ≤ 1048576) (hk : l.length < k) : laws_toIntS.f k l = some l := by
  unfold laws_toIntS.f
  rw [if_pos (by omega), if_pos (by omega)]
  exact toIntS_l0 l (by omega) l.length 0 k _ (by omega) (by omega) hk (by simp) (by simp)
theorem toHeap_tells (a b c : List Int) (k : Nat) (ha : a.length ≤ 1048576) (hb : b.length ≤ 1048576) (hc : c.length ≤ 1048576) (hk : 1048577 ≤ k) : laws_toHeap.f k a b c = some (a, b, c) := by
  unfold laws_toHeap.f
  rw [toIntS_tells a k ha (by omega), toIntS_tells b k hb (by omega), toIntS_tells c k hc (by omega)]
  rfl

end Go.Proofs.Ytffnpclehhoeaaa.A
