/- Contracts of functions of the given program (PMarkb). No conditions beyond those stated. -/
import Derived.Test.YtffnpclehhoeaaaALawsHeldBoolS
import Derived.Test.YtffnpclehhoeaaaALawsMarkBoolS
import Derived.Test.YtffnpclehhoeaaaPBase
import Derived.Test.YtffnpclehhoeaaaPReach
import Derived.Test.YtffnpclehhoeaaaA0
namespace Go.Proofs.Ytffnpclehhoeaaa.A
open Go.RowKit Go.Proofs.YtffnpclehhoeaaaW.PrintWords Go.Proofs.YtffnpclehhoeaaaW.PrintLast Go.Proofs.YtffnpclehhoeaaaW.PrintMore
attribute [local go_sem] max2_int min2_int max_two min_two max_three min_three max_four min_four   -- for this text's walks alone
set_option linter.unusedVariables false
set_option linter.unusedSimpArgs false

/-- The marks of truth values from m on. -/
def mkB (m n : Nat) : List Bool := (List.range n).map (fun i => (Int.tmod ((m + i : Nat) : Int) 3 == 0))
theorem mkB_len (m n : Nat) : (mkB m n).length = n := by unfold mkB; simp
theorem mkB_get (m n i : Nat) (h : i < n) : rdOf false (mkB m n) (i : Int) = (Int.tmod ((m + i : Nat) : Int) 3 == 0) := by
  rw [rdb_nat _ _ (by rw [mkB_len]; exact h)]; unfold mkB; simp
theorem markBoolS_l0 (m n : Nat) (hm : m + n ≤ 9223372036854775807) : ∀ (d i k : Nat) (x : List Bool), i ≤ n → n - i = d → d < k → x.length = n → x.take i = mkB m i →
    laws_markBoolS.l0 k x ((m + i : Nat) : Int) (i : Int) = some (((m + n : Nat) : Int), mkB m n) := by
  intro d
  induction d with
  | zero =>
    intro i k x hi hd hk hx he
    obtain ⟨k, rfl⟩ : ∃ m, k = m + 1 := ⟨k - 1, by omega⟩
    obtain rfl : i = n := by omega
    rw [laws_markBoolS.l0, if_neg (by omega)]
    rw [List.take_of_length_le (by omega)] at he
    rw [he]
  | succ d ih =>
    intro i k x hi hd hk hx he
    obtain ⟨k, rfl⟩ : ∃ m, k = m + 1 := ⟨k - 1, by omega⟩
    have hlt : i < n := by omega
    have w1 : wrap64 (((m + i : Nat) : Int) + 1) = ((m + (i + 1) : Nat) : Int) := by unfold wrap64; omega
    rw [laws_markBoolS.l0, if_pos (by omega), if_pos (by omega), wrap_succ hlt (by omega), w1, Int.toNat_natCast]
    refine ih (i + 1) k _ (by omega) (by omega) (by omega) (by simpa using hx) ?_
    rw [List.take_succ_eq_append_getElem (by simp; omega), List.take_set_of_le (Nat.le_refl i), he]
    unfold mkB
    rw [List.range_succ, List.map_append]
    simp
theorem markBoolS_tells (l : List Bool) (m k : Nat) (hm : m + l.length ≤ 9223372036854775807) (hk : l.length < k) : laws_markBoolS.f k l (m : Int) = some (((m + l.length : Nat) : Int), mkB m l.length) := by
  unfold laws_markBoolS.f
  exact markBoolS_l0 m l.length hm l.length 0 k l (by omega) (by omega) hk rfl (by simp [mkB])
theorem heldBoolS_l0 (m n : Nat) (hm : m + n ≤ 9223372036854775807) : ∀ (d i k : Nat), i ≤ n → n - i = d → d < k →
    laws_heldBoolS.l0 k (mkB m n) ((m + i : Nat) : Int) (i : Int) = some ((m + n : Nat) : Int) := by
  intro d
  induction d with
  | zero =>
    intro i k hi hd hk
    obtain ⟨k, rfl⟩ : ∃ m, k = m + 1 := ⟨k - 1, by omega⟩
    obtain rfl : i = n := by omega
    rw [laws_heldBoolS.l0, if_neg (by rw [mkB_len]; omega)]
  | succ d ih =>
    intro i k hi hd hk
    obtain ⟨k, rfl⟩ : ∃ m, k = m + 1 := ⟨k - 1, by omega⟩
    have hlt : i < n := by omega
    have w1 : wrap64 (((m + i : Nat) : Int) + 1) = ((m + (i + 1) : Nat) : Int) := by unfold wrap64; omega
    rw [laws_heldBoolS.l0, if_pos (by rw [mkB_len]; omega), if_pos (by omega), mkB_get m n i hlt, if_neg (by simp), wrap_succ hlt (by omega), w1]
    exact ih (i + 1) k (by omega) (by omega) (by omega)
theorem heldBoolS_tells (m n k : Nat) (hm : m + n ≤ 9223372036854775807) (hk : n < k) : laws_heldBoolS.f k (mkB m n) (m : Int) = some ((m + n : Nat) : Int) := by
  unfold laws_heldBoolS.f
  exact heldBoolS_l0 m n hm n 0 k (by omega) (by omega) hk

end Go.Proofs.Ytffnpclehhoeaaa.A
