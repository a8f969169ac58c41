/- Contracts of functions of the given program (PMark). No conditions beyond those stated. -/
import Derived.Test.YtffnpclehhoeaaaALawsHeldIntS
import Derived.Test.YtffnpclehhoeaaaALawsMarkIntS
import Derived.Test.YtffnpclehhoeaaaPBase
import Derived.Test.YtffnpclehhoeaaaA0
namespace Go.Proofs.Ytffnpclehhoeaaa.A
open Go.RowKit Go.Proofs.YtffnpclehhoeaaaW.PrintWords Go.Proofs.YtffnpclehhoeaaaW.PrintLast Go.Proofs.YtffnpclehhoeaaaW.PrintMore
attribute [local go_sem] max2_int min2_int max_two min_two max_three min_three max_four min_four   -- for this text's walks alone
set_option linter.unusedVariables false
set_option linter.unusedSimpArgs false

/-- The numbers from m on. -/
def mk (m n : Nat) : List Int := (List.range n).map (fun i => ((m + i : Nat) : Int))
theorem mk_len (m n : Nat) : (mk m n).length = n := by unfold mk; simp
theorem mk_get (m n i : Nat) (h : i < n) : rd (mk m n) (i : Int) = ((m + i : Nat) : Int) := by
  rw [rd_nat _ _ (by rw [mk_len]; exact h)]; unfold mk; simp
theorem markIntS_l0 (m n : Nat) (hm : m + n ≤ 9223372036854775807) : ∀ (d i k : Nat) (x : List Int), i ≤ n → n - i = d → d < k → x.length = n → x.take i = mk m i →
    laws_markIntS.l0 k x ((m + i : Nat) : Int) (i : Int) = some (((m + n : Nat) : Int), mk m n) := by
  intro d
  induction d with
  | zero =>
    intro i k x hi hd hk hx he
    obtain ⟨k, rfl⟩ : ∃ m, k = m + 1 := ⟨k - 1, by omega⟩
    obtain rfl : i = n := by omega
    rw [laws_markIntS.l0, if_neg (by omega)]
    rw [List.take_of_length_le (by omega)] at he
    rw [he]
  | succ d ih =>
    intro i k x hi hd hk hx he
    obtain ⟨k, rfl⟩ : ∃ m, k = m + 1 := ⟨k - 1, by omega⟩
    have hlt : i < n := by omega
    have w1 : wrap64 (((m + i : Nat) : Int) + 1) = ((m + (i + 1) : Nat) : Int) := by unfold wrap64; omega
    rw [laws_markIntS.l0, if_pos (by omega), if_pos (by omega), wrap_succ hlt (by omega), w1, Int.toNat_natCast]
    refine ih (i + 1) k _ (by omega) (by omega) (by omega) (by simpa using hx) ?_
    rw [List.take_succ_eq_append_getElem (by simp; omega), List.take_set_of_le (Nat.le_refl i), he]
    unfold mk
    rw [List.range_succ, List.map_append]
    simp
theorem markIntS_tells (l : List Int) (m k : Nat) (hm : m + l.length ≤ 9223372036854775807) (hk : l.length < k) : laws_markIntS.f k l (m : Int) = some (((m + l.length : Nat) : Int), mk m l.length) := by
  unfold laws_markIntS.f
  exact markIntS_l0 m l.length hm l.length 0 k l (by omega) (by omega) hk rfl (by simp [mk])
theorem heldIntS_l0 (m n : Nat) (hm : m + n ≤ 9223372036854775807) : ∀ (d i k : Nat), i ≤ n → n - i = d → d < k →
    laws_heldIntS.l0 k (mk m n) ((m + i : Nat) : Int) (i : Int) = some ((m + n : Nat) : Int) := by
  intro d
  induction d with
  | zero =>
    intro i k hi hd hk
    obtain ⟨k, rfl⟩ : ∃ m, k = m + 1 := ⟨k - 1, by omega⟩
    obtain rfl : i = n := by omega
    rw [laws_heldIntS.l0, if_neg (by rw [mk_len]; omega)]
  | succ d ih =>
    intro i k hi hd hk
    obtain ⟨k, rfl⟩ : ∃ m, k = m + 1 := ⟨k - 1, by omega⟩
    have hlt : i < n := by omega
    have w1 : wrap64 (((m + i : Nat) : Int) + 1) = ((m + (i + 1) : Nat) : Int) := by unfold wrap64; omega
    rw [laws_heldIntS.l0, if_pos (by rw [mk_len]; omega), if_pos (by omega), mk_get m n i hlt, if_pos rfl, wrap_succ hlt (by omega), w1]
    exact ih (i + 1) k (by omega) (by omega) (by omega)
theorem heldIntS_tells (m n k : Nat) (hm : m + n ≤ 9223372036854775807) (hk : n < k) : laws_heldIntS.f k (mk m n) (m : Int) = some ((m + n : Nat) : Int) := by
  unfold laws_heldIntS.f
  exact heldIntS_l0 m n hm n 0 k (by omega) (by omega) hk

end Go.Proofs.Ytffnpclehhoeaaa.A
