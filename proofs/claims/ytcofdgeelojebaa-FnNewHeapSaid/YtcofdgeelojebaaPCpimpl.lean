/- Contracts of functions of the given program (PCpimpl). No conditions beyond those stated. -/
import Derived.Test.YtcofdgeelojebaaA0
import Derived.Test.YtcofdgeelojebaaAImplCountPointers
import Derived.Test.YtcofdgeelojebaaASlicesConcatIntInt
import Derived.Test.YtcofdgeelojebaaPBase
import Derived.Test.YtcofdgeelojebaaPCp
import Derived.Test.YtcofdgeelojebaaPHvdef
import Derived.Test.YtcofdgeelojebaaPHvimpl
import Derived.Test.YtcofdgeelojebaaA0
namespace Go.Proofs.Ytcofdgeelojebaa.A
open Go.RowKit Go.Proofs.YtcofdgeelojebaaW.PrintWords Go.Proofs.YtcofdgeelojebaaW.PrintLast Go.Proofs.YtcofdgeelojebaaW.PrintMore
attribute [local go_sem] max2_int min2_int max_two min_two max_three min_three max_four min_four   -- for this text's walks alone
set_option linter.unusedVariables false
set_option linter.unusedSimpArgs false

theorem concat_l0 (L : List (List Int)) (hL : L.length ≤ 100) (hl : L.flatten.length ≤ 1000) : ∀ (d i k : Nat), i ≤ L.length → L.length - i = d → d + L.length + 2 < k →
    slices_Concat_int_int.l0 k L (((L.take i).flatten.length : Nat) : Int) L (L.length : Int) (i : Int) = some L.flatten := by
  have l1 : ∀ (d i k : Nat), i ≤ L.length → L.length - i = d → d < k → slices_Concat_int_int.l1 k (L.take i).flatten L (L.length : Int) (i : Int) = some L.flatten := by
    intro d
    induction d with
    | zero =>
      intro i k hi hd hk
      obtain ⟨k, rfl⟩ : ∃ m, k = m + 1 := ⟨k - 1, by omega⟩
      rw [slices_Concat_int_int.l1, if_neg (by omega), List.take_of_length_le (by omega)]
    | succ d ih =>
      intro i k hi hd hk
      obtain ⟨k, rfl⟩ : ∃ m, k = m + 1 := ⟨k - 1, by omega⟩
      have hlt : i < L.length := by omega
      have e : rd_L2 L (i : Int) = L[i] := by unfold rd_L2; simp [hlt]
      have e2 : (L.take i).flatten ++ L[i] = (L.take (i + 1)).flatten := by rw [List.take_succ_eq_append_getElem hlt]; simp only [List.flatten_append, List.flatten_cons, List.flatten_nil, List.append_nil, List.length_append]
      have e3 : (L.take (i + 1)).flatten.length ≤ 1000 := by
        have : (L.take (i + 1)).flatten.length ≤ L.flatten.length := by
          conv => rhs; rw [← List.take_append_drop (i + 1) L, List.flatten_append, List.length_append]
          omega
        omega
      rw [← e2, List.length_append] at e3
      rw [slices_Concat_int_int.l1, if_pos (by omega), if_pos (by omega), if_pos (by omega), e, if_pos (by omega), e2, wrap_succ (m := L.length) hlt (by omega)]
      exact ih (i + 1) k (by omega) (by omega) (by omega)
  intro d
  induction d with
  | zero =>
    intro i k hi hd hk
    obtain ⟨k, rfl⟩ : ∃ m, k = m + 1 := ⟨k - 1, by omega⟩
    obtain rfl : i = L.length := by omega
    rw [slices_Concat_int_int.l0, if_neg (by omega), List.take_of_length_le (Nat.le_refl _), if_neg (by omega), if_neg (by omega)]
    exact l1 L.length 0 k (by omega) (by omega) (by omega)
  | succ d ih =>
    intro i k hi hd hk
    obtain ⟨k, rfl⟩ : ∃ m, k = m + 1 := ⟨k - 1, by omega⟩
    have hlt : i < L.length := by omega
    have e : rd_L2 L (i : Int) = L[i] := by unfold rd_L2; simp [hlt]
    have e2 : (L.take (i + 1)).flatten.length = (L.take i).flatten.length + L[i].length := by rw [List.take_succ_eq_append_getElem hlt]; simp only [List.flatten_append, List.flatten_cons, List.flatten_nil, List.append_nil, List.length_append]
    have e3 : (L.take (i + 1)).flatten.length ≤ 1000 := by
      have : (L.take (i + 1)).flatten.length ≤ L.flatten.length := by
        conv => rhs; rw [← List.take_append_drop (i + 1) L, List.flatten_append, List.length_append]
        omega
      omega
    rw [slices_Concat_int_int.l0, if_pos (by omega), if_pos (by omega), if_pos (by omega), e, wrap_id (by omega) (by omega), if_neg (by omega), wrap_succ (m := L.length) hlt (by omega)]
    have := ih (i + 1) k (by omega) (by omega) (by omega)
    rw [e2] at this
    simpa using this
theorem concat_tells (L : List (List Int)) (k : Nat) (hL : L.length ≤ 100) (hl : L.flatten.length ≤ 1000) (hk : 300 ≤ k) : slices_Concat_int_int.f k L = some L.flatten := by
  unfold slices_Concat_int_int.f
  exact concat_l0 L hL hl L.length 0 k (by omega) (by omega) (by omega)
theorem implCP_l0 (l : List Int) (hl : l.length ≤ 1000) : ∀ (d i k m : Nat), i ≤ l.length → l.length - i = d → d < k → m ≤ i →
    impl_CountPointers.l0 k (m : Int) l (l.length : Int) (i : Int) = some (((m + cnt (l.drop i) : Nat) : Int)) := by
  intro d
  induction d with
  | zero =>
    intro i k m hi hd hk hm
    obtain ⟨k, rfl⟩ : ∃ m, k = m + 1 := ⟨k - 1, by omega⟩
    rw [impl_CountPointers.l0, if_neg (by omega), cnt_nil _ _ (by omega), Nat.add_zero]
  | succ d ih =>
    intro i k m hi hd hk hm
    obtain ⟨k, rfl⟩ : ∃ m, k = m + 1 := ⟨k - 1, by omega⟩
    have hlt : i < l.length := by omega
    rw [impl_CountPointers.l0, if_pos (by omega), if_pos (by omega), if_pos (by omega), cnt_drop l i hlt, wrap_succ hlt (by omega)]
    by_cases h : rd l (i : Int) = -1
    · rw [if_pos h, if_pos h]; exact ih (i + 1) k m (by omega) (by omega) (by omega) (by omega)
    · rw [if_neg h, if_neg h, wrap_succ (n := m) (m := l.length) (by omega) (by omega), ih (i + 1) k (m + 1) (by omega) (by omega) (by omega) (by omega)]
      congr 2; omega
theorem implCP_tells (a b c : List Int) (k : Nat) (hk : 300 ≤ k) : impl_CountPointers.f k a b c = some (cpM a b c) := by
  unfold impl_CountPointers.f cpM
  rw [implHV_tells a b c k (by omega)]
  simp only [Option.bind_some]
  cases h : hv a b c with
  | false => rfl
  | true =>
    have hl := hv_len h
    have e : [a, b, c].flatten = a ++ b ++ c := by simp
    rw [if_pos rfl, if_pos rfl, concat_tells [a, b, c] k (by simp) (by rw [e]; simp; omega) hk, e]
    simp only [Option.bind_some]
    refine Eq.trans (implCP_l0 (a ++ b ++ c) (by simp; omega) (a ++ b ++ c).length 0 k 0 (by omega) (by omega) (by simp; omega) (by omega)) ?_
    rw [List.drop_zero, Nat.zero_add]

end Go.Proofs.Ytcofdgeelojebaa.A
