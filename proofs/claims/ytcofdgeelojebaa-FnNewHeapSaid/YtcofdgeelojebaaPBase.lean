/- Contracts of functions of the given program (PBase). No conditions beyond those stated. -/
import Derived.Test.YtcofdgeelojebaaA0
namespace Go.Proofs.Ytcofdgeelojebaa.A
open Go.RowKit Go.Proofs.YtcofdgeelojebaaW.PrintWords Go.Proofs.YtcofdgeelojebaaW.PrintLast Go.Proofs.YtcofdgeelojebaaW.PrintMore
attribute [local go_sem] max2_int min2_int max_two min_two max_three min_three max_four min_four   -- for this text's walks alone
set_option linter.unusedVariables false
set_option linter.unusedSimpArgs false

theorem wrap_id {i : Int} (h0 : -9223372036854775808 ≤ i) (h1 : i ≤ 9223372036854775807) : wrap64 i = i := by unfold wrap64; omega
theorem wrap_succ {n m : Nat} (h : n < m) (hm : m ≤ 9223372036854775807) : wrap64 ((n : Int) + 1) = ((n + 1 : Nat) : Int) := by unfold wrap64; omega
theorem rd_nat (l : List Int) (n : Nat) (h : n < l.length) : rd l (n : Int) = l[n] := by
  unfold rd; simp [h]
theorem drop_rd (l : List Int) (n : Nat) (h : n < l.length) : l.drop n = rd l (n : Int) :: l.drop (n + 1) := by
  rw [rd_nat l n h]; exact List.drop_eq_getElem_cons h
theorem set_take (l x : List Int) (n : Nat) (h : n < l.length) (hx : x.length = l.length) (he : x.take n = l.take n) : (x.set n (rd l (n : Int))).take (n + 1) = l.take (n + 1) := by
  rw [rd_nat l n h, List.take_succ_eq_append_getElem (by simpa [hx] using h), List.take_succ_eq_append_getElem h, List.take_set_of_le (Nat.le_refl n), he]
  simp

end Go.Proofs.Ytcofdgeelojebaa.A
