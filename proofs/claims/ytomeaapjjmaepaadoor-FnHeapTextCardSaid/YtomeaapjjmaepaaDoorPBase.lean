/- Contracts of functions of the given program (PBase). No conditions beyond those stated. -/
import Derived.Test.YtomeaapjjmaepaaDoorA0
namespace Go.Proofs.YtomeaapjjmaepaaDoor.A
open Go.RowKit Go.Proofs.YtomeaapjjmaepaaDoorW.PrintWords Go.Proofs.YtomeaapjjmaepaaDoorW.PrintLast Go.Proofs.YtomeaapjjmaepaaDoorW.PrintMore
attribute [local go_sem] max2_int min2_int max_two min_two max_three min_three max_four min_four   -- for this text's walks alone
set_option linter.unusedVariables false
set_option linter.unusedSimpArgs false

theorem wrap_id {i : Int} (h0 : -9223372036854775808 ≤ i) (h1 : i ≤ 9223372036854775807) : wrap64 i = i := by unfold wrap64; omega
theorem wrap_succ {n m : Nat} (h : n < m) (hm : m ≤ 9223372036854775807) : wrap64 ((n : Int) + 1) = ((n + 1 : Nat) : Int) := by unfold wrap64; omega
theorem rd_nat (l : List Int) (n : Nat) (h : n < l.length) : rd l (n : Int) = l[n] := by
  unfold rd; simp [h]
theorem drop_rd (l : List Int) (n : Nat) (h : n < l.length) : l.drop n = rd l (n : Int) :: l.drop (n + 1) := by
  rw [rd_nat l n h]; exact List.drop_eq_getElem_cons h
theorem set_take (l x : List Int) (n : Nat) (h : n < l.length) (hx : x.length = l.length) (he : x.take n = l.take n) : (x.set n (rd l (n : Int))).take (n + 1) = l.take (n + 1) := by
  rw [rd_nat l n h, List.take_succ_eq_append_getElem (by simpa [hx] using h), List.take_succ_eq_append_getElem h, List.take_set_of_le (Nat.le_refl n), he]
  simp
theorem rd_set_eq (l : List Int) (p v : Int) (h0 : 0 ≤ p) (h : p < (l.length : Int)) : rd (l.set p.toNat v) p = v := by
  unfold rd; rw [List.getD_eq_getElem?_getD, List.getElem?_set_self (by omega)]; rfl
theorem rd_set_ne (l : List Int) (p q v : Int) (h0 : 0 ≤ p) (h1 : 0 ≤ q) (h : p ≠ q) : rd (l.set p.toNat v) q = rd l q := by
  unfold rd; rw [List.getD_eq_getElem?_getD, List.getElem?_set_ne (by omega), List.getD_eq_getElem?_getD]
theorem rd_app (l m : List Int) (i : Int) (h0 : 0 ≤ i) (h : i < (l.length : Int)) : rd (l ++ m) i = rd l i := by
  unfold rd; rw [List.getD_eq_getElem?_getD, List.getD_eq_getElem?_getD, List.getElem?_append_left (by omega)]
theorem rd_mem (l : List Int) (i : Int) (h0 : 0 ≤ i) (h : i < (l.length : Int)) : rd l i ∈ l := by
  obtain ⟨n, rfl⟩ : ∃ n : Nat, i = (n : Int) := ⟨i.toNat, by omega⟩
  rw [rd_nat l n (by omega)]; exact List.getElem_mem _

end Go.Proofs.YtomeaapjjmaepaaDoor.A
