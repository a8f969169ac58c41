/- Contracts of functions of the given program (PReach). No conditions beyond those stated. -/
import Derived.Test.YtffnpclehhoeaaaPBfs
import Derived.Test.YtffnpclehhoeaaaPHvd
import Derived.Test.YtffnpclehhoeaaaPHvdef
import Derived.Test.YtffnpclehhoeaaaA0
namespace Go.Proofs.Ytffnpclehhoeaaa.A
open Go.RowKit Go.Proofs.YtffnpclehhoeaaaW.PrintWords Go.Proofs.YtffnpclehhoeaaaW.PrintLast Go.Proofs.YtffnpclehhoeaaaW.PrintMore
attribute [local go_sem] max2_int min2_int max_two min_two max_three min_three max_four min_four   -- for this text's walks alone
set_option linter.unusedVariables false
set_option linter.unusedSimpArgs false

/-- For each cell whether a root leads to it. -/
def reachM (a b c : List Int) : List Bool := if hv a b c = true then (distM a b c).map (fun x => decide (x > 0)) else []
theorem reachM_len (a b c : List Int) : (reachM a b c).length ≤ 8 := by
  unfold reachM
  by_cases h : hv a b c = true
  · have hl := hv_len h
    rw [if_pos h, List.length_map, distM_len (by omega) (hv_a h) (hv_b h) (hv_c h)]; omega
  · rw [if_neg h]; simp
theorem rdb_nat (l : List Bool) (n : Nat) (h : n < l.length) : rdOf false l (n : Int) = l[n] := by
  unfold rdOf; simp [h]
theorem dropb_rd (l : List Bool) (n : Nat) (h : n < l.length) : l.drop n = rdOf false l (n : Int) :: l.drop (n + 1) := by
  rw [rdb_nat l n h]; exact List.drop_eq_getElem_cons h
/-- How many are true. -/
def trues : List Bool → Nat
  | [] => 0
  | x :: l => (if x = true then 1 else 0) + trues l
theorem trues_drop (l : List Bool) (i : Nat) (h : i < l.length) : trues (l.drop i) = (if rdOf false l (i : Int) = true then 1 else 0) + trues (l.drop (i + 1)) := by rw [dropb_rd l i h, trues]
theorem trues_nil (l : List Bool) (i : Nat) (h : l.length ≤ i) : trues (l.drop i) = 0 := by rw [List.drop_eq_nil_of_le h, trues]
def clM (a b c : List Int) : Int := ((trues (reachM a b c) : Nat) : Int)

end Go.Proofs.Ytffnpclehhoeaaa.A
