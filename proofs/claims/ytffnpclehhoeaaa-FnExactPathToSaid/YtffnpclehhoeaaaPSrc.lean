/- Contracts of functions of the given program (PSrc). No conditions beyond those stated. -/
import Derived.Test.YtffnpclehhoeaaaPHvdef
import Derived.Test.YtffnpclehhoeaaaA0
namespace Go.Proofs.Ytffnpclehhoeaaa.A
open Go.RowKit Go.Proofs.YtffnpclehhoeaaaW.PrintWords Go.Proofs.YtffnpclehhoeaaaW.PrintLast Go.Proofs.YtffnpclehhoeaaaW.PrintMore
attribute [local go_sem] max2_int min2_int max_two min_two max_three min_three max_four min_four   -- for this text's walks alone
set_option linter.unusedVariables false
set_option linter.unusedSimpArgs false

/-- The cells from i on that point to x. -/
def srcFrom (a b : List Int) (x : Int) (i : Nat) : List Int := ((List.range a.length).drop i).filterMap (fun (j : Nat) => if rd a (j : Int) = x ∨ rd b (j : Int) = x then some (j : Int) else none)
def srcM (a b c : List Int) (x : Int) : List Int := if cellM a b c x = true then srcFrom a b x 0 else []
theorem srcFrom_nil (a b : List Int) (x : Int) (i : Nat) (h : a.length ≤ i) : srcFrom a b x i = [] := by
  unfold srcFrom; rw [List.drop_eq_nil_of_le (by simpa using h)]; rfl
theorem srcFrom_cons (a b : List Int) (x : Int) (i : Nat) (h : i < a.length) : srcFrom a b x i = (if rd a (i : Int) = x ∨ rd b (i : Int) = x then [(i : Int)] else []) ++ srcFrom a b x (i + 1) := by
  unfold srcFrom
  rw [List.drop_eq_getElem_cons (by simpa using h), List.filterMap_cons]
  simp only [List.getElem_range]
  by_cases h2 : rd a (i : Int) = x ∨ rd b (i : Int) = x
  · rw [if_pos h2, if_pos h2]; rfl
  · rw [if_neg h2, if_neg h2]; rfl
theorem srcFrom_len (a b : List Int) (x : Int) (i : Nat) : (srcFrom a b x i).length ≤ a.length := by
  unfold srcFrom
  exact Nat.le_trans (List.length_filterMap_le _ _) (by simp)
theorem srcM_len (a b c : List Int) (x : Int) : (srcM a b c x).length ≤ 8 := by
  unfold srcM
  by_cases h : cellM a b c x = true
  · rw [if_pos h]
    have := srcFrom_len a b x 0
    have := hv_len (cellM_iff.1 h).1
    omega
  · rw [if_neg h]; simp

end Go.Proofs.Ytffnpclehhoeaaa.A
