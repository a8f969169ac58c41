/- Contracts of functions of the given program (PGarb). No conditions beyond those stated. -/
import Derived.Test.YtffnpclehhoeaaaPReach
import Derived.Test.YtffnpclehhoeaaaA0
namespace Go.Proofs.Ytffnpclehhoeaaa.A
open Go.RowKit Go.Proofs.YtffnpclehhoeaaaW.PrintWords Go.Proofs.YtffnpclehhoeaaaW.PrintLast Go.Proofs.YtffnpclehhoeaaaW.PrintMore
attribute [local go_sem] max2_int min2_int max_two min_two max_three min_three max_four min_four   -- for this text's walks alone
set_option linter.unusedVariables false
set_option linter.unusedSimpArgs false

/-- The places from i on where a list is false. -/
def gFrom (r : List Bool) (i : Nat) : List Int := ((List.range r.length).drop i).filterMap (fun (j : Nat) => if rdOf false r (j : Int) = true then none else some (j : Int))
theorem gFrom_nil (r : List Bool) (i : Nat) (h : r.length ≤ i) : gFrom r i = [] := by
  unfold gFrom; rw [List.drop_eq_nil_of_le (by simpa using h)]; rfl
theorem gFrom_cons (r : List Bool) (i : Nat) (h : i < r.length) : gFrom r i = (if rdOf false r (i : Int) = true then [] else [(i : Int)]) ++ gFrom r (i + 1) := by
  unfold gFrom
  rw [List.drop_eq_getElem_cons (by simpa using h), List.filterMap_cons]
  simp only [List.getElem_range]
  by_cases h2 : rdOf false r (i : Int) = true
  · rw [if_pos h2, if_pos h2]; rfl
  · rw [if_neg h2, if_neg h2]; rfl
def garbM (a b c : List Int) : List Int := gFrom (reachM a b c) 0
theorem gFrom_len (r : List Bool) (i : Nat) : (gFrom r i).length ≤ r.length := by
  unfold gFrom
  exact Nat.le_trans (List.length_filterMap_le _ _) (by simp)
theorem garbM_len (a b c : List Int) : (garbM a b c).length ≤ 8 := Nat.le_trans (gFrom_len _ _) (reachM_len a b c)

end Go.Proofs.Ytffnpclehhoeaaa.A
