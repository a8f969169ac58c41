/- Contracts of functions of the given program (PCc). No conditions beyond those stated. -/
import Derived.Test.YtcofdgeelojebaaPBase
import Derived.Test.YtcofdgeelojebaaPCv
import Derived.Test.YtcofdgeelojebaaA0
namespace Go.Proofs.Ytcofdgeelojebaa.A
open Go.RowKit Go.Proofs.YtcofdgeelojebaaW.PrintWords Go.Proofs.YtcofdgeelojebaaW.PrintLast Go.Proofs.YtcofdgeelojebaaW.PrintMore
attribute [local go_sem] max2_int min2_int max_two min_two max_three min_three max_four min_four   -- for this text's walks alone
set_option linter.unusedVariables false
set_option linter.unusedSimpArgs false

/-- How often x stands in a list. -/
def ccnt (x : Int) : List Int → Nat
  | [] => 0
  | y :: l => (if y = x then 1 else 0) + ccnt x l
theorem ccnt_len (x : Int) (l : List Int) : ccnt x l ≤ l.length := by
  induction l with
  | nil => simp [ccnt]
  | cons y l ih => rw [ccnt, List.length_cons]; by_cases h : y = x <;> simp [h] <;> omega
theorem ccnt_drop (x : Int) (l : List Int) (i : Nat) (h : i < l.length) : ccnt x (l.drop i) = (if rd l (i : Int) = x then 1 else 0) + ccnt x (l.drop (i + 1)) := by
  rw [drop_rd l i h, ccnt]
theorem ccnt_nil (x : Int) (l : List Int) (i : Nat) (h : l.length ≤ i) : ccnt x (l.drop i) = 0 := by
  rw [List.drop_eq_nil_of_le h, ccnt]
def ccM (a b c e : List Int) (x : Int) : Int := if cv a b c e = true then ((ccnt x e : Nat) : Int) else 0

end Go.Proofs.Ytcofdgeelojebaa.A
