/- Contracts of functions of the given program (PHvdef). No conditions beyond those stated. -/
import Derived.Test.YtcofdgeelojebaaPBase
import Derived.Test.YtcofdgeelojebaaA0
namespace Go.Proofs.Ytcofdgeelojebaa.A
open Go.RowKit Go.Proofs.YtcofdgeelojebaaW.PrintWords Go.Proofs.YtcofdgeelojebaaW.PrintLast Go.Proofs.YtcofdgeelojebaaW.PrintMore
attribute [local go_sem] max2_int min2_int max_two min_two max_three min_three max_four min_four   -- for this text's walks alone
set_option linter.unusedVariables false
set_option linter.unusedSimpArgs false

/-- A pointer of a heap of n cells. -/
def okp (n : Nat) (x : Int) : Bool := decide (-1 ≤ x ∧ x < (n : Int))
def hv (a b c : List Int) : Bool := decide (a.length = b.length ∧ 1 ≤ a.length ∧ a.length ≤ 8 ∧ 1 ≤ c.length ∧ c.length ≤ 3) && (a.all (okp a.length) && (b.all (okp a.length) && c.all (okp a.length)))
theorem hv_len {a b c : List Int} (h : hv a b c = true) : a.length = b.length ∧ 1 ≤ a.length ∧ a.length ≤ 8 ∧ 1 ≤ c.length ∧ c.length ≤ 3 := by
  unfold hv at h
  rw [Bool.and_eq_true] at h
  exact of_decide_eq_true h.1
theorem okp_iff {n : Nat} {x : Int} : okp n x = true ↔ -1 ≤ x ∧ x < (n : Int) := by unfold okp; exact decide_eq_true_iff
theorem hv_iff {a b c : List Int} : hv a b c = true ↔ (a.length = b.length ∧ 1 ≤ a.length ∧ a.length ≤ 8 ∧ 1 ≤ c.length ∧ c.length ≤ 3) ∧ (∀ x ∈ a, -1 ≤ x ∧ x < (a.length : Int)) ∧ (∀ x ∈ b, -1 ≤ x ∧ x < (a.length : Int)) ∧ (∀ x ∈ c, -1 ≤ x ∧ x < (a.length : Int)) := by
  unfold hv
  simp only [Bool.and_eq_true, decide_eq_true_eq, List.all_eq_true, okp_iff]
theorem all_drop_cons (p : Int → Bool) (l : List Int) (n : Nat) (h : n < l.length) : (l.drop n).all p = (p (rd l (n : Int)) && (l.drop (n + 1)).all p) := by
  rw [drop_rd l n h, List.all_cons]
theorem all_drop_nil (p : Int → Bool) (l : List Int) (n : Nat) (h : l.length ≤ n) : (l.drop n).all p = true := by
  rw [List.drop_eq_nil_of_le h, List.all_nil]
/-- A cell of a valid heap. -/
def cellM (a b c : List Int) (x : Int) : Bool := hv a b c && decide (0 ≤ x ∧ x < (a.length : Int))
theorem cellM_iff {a b c : List Int} {x : Int} : cellM a b c x = true ↔ hv a b c = true ∧ 0 ≤ x ∧ x < (a.length : Int) := by
  unfold cellM; simp

end Go.Proofs.Ytcofdgeelojebaa.A
