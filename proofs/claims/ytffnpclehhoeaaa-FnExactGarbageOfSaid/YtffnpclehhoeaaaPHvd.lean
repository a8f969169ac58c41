/- Contracts of functions of the given program (PHvd). No conditions beyond those stated. -/
import Derived.Test.YtffnpclehhoeaaaPBfs
import Derived.Test.YtffnpclehhoeaaaPCell
import Derived.Test.YtffnpclehhoeaaaPHvdef
import Derived.Test.YtffnpclehhoeaaaA0
namespace Go.Proofs.Ytffnpclehhoeaaa.A
open Go.RowKit Go.Proofs.YtffnpclehhoeaaaW.PrintWords Go.Proofs.YtffnpclehhoeaaaW.PrintLast Go.Proofs.YtffnpclehhoeaaaW.PrintMore
attribute [local go_sem] max2_int min2_int max_two min_two max_three min_three max_four min_four   -- for this text's walks alone
set_option linter.unusedVariables false
set_option linter.unusedSimpArgs false

/-- What a valid heap gives for the distances. -/
theorem hv_a {a b c : List Int} (h : hv a b c = true) : ∀ x ∈ a, -1 ≤ x ∧ x < (a.length : Int) := (hv_iff.1 h).2.1
theorem hv_b {a b c : List Int} (h : hv a b c = true) : ∀ x ∈ b, -1 ≤ x ∧ x < (a.length : Int) := (hv_iff.1 h).2.2.1
theorem hv_c {a b c : List Int} (h : hv a b c = true) : ∀ x ∈ c, -1 ≤ x ∧ x < (a.length : Int) := (hv_iff.1 h).2.2.2
theorem two_ok {n : Nat} {x y : Int} (hx : -1 ≤ x ∧ x < (n : Int)) (hy : -1 ≤ y ∧ y < (n : Int)) : ∀ z ∈ [x, y], -1 ≤ z ∧ z < (n : Int) := by
  intro z hz
  rcases List.mem_cons.1 hz with rfl | hz
  · exact hx
  · obtain rfl : z = y := by simpa using hz
    exact hy
/-- The distance of a cell: 0 where there is none. -/
def hcM (a b c : List Int) (x : Int) : Bool := cellM a b c x && decide (rd (distM a b [rd a x, rd b x]) x > 0)
def doM (a b c : List Int) (x : Int) : Int × Bool := if cellM a b c x = true then (if rd (distM a b c) x < 0 then (0, false) else (rd (distM a b c) x, true)) else (0, false)
theorem distM_len {a b c : List Int} (hb : b.length = a.length) (ga : ∀ x ∈ a, -1 ≤ x ∧ x < (a.length : Int)) (gb : ∀ x ∈ b, -1 ≤ x ∧ x < (a.length : Int)) (gc : ∀ x ∈ c, -1 ≤ x ∧ x < (a.length : Int)) : (distM a b c).length = a.length := (distM_inv hb ga gb gc).len
theorem distM_val {a b c : List Int} (hb : b.length = a.length) (ga : ∀ x ∈ a, -1 ≤ x ∧ x < (a.length : Int)) (gb : ∀ x ∈ b, -1 ≤ x ∧ x < (a.length : Int)) (gc : ∀ x ∈ c, -1 ≤ x ∧ x < (a.length : Int)) {x : Int} (h0 : 0 ≤ x) (h1 : x < (a.length : Int)) : rd (distM a b c) x = -1 ∨ 1 ≤ rd (distM a b c) x := by
  rcases (distM_inv hb ga gb gc).val x h0 h1 with h | h
  · exact Or.inl h
  · exact Or.inr h.1

end Go.Proofs.Ytffnpclehhoeaaa.A
