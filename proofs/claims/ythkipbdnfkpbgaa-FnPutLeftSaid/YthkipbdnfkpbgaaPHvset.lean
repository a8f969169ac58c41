/- Contracts of functions of the given program (PHvset). No conditions beyond those stated. -/
import Derived.Test.YthkipbdnfkpbgaaPHvdef
import Derived.Test.YthkipbdnfkpbgaaA0
namespace Go.Proofs.Ythkipbdnfkpbgaa.A
open Go.RowKit Go.Proofs.YthkipbdnfkpbgaaW.PrintWords Go.Proofs.YthkipbdnfkpbgaaW.PrintLast Go.Proofs.YthkipbdnfkpbgaaW.PrintMore
attribute [local go_sem] max2_int min2_int max_two min_two max_three min_three max_four min_four   -- for this text's walks alone
set_option linter.unusedVariables false
set_option linter.unusedSimpArgs false

theorem okset {n : Nat} {l : List Int} (h : ∀ x ∈ l, -1 ≤ x ∧ x < (n : Int)) (i : Nat) {t : Int} (ht : okp n t = true) : ∀ x ∈ l.set i t, -1 ≤ x ∧ x < (n : Int) := by
  intro x hx
  rcases List.mem_or_eq_of_mem_set hx with q | rfl
  · exact h x q
  · exact okp_iff.1 ht
theorem hv_setL {a b c : List Int} (h : hv a b c = true) (i : Nat) {t : Int} (ht : okp a.length t = true) : hv (a.set i t) b c = true := by
  have hi := hv_iff.1 h
  refine hv_iff.2 ⟨by rw [List.length_set]; exact hi.1, ?_, ?_, ?_⟩ <;> rw [List.length_set]
  · exact okset hi.2.1 i ht
  · exact hi.2.2.1
  · exact hi.2.2.2
theorem hv_setR {a b c : List Int} (h : hv a b c = true) (i : Nat) {t : Int} (ht : okp a.length t = true) : hv a (b.set i t) c = true := by
  have hi := hv_iff.1 h
  exact hv_iff.2 ⟨by rw [List.length_set]; exact hi.1, hi.2.1, okset hi.2.2.1 i ht, hi.2.2.2⟩
theorem hv_setO {a b c : List Int} (h : hv a b c = true) (i : Nat) {t : Int} (ht : okp a.length t = true) : hv a b (c.set i t) = true := by
  have hi := hv_iff.1 h
  exact hv_iff.2 ⟨by rw [List.length_set]; exact hi.1, hi.2.1, hi.2.2.1, okset hi.2.2.2 i ht⟩

end Go.Proofs.Ythkipbdnfkpbgaa.A
