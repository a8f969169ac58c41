/- Contracts of functions of the given program (PPointer). No conditions beyond those stated. -/
import Derived.Test.YthkipbdnfkpbgaaAImplPointer
import Derived.Test.YthkipbdnfkpbgaaPHvdef
import Derived.Test.YthkipbdnfkpbgaaA0
namespace Go.Proofs.Ythkipbdnfkpbgaa.A
open Go.RowKit Go.Proofs.YthkipbdnfkpbgaaW.PrintWords Go.Proofs.YthkipbdnfkpbgaaW.PrintLast Go.Proofs.YthkipbdnfkpbgaaW.PrintMore
attribute [local go_sem] max2_int min2_int max_two min_two max_three min_three max_four min_four   -- for this text's walks alone
set_option linter.unusedVariables false
set_option linter.unusedSimpArgs false

theorem pointer_tells (a b c : List Int) (x : Int) : impl_pointer.f a b c x = some (okp a.length x) := by
  unfold impl_pointer.f okp
  by_cases h : x ≥ -1
  · rw [if_pos h]; congr 1; simp; omega
  · rw [if_neg h, decide_eq_false (by omega)]

end Go.Proofs.Ythkipbdnfkpbgaa.A
