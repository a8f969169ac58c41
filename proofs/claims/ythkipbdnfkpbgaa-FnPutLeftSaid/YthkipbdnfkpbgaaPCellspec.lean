/- Contracts of functions of the given program (PCellspec). No conditions beyond those stated. -/
import Derived.Test.YthkipbdnfkpbgaaASpecL1Cell
import Derived.Test.YthkipbdnfkpbgaaPHvdef
import Derived.Test.YthkipbdnfkpbgaaPHvspec
import Derived.Test.YthkipbdnfkpbgaaA0
namespace Go.Proofs.Ythkipbdnfkpbgaa.A
open Go.RowKit Go.Proofs.YthkipbdnfkpbgaaW.PrintWords Go.Proofs.YthkipbdnfkpbgaaW.PrintLast Go.Proofs.YthkipbdnfkpbgaaW.PrintMore
attribute [local go_sem] max2_int min2_int max_two min_two max_three min_three max_four min_four   -- for this text's walks alone
set_option linter.unusedVariables false
set_option linter.unusedSimpArgs false

theorem l1Cell_tells (a b c : List Int) (x : Int) (k : Nat) (hk : 40 ≤ k) : spec_l1Cell.f k a b c x = some (cellM a b c x) := by
  unfold spec_l1Cell.f cellM
  rw [specHV_tells a b c k hk]
  simp only [Option.bind_some]
  cases h : hv a b c with
  | false => rw [if_neg (by simp), Bool.false_and]
  | true =>
    rw [if_pos rfl, Bool.true_and]
    by_cases h1 : x ≥ 0
    · rw [if_pos h1]; congr 1; simp; omega
    · rw [if_neg h1, decide_eq_false (by omega)]

end Go.Proofs.Ythkipbdnfkpbgaa.A
