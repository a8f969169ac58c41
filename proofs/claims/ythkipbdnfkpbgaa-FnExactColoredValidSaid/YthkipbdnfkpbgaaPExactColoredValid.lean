/- Contracts of functions of the given program (PExactColoredValid). No conditions beyond those stated. -/
import Derived.Test.YthkipbdnfkpbgaaCLawsFnExactColoredValid
import Derived.Test.YthkipbdnfkpbgaaPCvimpl
import Derived.Test.YthkipbdnfkpbgaaPCvspec
import Derived.Test.YthkipbdnfkpbgaaPSameEqColored
import Derived.Test.YthkipbdnfkpbgaaPSzcol
import Derived.Test.YthkipbdnfkpbgaaPTocol
import Derived.Test.YthkipbdnfkpbgaaA0
namespace Go.Proofs.Ythkipbdnfkpbgaa.A
open Go.RowKit Go.Proofs.YthkipbdnfkpbgaaW.PrintWords Go.Proofs.YthkipbdnfkpbgaaW.PrintLast Go.Proofs.YthkipbdnfkpbgaaW.PrintMore
attribute [local go_sem] max2_int min2_int max_two min_two max_three min_three max_four min_four   -- for this text's walks alone
set_option linter.unusedVariables false
set_option linter.unusedSimpArgs false

theorem pure_FnExactColoredValid (a b c e : List Int) (ha : a.length ≤ 9223372036854775807) (hb : b.length ≤ 9223372036854775807) (hc : c.length ≤ 9223372036854775807) (he : e.length ≤ 9223372036854775807) : ∃ k, laws_FnExactColoredValid.f k a b c e = some true := by
  refine ⟨1048600, ?_⟩
  obtain ⟨k, hk⟩ : ∃ k : Nat, k = 1048600 := ⟨_, rfl⟩
  rw [← hk]
  unfold laws_FnExactColoredValid.f
  rw [szColored_tells a b c e 1048576 (by omega) (by omega) ha hb hc he]
  simp only [Option.bind_some]
  by_cases h : (a.length : Int) + b.length + c.length + e.length ≤ 1048576
  · rw [if_pos h, if_neg (by omega), toColored_tells a b c e k (by omega) (by omega) (by omega) (by omega) (by omega)]
    simp only [Option.bind_some]
    rw [specCV_tells a b c e k (by omega) (by omega), implCV_tells a b c e k (by omega) (by omega)]
    simp only [Option.bind_some]
    rw [if_neg (by simp), eqColored_tells a b c e a b c e k (by omega) (by omega) (by omega) (by omega) (by omega)]
    simp
  · rw [if_neg h, if_pos (by omega)]

end Go.Proofs.Ythkipbdnfkpbgaa.A
