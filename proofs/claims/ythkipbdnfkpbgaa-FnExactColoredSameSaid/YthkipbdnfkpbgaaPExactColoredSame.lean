/- Contracts of functions of the given program (PExactColoredSame). No conditions beyond those stated. -/
import Derived.Test.YthkipbdnfkpbgaaCLawsFnExactColoredSame
import Derived.Test.YthkipbdnfkpbgaaPSameEqColored
import Derived.Test.YthkipbdnfkpbgaaPSameImplColoredSame
import Derived.Test.YthkipbdnfkpbgaaPSameSpecColoredSame
import Derived.Test.YthkipbdnfkpbgaaPSzcol
import Derived.Test.YthkipbdnfkpbgaaPTocol
import Derived.Test.YthkipbdnfkpbgaaA0
namespace Go.Proofs.Ythkipbdnfkpbgaa.A
open Go.RowKit Go.Proofs.YthkipbdnfkpbgaaW.PrintWords Go.Proofs.YthkipbdnfkpbgaaW.PrintLast Go.Proofs.YthkipbdnfkpbgaaW.PrintMore
attribute [local go_sem] max2_int min2_int max_two min_two max_three min_three max_four min_four   -- for this text's walks alone
set_option linter.unusedVariables false
set_option linter.unusedSimpArgs false

theorem pure_FnExactColoredSame (a b c e a' b' c' e' : List Int) (ha : a.length ≤ 9223372036854775807) (hb : b.length ≤ 9223372036854775807) (hc : c.length ≤ 9223372036854775807) (he : e.length ≤ 9223372036854775807) (ha' : a'.length ≤ 9223372036854775807) (hb' : b'.length ≤ 9223372036854775807) (hc' : c'.length ≤ 9223372036854775807) (he' : e'.length ≤ 9223372036854775807) : ∃ k, laws_FnExactColoredSame.f k a b c e a' b' c' e' = some true := by
  refine ⟨1048577, ?_⟩
  obtain ⟨k, hk⟩ : ∃ k : Nat, k = 1048577 := ⟨_, rfl⟩
  rw [← hk]
  unfold laws_FnExactColoredSame.f
  rw [szColored_tells a b c e 1048576 (by omega) (by omega) ha hb hc he]
  simp only [Option.bind_some]
  by_cases h : (a.length : Int) + b.length + c.length + e.length ≤ 1048576
  · rw [if_pos h, if_neg (by omega), szColored_tells a' b' c' e' _ (by omega) (by omega) ha' hb' hc' he']
    simp only [Option.bind_some]
    by_cases h' : (a'.length : Int) + b'.length + c'.length + e'.length ≤ 1048576 - a.length - b.length - c.length - e.length
    · rw [if_pos h', if_neg (by omega), toColored_tells a b c e k (by omega) (by omega) (by omega) (by omega) (by omega), toColored_tells a' b' c' e' k (by omega) (by omega) (by omega) (by omega) (by omega)]
      simp only [Option.bind_some]
      rw [specColoredSame_tells a b c e a' b' c' e' k (by omega) (by omega) (by omega) (by omega) (by omega), implColoredSame_tells a b c e a' b' c' e' k (by omega) (by omega) (by omega) (by omega) (by omega)]
      simp only [Option.bind_some]
      rw [if_neg (by simp), eqColored_tells a b c e a b c e k (by omega) (by omega) (by omega) (by omega) (by omega), eqColored_tells a' b' c' e' a' b' c' e' k (by omega) (by omega) (by omega) (by omega) (by omega)]
      simp
    · rw [if_neg h', if_pos (by omega)]
  · rw [if_neg h, if_pos (by omega)]

end Go.Proofs.Ythkipbdnfkpbgaa.A
