/- Contracts of functions of the given program (PExactSourcesOf). No conditions beyond those stated. -/
import Derived.Test.YthkipbdnfkpbgaaCLawsFnExactSourcesOf
import Derived.Test.YthkipbdnfkpbgaaPEqEqIntS
import Derived.Test.YthkipbdnfkpbgaaPMark
import Derived.Test.YthkipbdnfkpbgaaPMarkheap
import Derived.Test.YthkipbdnfkpbgaaPSameEqHeap
import Derived.Test.YthkipbdnfkpbgaaPSrc
import Derived.Test.YthkipbdnfkpbgaaPSrcimpl
import Derived.Test.YthkipbdnfkpbgaaPSrcspec
import Derived.Test.YthkipbdnfkpbgaaPSz
import Derived.Test.YthkipbdnfkpbgaaPTo
import Derived.Test.YthkipbdnfkpbgaaA0
namespace Go.Proofs.Ythkipbdnfkpbgaa.A
open Go.RowKit Go.Proofs.YthkipbdnfkpbgaaW.PrintWords Go.Proofs.YthkipbdnfkpbgaaW.PrintLast Go.Proofs.YthkipbdnfkpbgaaW.PrintMore
attribute [local go_sem] max2_int min2_int max_two min_two max_three min_three max_four min_four   -- for this text's walks alone
set_option linter.unusedVariables false
set_option linter.unusedSimpArgs false

theorem pure_FnExactSourcesOf (a b c : List Int) (x : Int) (ha : a.length ≤ 9223372036854775807) (hb : b.length ≤ 9223372036854775807) (hc : c.length ≤ 9223372036854775807) (_hx : -9223372036854775808 ≤ x ∧ x ≤ 9223372036854775807) : ∃ k, laws_FnExactSourcesOf.f k a b c x = some true := by
  refine ⟨1048600, ?_⟩
  obtain ⟨k, hk⟩ : ∃ k : Nat, k = 1048599 := ⟨_, rfl⟩
  rw [show 1048600 = k + 1 from by omega]
  unfold laws_FnExactSourcesOf.f
  rw [szHeap_tells a b c 1048576 (by omega) (by omega) ha hb hc]
  simp only [Option.bind_some]
  by_cases h : (a.length : Int) + b.length + c.length ≤ 1048576
  · have hl := srcM_len a b c x
    rw [if_pos h, if_neg (by omega), toHeap_tells a b c _ (by omega) (by omega) (by omega) (by omega)]
    simp only [Option.bind_some]
    rw [specSrc_tells a b c x _ (by omega), implSrc_tells a b c x _ (by omega)]
    simp only [Option.bind_some]
    rw [eqIntS_tells _ _ _ (by omega) (by omega)]
    simp only [Option.bind_some]
    rw [if_pos (by simp), eqHeap_tells _ _ _ _ _ _ _ (by omega) (by omega) (by omega) (by omega)]
    simp only [Option.bind_some]
    have hm := markHeap_tells a b c 1 (k + 1) (by omega) (by omega) (by omega) (by omega) (by omega)
    have hm2 := markIntS_tells (srcM a b c x) 1 k (by omega) (by omega)
    have hh := heldIntS_tells 1 (srcM a b c x).length k (by omega) (by omega)
    rw [show ((1 : Nat) : Int) = 1 from rfl] at hm hm2 hh
    rw [if_pos (by simp), hm]
    simp only [Option.bind_some]
    rw [if_neg (by omega), laws_FnExactSourcesOf.j0, if_neg (by simp), hm2]
    simp only [Option.bind_some]
    rw [hh]
    simp only [Option.bind_some]
    rw [if_neg (by omega), if_pos (by simp), toHeap_tells a b c _ (by omega) (by omega) (by omega) (by omega)]
    simp only [Option.bind_some]
    rw [implSrc_tells a b c x _ (by omega)]
    simp only [Option.bind_some]
    rw [eqIntS_tells _ _ _ (by omega) (by omega)]
    simp only [Option.bind_some]
    rw [if_pos (by simp), if_neg (by omega), if_pos (by simp)]
  · rw [if_neg h, if_pos (by omega)]

end Go.Proofs.Ythkipbdnfkpbgaa.A
