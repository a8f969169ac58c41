/- Contracts of functions of the given program (PExactNewHeap). No conditions beyond those stated. -/
import Derived.Test.YthkipbdnfkpbgaaCLawsFnExactNewHeap
import Derived.Test.YthkipbdnfkpbgaaPMarkheap
import Derived.Test.YthkipbdnfkpbgaaPNewheap
import Derived.Test.YthkipbdnfkpbgaaPNhimpl
import Derived.Test.YthkipbdnfkpbgaaPNhspec
import Derived.Test.YthkipbdnfkpbgaaPSameEqHeap
import Derived.Test.YthkipbdnfkpbgaaA0
namespace Go.Proofs.Ythkipbdnfkpbgaa.A
open Go.RowKit Go.Proofs.YthkipbdnfkpbgaaW.PrintWords Go.Proofs.YthkipbdnfkpbgaaW.PrintLast Go.Proofs.YthkipbdnfkpbgaaW.PrintMore
attribute [local go_sem] max2_int min2_int max_two min_two max_three min_three max_four min_four   -- for this text's walks alone
set_option linter.unusedVariables false
set_option linter.unusedSimpArgs false

theorem pure_FnExactNewHeap (c r : Int) (_hc : -9223372036854775808 ≤ c ∧ c ≤ 9223372036854775807) (_hr : -9223372036854775808 ≤ r ∧ r ≤ 9223372036854775807) : ∃ k, laws_FnExactNewHeap.f k c r = some true := by
  refine ⟨1048600, ?_⟩
  obtain ⟨k, hk⟩ : ∃ k : Nat, k = 1048598 := ⟨_, rfl⟩
  rw [show 1048600 = k + 2 from by omega]
  unfold laws_FnExactNewHeap.f
  have hl := nhM_lens c r
  rw [specNH_tells c r _ (by omega), implNH_tells c r _ (by omega)]
  simp only [Option.bind_some]
  rw [eqHeap_tells _ _ _ _ _ _ _ (by omega) (by omega) (by omega) (by omega)]
  simp only [Option.bind_some]
  have hm := markHeap_tells (nhM c r).1 (nhM c r).2.1 (nhM c r).2.2.1 1 (k + 1) (by omega) (by omega) (by omega) (by omega) (by omega)
  have hh := heldHeap_tells (nhM c r).1.length (nhM c r).2.1.length (nhM c r).2.2.1.length 1 (k + 1) (by omega) (by omega) (by omega) (by omega) (by omega)
  have hh2 := heldHeap_tells (nhM c r).1.length (nhM c r).2.1.length (nhM c r).2.2.1.length 1 k (by omega) (by omega) (by omega) (by omega) (by omega)
  rw [show ((1 : Nat) : Int) = 1 from rfl] at hm hh hh2
  rw [if_pos (by simp), laws_FnExactNewHeap.j0, if_neg (by simp), hm]
  simp only [Option.bind_some]
  rw [hh]
  simp only [Option.bind_some]
  rw [if_neg (by omega), if_pos (by simp), implNH_tells c r _ (by omega)]
  simp only [Option.bind_some]
  rw [eqHeap_tells _ _ _ _ _ _ _ (by omega) (by omega) (by omega) (by omega)]
  simp only [Option.bind_some]
  rw [if_pos (by simp), laws_FnExactNewHeap.j1, if_neg (by simp), hh2]
  simp only [Option.bind_some]
  rw [if_neg (by omega), if_pos (by simp)]

end Go.Proofs.Ythkipbdnfkpbgaa.A
