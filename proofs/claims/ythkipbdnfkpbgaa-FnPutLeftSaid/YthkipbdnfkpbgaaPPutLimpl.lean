/- Contracts of functions of the given program (PPutLimpl). No conditions beyond those stated. -/
import Derived.Test.YthkipbdnfkpbgaaAImplPutLeft
import Derived.Test.YthkipbdnfkpbgaaPCellimpl
import Derived.Test.YthkipbdnfkpbgaaPCopied
import Derived.Test.YthkipbdnfkpbgaaPHvdef
import Derived.Test.YthkipbdnfkpbgaaPPointer
import Derived.Test.YthkipbdnfkpbgaaPPutL
import Derived.Test.YthkipbdnfkpbgaaA0
namespace Go.Proofs.Ythkipbdnfkpbgaa.A
open Go.RowKit Go.Proofs.YthkipbdnfkpbgaaW.PrintWords Go.Proofs.YthkipbdnfkpbgaaW.PrintLast Go.Proofs.YthkipbdnfkpbgaaW.PrintMore
attribute [local go_sem] max2_int min2_int max_two min_two max_three min_three max_four min_four   -- for this text's walks alone
set_option linter.unusedVariables false
set_option linter.unusedSimpArgs false

theorem implPutL_tells (a b c : List Int) (x t : Int) (k : Nat) (hk : 60 ≤ k) : impl_PutLeft.f k a b c x t = some (putLM a b c x t) := by
  unfold impl_PutLeft.f putLM
  rw [has_tells a b c x k (by omega)]
  simp only [Option.bind_some]
  by_cases h : cellM a b c x = true
  · have hh := cellM_iff.1 h
    have hl := hv_len hh.1
    rw [if_pos h, pointer_tells a b c t]
    simp only [Option.bind_some]
    by_cases h3 : okp a.length t = true
    · rw [if_pos h3, copied_tells a b c (by omega) (by omega) (by omega)]
      simp only [Option.bind_some]
      rw [if_pos (by omega), if_pos (by omega), if_pos ⟨hh.1, ⟨by omega, by omega⟩, h3⟩]
    · rw [if_neg h3, if_neg (fun hh => h3 hh.2.2)]
  · rw [if_neg h, if_neg]
    intro hh
    have hl := hv_len hh.1
    exact h (cellM_iff.2 ⟨hh.1, by omega, by omega⟩)

end Go.Proofs.Ythkipbdnfkpbgaa.A
