/- Contracts of functions of the given program (PDrawputl). No conditions beyond those stated. -/
import Derived.Test.YthkipbdnfkpbgaaASpecDrawPutLeft
import Derived.Test.YthkipbdnfkpbgaaPCase1
import Derived.Test.YthkipbdnfkpbgaaPPick
import Derived.Test.YthkipbdnfkpbgaaPWrong
import Derived.Test.YthkipbdnfkpbgaaA0
namespace Go.Proofs.Ythkipbdnfkpbgaa.A
open Go.RowKit Go.Proofs.YthkipbdnfkpbgaaW.PrintWords Go.Proofs.YthkipbdnfkpbgaaW.PrintLast Go.Proofs.YthkipbdnfkpbgaaW.PrintMore
attribute [local go_sem] max2_int min2_int max_two min_two max_three min_three max_four min_four   -- for this text's walks alone
set_option linter.unusedVariables false
set_option linter.unusedSimpArgs false

theorem drawPutLeft_tells {code : List Int} (hb0 : bytesOk code) (k : Nat) (hk : 100 ≤ k) : ∃ x y z u t, spec_DrawPutLeft.f k code = some (x, y, z, u, t) ∧ small3 x y z := by
  obtain ⟨x, y, z, u, t, e, h⟩ := case_tells hb0 k hk
  refine ⟨x, y, z, u, t, ?_, h⟩
  unfold spec_DrawPutLeft.f
  rw [e]; rfl

end Go.Proofs.Ythkipbdnfkpbgaa.A
