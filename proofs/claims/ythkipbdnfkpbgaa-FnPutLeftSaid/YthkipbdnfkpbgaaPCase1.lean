/- Contracts of functions of the given program (PCase1). No conditions beyond those stated. -/
import Derived.Test.YthkipbdnfkpbgaaASpecL1Case
import Derived.Test.YthkipbdnfkpbgaaPDraw
import Derived.Test.YthkipbdnfkpbgaaPHvdef
import Derived.Test.YthkipbdnfkpbgaaPPick
import Derived.Test.YthkipbdnfkpbgaaPWrong
import Derived.Test.YthkipbdnfkpbgaaA0
namespace Go.Proofs.Ythkipbdnfkpbgaa.A
open Go.RowKit Go.Proofs.YthkipbdnfkpbgaaW.PrintWords Go.Proofs.YthkipbdnfkpbgaaW.PrintLast Go.Proofs.YthkipbdnfkpbgaaW.PrintMore
attribute [local go_sem] max2_int min2_int max_two min_two max_three min_three max_four min_four   -- for this text's walks alone
set_option linter.unusedVariables false
set_option linter.unusedSimpArgs false

theorem case_tells {code : List Int} (hb0 : bytesOk code) (k : Nat) (hk : 100 ≤ k) : ∃ x y z u t, spec_l1Case.f k code = some (x, y, z, u, t) ∧ small3 x y z := by
  obtain ⟨b, hl, hb1, e0⟩ := open_tells code
  have hb := hb1 hb0
  obtain ⟨x, y, z, p, e1, h1, q1⟩ := draw_tells hb hl 0 k (by omega) hk
  have hv1 := hv_len h1
  obtain ⟨x', y', z', p', e2, l2, q2⟩ := wrong_tells hb hl p k (by omega) hk x y z (by omega) (by omega) (by omega) (by omega)
  obtain ⟨u, _, e3⟩ := num_tells hb hl p' k [0, 1, 2, 3, 0, 8, -1] (by omega) (by simp) (by omega)
  obtain ⟨t, _, e4⟩ := num_tells hb hl (p' + 1) k [1, 0, 2, -1, 3, 8, -2] (by omega) (by simp) (by omega)
  refine ⟨x', y', z', u, t, ?_, by unfold small3; omega⟩
  unfold spec_l1Case.f
  rw [e0]
  simp only [Option.bind_some]
  rw [e1]
  simp only [Option.bind_some]
  rw [e2]
  simp only [Option.bind_some]
  rw [e3]
  simp only [Option.bind_some]
  rw [e4]
  rfl

end Go.Proofs.Ythkipbdnfkpbgaa.A
