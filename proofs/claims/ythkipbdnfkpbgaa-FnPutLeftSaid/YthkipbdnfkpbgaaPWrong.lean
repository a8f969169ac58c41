/- Contracts of functions of the given program (PWrong). No conditions beyond those stated. -/
import Derived.Test.YthkipbdnfkpbgaaASpecL13RdPick
import Derived.Test.YthkipbdnfkpbgaaASpecL1Wrong
import Derived.Test.YthkipbdnfkpbgaaPCopy
import Derived.Test.YthkipbdnfkpbgaaPHvdef
import Derived.Test.YthkipbdnfkpbgaaPPick
import Derived.Test.YthkipbdnfkpbgaaA0
namespace Go.Proofs.Ythkipbdnfkpbgaa.A
open Go.RowKit Go.Proofs.YthkipbdnfkpbgaaW.PrintWords Go.Proofs.YthkipbdnfkpbgaaW.PrintLast Go.Proofs.YthkipbdnfkpbgaaW.PrintMore
attribute [local go_sem] max2_int min2_int max_two min_two max_three min_three max_four min_four   -- for this text's walks alone
set_option linter.unusedVariables false
set_option linter.unusedSimpArgs false

def small3 (x y z : List Int) : Prop := x.length ≤ 20 ∧ y.length ≤ 20 ∧ z.length ≤ 20
theorem wrong_tells {b : List Int} (hb : bytesOk b) (hl : b.length ≤ 2000) (p k : Nat) (hp : p ≤ 70000) (hk : 100 ≤ k) (x y z : List Int) (h1 : 1 ≤ x.length) (hx : x.length ≤ 18) (hy : y.length ≤ 18) (hz : z.length ≤ 18) : ∃ x' y' z' p', spec_l1Wrong.f k b (p : Int) x y z = some (x', y', z', ((p' : Nat) : Int)) ∧ (x'.length = x.length ∧ y'.length ≤ y.length + 1 ∧ z'.length ≤ z.length + 1) ∧ p' ≤ p + 3 := by
  obtain ⟨v, hv, e⟩ := pick_tells hb hl p 20 k (by omega) (by omega) (by omega)
  have e' : spec_l13Rd_pick.f k b (p : Int) 20 = some ((v : Int), ((p + 1 : Nat) : Int)) := e
  unfold spec_l1Wrong.f
  rw [l1Copy_tells x y z (by omega) (by omega) (by omega)]
  simp only [Option.bind_some]
  rw [e']
  simp only [Option.bind_some]
  by_cases c0 : (v : Int) = 0
  · obtain ⟨u, hu, f⟩ := pick_tells hb hl (p + 1) x.length k (by omega) h1 (by omega)
    obtain ⟨t, ht, g⟩ := num_tells hb hl (p + 1 + 1) k [-2, 8, 0] (by omega) (by simp) (by omega)
    refine ⟨x.set u t, y, z, p + 1 + 1 + 1, ?_, ⟨?_, ?_, ?_⟩, by omega⟩
    · rw [if_pos c0, f]
      simp only [Option.bind_some]
      rw [g]
      simp only [Option.bind_some]
      rw [if_pos (by omega), if_pos (by omega), Int.toNat_natCast]
    · simp
    · omega
    · omega
  · rw [if_neg c0]
    by_cases c1 : (v : Int) = 1
    · rw [if_pos c1, if_pos (by omega)]
      exact ⟨_, _, _, p + 1, rfl, ⟨rfl, by simp, by omega⟩, by omega⟩
    · rw [if_neg c1]
      by_cases c2 : (v : Int) = 2
      · obtain ⟨t, ht, g⟩ := num_tells hb hl (p + 1) k [0, -1, 9] (by omega) (by simp) (by omega)
        rw [if_pos c2, g]
        simp only [Option.bind_some]
        rw [if_pos (by omega)]
        exact ⟨_, _, _, p + 1 + 1, rfl, ⟨rfl, by omega, by simp⟩, by omega⟩
      · rw [if_neg c2]
        by_cases c3 : (v : Int) = 3
        · rw [if_pos c3]
          exact ⟨_, _, _, p + 1, rfl, ⟨rfl, by omega, by simp⟩, by omega⟩
        · rw [if_neg c3]
          exact ⟨_, _, _, p + 1, rfl, ⟨rfl, by omega, by omega⟩, by omega⟩

end Go.Proofs.Ythkipbdnfkpbgaa.A
