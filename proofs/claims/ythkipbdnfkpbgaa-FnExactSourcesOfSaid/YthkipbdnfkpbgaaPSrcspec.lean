/- Contracts of functions of the given program (PSrcspec). No conditions beyond those stated. -/
import Derived.Test.YthkipbdnfkpbgaaASpecL2Points
import Derived.Test.YthkipbdnfkpbgaaASpecSourcesOf
import Derived.Test.YthkipbdnfkpbgaaPBase
import Derived.Test.YthkipbdnfkpbgaaPCell
import Derived.Test.YthkipbdnfkpbgaaPCellspec
import Derived.Test.YthkipbdnfkpbgaaPHvdef
import Derived.Test.YthkipbdnfkpbgaaPSrc
import Derived.Test.YthkipbdnfkpbgaaA0
namespace Go.Proofs.Ythkipbdnfkpbgaa.A
open Go.RowKit Go.Proofs.YthkipbdnfkpbgaaW.PrintWords Go.Proofs.YthkipbdnfkpbgaaW.PrintLast Go.Proofs.YthkipbdnfkpbgaaW.PrintMore
attribute [local go_sem] max2_int min2_int max_two min_two max_three min_three max_four min_four   -- for this text's walks alone
set_option linter.unusedVariables false
set_option linter.unusedSimpArgs false

theorem l2Points_tells (a b c : List Int) (i : Nat) (x : Int) (h : i < a.length) (hb : b.length = a.length) : spec_l2Points.f a b c (i : Int) x = some (decide (rd a (i : Int) = x ∨ rd b (i : Int) = x)) := by
  unfold spec_l2Points.f
  rw [if_pos (by omega), if_pos (by omega)]
  by_cases h1 : rd a (i : Int) = x
  · rw [if_pos h1]; simp [h1]
  · rw [if_neg h1, if_pos (by omega)]; simp [h1]; rw [Bool.eq_iff_iff]; simp
theorem specSrc_l0 (a b c : List Int) (x : Int) (hc : cellM a b c x = true) : ∀ (d i k : Nat) (o : List Int), i ≤ a.length → a.length - i = d → 2 * d + 60 < k → o.length ≤ i →
    spec_SourcesOf.l0 k x o (i : Int) a b c = some (o ++ srcFrom a b x i) := by
  have hl := hv_len (cellM_iff.1 hc).1
  intro d
  induction d with
  | zero =>
    intro i k o hi hd hk ho
    obtain ⟨k, rfl⟩ : ∃ m, k = m + 2 := ⟨k - 2, by omega⟩
    rw [spec_SourcesOf.l0, if_neg (by omega), spec_SourcesOf.j1, if_neg (by simp), srcFrom_nil _ _ _ _ (by omega), List.append_nil]
  | succ d ih =>
    intro i k o hi hd hk ho
    obtain ⟨k, rfl⟩ : ∃ m, k = m + 2 := ⟨k - 2, by omega⟩
    have hlt : i < a.length := by omega
    rw [spec_SourcesOf.l0, if_pos (by omega), l1Cell_tells a b c x (k + 1) (by omega), hc]
    simp only [Option.bind_some]
    rw [spec_SourcesOf.j1, if_pos rfl, l2Points_tells a b c i x hlt (by omega), srcFrom_cons a b x i hlt, wrap_succ hlt (by omega)]
    simp only [Option.bind_some, decide_eq_true_eq]
    by_cases h1 : rd a (i : Int) = x ∨ rd b (i : Int) = x
    · rw [if_pos h1, if_pos h1, if_pos (by omega), ih (i + 1) k _ (by omega) (by omega) (by omega) (by simp; omega), List.append_assoc]
    · rw [if_neg h1, if_neg h1, ih (i + 1) k o (by omega) (by omega) (by omega) (by omega), List.nil_append]
theorem specSrc_tells (a b c : List Int) (x : Int) (k : Nat) (hk : 100 ≤ k) : spec_SourcesOf.f k a b c x = some (srcM a b c x) := by
  unfold spec_SourcesOf.f srcM
  cases h : cellM a b c x with
  | true =>
    have hl := hv_len (cellM_iff.1 h).1
    rw [if_pos rfl]
    exact specSrc_l0 a b c x h a.length 0 k [] (by omega) (by omega) (by omega) (by simp)
  | false =>
    obtain ⟨k, rfl⟩ : ∃ m, k = m + 2 := ⟨k - 2, by omega⟩
    rw [if_neg (by simp), spec_SourcesOf.l0, l1Cell_tells a b c x (k + 1) (by omega), h]
    simp only [Option.bind_some]
    by_cases h1 : (0 : Int) < (a.length : Int)
    · rw [if_pos h1, spec_SourcesOf.j1, if_neg (by simp)]
    · rw [if_neg h1, spec_SourcesOf.j1, if_neg (by simp)]

end Go.Proofs.Ythkipbdnfkpbgaa.A
