/- Contracts of functions of the given program (PLawPutLeft). No conditions beyond those stated. -/
import Derived.Test.YthkipbdnfkpbgaaAImplPutLeft
import Derived.Test.YthkipbdnfkpbgaaCLawsFnPutLeft
import Derived.Test.YthkipbdnfkpbgaaPBase
import Derived.Test.YthkipbdnfkpbgaaPDrawputl
import Derived.Test.YthkipbdnfkpbgaaPHvdef
import Derived.Test.YthkipbdnfkpbgaaPHvimpl
import Derived.Test.YthkipbdnfkpbgaaPHvset
import Derived.Test.YthkipbdnfkpbgaaPPutL
import Derived.Test.YthkipbdnfkpbgaaPPutLimpl
import Derived.Test.YthkipbdnfkpbgaaPPutLspec
import Derived.Test.YthkipbdnfkpbgaaPSameImplHeapSame
import Derived.Test.YthkipbdnfkpbgaaA0
namespace Go.Proofs.Ythkipbdnfkpbgaa.A
open Go.RowKit Go.Proofs.YthkipbdnfkpbgaaW.PrintWords Go.Proofs.YthkipbdnfkpbgaaW.PrintLast Go.Proofs.YthkipbdnfkpbgaaW.PrintMore
attribute [local go_sem] max2_int min2_int max_two min_two max_three min_three max_four min_four   -- for this text's walks alone
set_option linter.unusedVariables false
set_option linter.unusedSimpArgs false

theorem pure_FnPutLeft (code : List Int) (_hl : code.length ≤ 9223372036854775807) (hb : ∀ x ∈ code, 0 ≤ x ∧ x ≤ 255) : ∃ k, laws_FnPutLeft.f k code = some true := by
  refine ⟨1048600, ?_⟩
  obtain ⟨k, hk⟩ : ∃ k : Nat, k = 1048599 := ⟨_, rfl⟩
  rw [show 1048600 = k + 1 from by omega]
  unfold laws_FnPutLeft.f
  by_cases h0 : (code.length : Int) > 1048576
  · rw [if_pos h0]
  rw [if_neg h0]
  obtain ⟨a, b, c, x, t, e, hs⟩ := drawPutLeft_tells (code := code) hb (k + 1) (by omega)
  rw [e]
  simp only [Option.bind_some]
  have hl := putLM_lens a b c x t
  rw [implPutL_tells a b c x t _ (by omega), specPutL_tells a b c x t _ (by omega)]
  simp only [Option.bind_some]
  rw [implHeapSame_tells _ _ _ _ _ _ _ (by omega) (by omega) (by omega) (by omega)]
  simp only [Option.bind_some]
  rw [if_pos (by simp), if_neg (by simp), laws_FnPutLeft.j0]
  by_cases h : hv a b c = true ∧ (0 ≤ x ∧ x < (a.length : Int)) ∧ okp a.length t = true
  · have e2 : putLM a b c x t = (a.set x.toNat t, b, c, true) := by unfold putLM; rw [if_pos h]
    obtain ⟨hv0, ⟨hx0, hx1⟩, ht⟩ := h
    have hh := hv_len hv0
    rw [e2]
    simp only [Bool.not_true]
    rw [if_neg Bool.false_ne_true, if_pos hx0, if_pos (by omega)]
    have hi := hv_iff.1 hv0
    have hto := okp_iff.1 ht
    have hv2 : hv (a.set x.toNat t) b c = true := hv_setL hv0 x.toNat ht
    obtain ⟨n, rfl⟩ : ∃ n : Nat, x = (n : Int) := ⟨x.toNat, by omega⟩
    rw [Int.toNat_natCast] at hv2 ⊢
    have hr : okp a.length (rd a (n : Int)) = true := okp_iff.2 (by first | exact hi.2.1 _ (rd_mem _ _ hx0 hx1) | exact hi.2.2.1 _ (rd_mem _ _ hx0 hx1) | exact hi.2.2.2 _ (rd_mem _ _ hx0 hx1))
    have hsr : rd (a.set n t) (n : Int) = t := by
      have := rd_set_eq a (n : Int) t hx0 hx1
      rwa [Int.toNat_natCast] at this
    have hback : (a.set n t).set n (rd a (n : Int)) = a := by
      rw [List.set_set, rd_nat a n (by omega), List.set_getElem_self]
    have hp : impl_PutLeft.f k (a.set n t) b c (n : Int) (rd a (n : Int)) = some (a, b, c, true) := by
      rw [implPutL_tells _ _ _ _ _ _ (by omega)]
      unfold putLM
      rw [if_pos ⟨hv2, ⟨hx0, by simp only [List.length_set]; omega⟩, by first | exact hr | (simp only [List.length_set]; exact hr)⟩, Int.toNat_natCast, hback]
    rw [hp, implHV_tells _ _ _ _ (by omega), hv2]
    simp only [Option.bind_some]
    rw [if_pos (by simp), if_pos (by simp only [List.length_set]; omega), if_pos hsr, if_pos (by simp), implHeapSame_tells _ _ _ _ _ _ _ (by omega) (by omega) (by omega) (by omega)]
    simp
  · have e2 : putLM a b c x t = ([], [], [], false) := by unfold putLM; rw [if_neg h]
    rw [e2]
    simp only [Bool.not_false]
    rw [if_pos (by simp), implHeapSame_tells _ _ _ _ _ _ _ (by simp) (by simp) (by simp) (by omega)]
    simp

end Go.Proofs.Ythkipbdnfkpbgaa.A
