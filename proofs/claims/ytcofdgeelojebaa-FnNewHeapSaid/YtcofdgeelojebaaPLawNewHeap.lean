/- Contracts of functions of the given program (PLawNewHeap). No conditions beyond those stated. -/
import Derived.Test.YtcofdgeelojebaaASpecDrawNewHeap
import Derived.Test.YtcofdgeelojebaaCLawsFnNewHeap
import Derived.Test.YtcofdgeelojebaaPCp
import Derived.Test.YtcofdgeelojebaaPCpimpl
import Derived.Test.YtcofdgeelojebaaPHvdef
import Derived.Test.YtcofdgeelojebaaPHvimpl
import Derived.Test.YtcofdgeelojebaaPNewheap
import Derived.Test.YtcofdgeelojebaaPNhimpl
import Derived.Test.YtcofdgeelojebaaPNhspec
import Derived.Test.YtcofdgeelojebaaPPick
import Derived.Test.YtcofdgeelojebaaPSameImplHeapSame
import Derived.Test.YtcofdgeelojebaaA0
namespace Go.Proofs.Ytcofdgeelojebaa.A
open Go.RowKit Go.Proofs.YtcofdgeelojebaaW.PrintWords Go.Proofs.YtcofdgeelojebaaW.PrintLast Go.Proofs.YtcofdgeelojebaaW.PrintMore
attribute [local go_sem] max2_int min2_int max_two min_two max_three min_three max_four min_four   -- for this text's walks alone
set_option linter.unusedVariables false
set_option linter.unusedSimpArgs false

theorem drawNewHeap_tells {code : List Int} (hb0 : bytesOk code) (k : Nat) (hk : 100 ≤ k) : ∃ x y, spec_DrawNewHeap.f k code = some (x, y) := by
  obtain ⟨b, hl, hb1, e0⟩ := open_tells code
  have hb := hb1 hb0
  obtain ⟨u, _, e3⟩ := num_tells hb hl 0 k [4, 1, 8, 0, 9] (by omega) (by simp) (by omega)
  obtain ⟨t, _, e4⟩ := num_tells hb hl (0 + 1) k [2, 1, 3, 0, 4] (by omega) (by simp) (by omega)
  refine ⟨u, t, ?_⟩
  unfold spec_DrawNewHeap.f
  rw [e0]
  simp only [Option.bind_some]
  rw [e3]
  simp only [Option.bind_some]
  rw [e4]
  rfl
theorem cnt_rep (n : Nat) : cnt (List.replicate n (-1)) = 0 := by
  unfold cnt; rw [List.countP_replicate]; simp
theorem pure_FnNewHeap (code : List Int) (_hl : code.length ≤ 9223372036854775807) (hb : ∀ x ∈ code, 0 ≤ x ∧ x ≤ 255) : ∃ k, laws_FnNewHeap.f k code = some true := by
  refine ⟨1048600, ?_⟩
  obtain ⟨k, hk⟩ : ∃ k : Nat, k = 1048599 := ⟨_, rfl⟩
  rw [show 1048600 = k + 1 from by omega]
  unfold laws_FnNewHeap.f
  by_cases h0 : (code.length : Int) > 1048576
  · rw [if_pos h0]
  rw [if_neg h0]
  obtain ⟨x, y, e⟩ := drawNewHeap_tells (code := code) hb (k + 1) (by omega)
  rw [e]
  simp only [Option.bind_some]
  have hl := nhM_lens x y
  rw [implNH_tells x y _ (by omega), specNH_tells x y _ (by omega)]
  simp only [Option.bind_some]
  rw [implHeapSame_tells _ _ _ _ _ _ _ (by omega) (by omega) (by omega) (by omega)]
  simp only [Option.bind_some]
  rw [if_pos (by simp), if_neg (by simp), laws_FnNewHeap.j0]
  by_cases h : 1 ≤ x ∧ x ≤ 8 ∧ 1 ≤ y ∧ y ≤ 3
  · have e2 : nhM x y = (List.replicate x.toNat (-1), List.replicate x.toNat (-1), List.replicate y.toNat (-1), true) := by unfold nhM; rw [if_pos h]
    have hv0 : hv (List.replicate x.toNat (-1)) (List.replicate x.toNat (-1)) (List.replicate y.toNat (-1)) = true := by
      refine hv_iff.2 ⟨by simp; omega, ?_, ?_, ?_⟩ <;> intro w hw <;> rw [(List.mem_replicate.1 hw).2] <;> simp <;> omega
    rw [e2]
    simp only [Bool.not_true]
    rw [if_neg Bool.false_ne_true, implHV_tells _ _ _ _ (by omega), hv0]
    simp only [Option.bind_some]
    rw [if_pos (by simp), if_pos (by simp; omega), if_pos (by simp; omega), implCP_tells _ _ _ _ (by omega)]
    simp only [Option.bind_some]
    unfold cpM
    rw [if_pos hv0, List.replicate_append_replicate, List.replicate_append_replicate, cnt_rep]
    rfl
  · have e2 : nhM x y = ([], [], [], false) := by unfold nhM; rw [if_neg h]
    rw [e2]
    simp only [Bool.not_false]
    rw [if_pos (by simp), implHeapSame_tells _ _ _ _ _ _ _ (by simp) (by simp) (by simp) (by omega)]
    simp

end Go.Proofs.Ytcofdgeelojebaa.A
