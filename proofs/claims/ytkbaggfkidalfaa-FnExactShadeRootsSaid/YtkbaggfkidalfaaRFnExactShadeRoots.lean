/- FnExactShadeRoots: it returns true for every input, and leaves its arguments as they were. The program's ShadeRoots returns what the reference's returns, for all arguments. No conditions. -/
import Derived.Test.YtkbaggfkidalfaaRows
import Derived.Test.YtkbaggfkidalfaaCLawsFnExactShadeRoots
import Derived.Test.YtkbaggfkidalfaaQFnExactShadeRoots
import Derived.Test.YtkbaggfkidalfaaR0
import Derived.WalkKit
import Derived.ProofKit
import Derived.OpenShut
import Derived.ShutString
import Derived.ChangeOld
import Derived.Below
import Derived.SizedLaws
namespace Go.Proofs.Ytkbaggfkidalfaa.fnExactShadeRoots
open Go.ChangeShapes Go.WideShapes Go.ChangeAt Go.RowKit Go.Proofs.YtkbaggfkidalfaaW.PrintWords
open Go.ChangeMaps (open_string shut_string)
set_option linter.unusedVariables false
theorem own : ownKnob Try.prog.godebug = none := by kernel_rfl
theorem laidOut : laidOutB Try.prog = true := by kernel_rfl
set_option maxRecDepth 100000 in
theorem lifted (os : Os) (started : os.Started) (H : Type) (enc : TypeId × Value → H) :
    ReturnsInHanded {} Try.checked os 4 .any (Rows.fnExactShadeRootsSpec.pre6 enc Try.prog Try.f4 Rows.fnExactShadeRootsRow.domain false) (Rows.fnExactShadeRootsSpec.post enc Try.prog Try.f4 false true false false) := by
  refine returnsInHanded_of_change_sized (C := Try.checked) own started (by kernel_rfl) Try.func4
    (ChangeSpec.witness6 (enc := enc) (C := Try.checked) false ⟨#[], #[.agg #[.slice none 0 0, .slice none 0 0, .slice none 0 0, .slice none 0 0]], []⟩ 8 (by kernel_rfl) (by kernel_rfl) (by kernel_rfl) (by kernel_rfl)) ?_
  intro W base args ds gs before hval0 hW hcnd hsz0 _
  have hsz : (DataW.weightsEach Try.prog (Try.f4.params.toList ++ Rows.fnExactShadeRootsSpec.plain.varTypes Try.prog) (ds ++ gs)).all (· ≤ reachBytes) = true := hsz0
  have hval : ∀ (j : Nat) t v, Try.f4.params[j]? = some t → args[j]? = some v → Value.okWide Try.prog W .any base t v := hval0
  have hW' := hW
  obtain ⟨p, q, hA0, hV, rfl, hfz, hnd⟩ := hW
  have hA : DataW.TrodAll enc Try.prog W 0 (fun _ => true) true Try.f4.params.toList args.toList ds p := hA0
  rw [Try.params4] at hA hval hsz
  obtain ⟨v0, vs0, d0, ds0, p0, q0, hargs, rfl, rfl, h0, r0⟩ := trodAll_cons hA
  obtain ⟨rfl, rfl, rfl⟩ := trodAll_nil r0
  obtain rfl : args = #[v0] := by cases args; simp_all
  obtain ⟨rfl, rfl⟩ := trodVars_none hV
  have k0 := h0
  have lt0 : ∀ x ∈ p0, x.block < W.heap.size := by obtain ⟨m, hm⟩ := k0; exact DataW.trod_lt m _ _ _ hm
  obtain ⟨a0_0, c0_0, l0_0, a0_1, c0_1, l0_1, a0_2, c0_2, l0_2, a0_3, c0_3, l0_3, rfl, ⟨_, i0_0⟩, ⟨_, i0_1⟩, ⟨_, i0_2⟩, ⟨_, i0_3⟩⟩ := A.open_colored Try.underlying24 ⟨rfl, rfl⟩ ⟨rfl, rfl⟩ ⟨rfl, rfl⟩ (by kernel_rfl) (by kernel_rfl) Try.underlying26 ⟨rfl, rfl⟩ ⟨rfl, rfl⟩ (by kernel_rfl) Try.underlying22 Try.underlying3 (by kernel_rfl) (hval 0 26 v0 rfl rfl) h0
  clear hA0 hval0 hsz0 hsz
  obtain ⟨k, hk⟩ := A.pure_FnExactShadeRoots l0_0 l0_1 l0_2 l0_3 i0_0.2.2.2.1 i0_1.2.2.2.1 i0_2.2.2.2.1 i0_3.2.2.2.1
  refine (A.laws_FnExactShadeRoots.calls k _ _ l0_0 _ _ l0_1 _ _ l0_2 _ _ l0_3 true W i0_0.2.1 i0_0.2.2.1 i0_1.2.1 i0_1.2.2.1 i0_2.2.1 i0_2.2.2.1 i0_3.2.1 i0_3.2.2.1 hk).mono fun e W' ⟨he, bel⟩ => ?_
  subst he
  exact ⟨_, rfl, _, _, _, [], _, [], hW', trodAll_mk1 (shut_bool Try.underlying4 _), (trodAll_cons_mk (Below.trod laidOut (by kernel_rfl) (of_decide_eq_true (by kernel_rfl)) k0 bel lt0) trodAll_mk0), rfl, bel.frame _, fun h => by cases h⟩
theorem over : Rows.fnExactShadeRootsRow.holds Try.pinned (OpenSpec.ofChange Rows.fnExactShadeRootsSpec) :=
  OpenClaim.holds_of_wide 4 Try.f4 rfl rfl rfl rfl rfl rfl rfl ⟨rfl, rfl, rfl, rfl, rfl⟩ rfl rfl rfl rfl rfl (by kernel_rfl) Try.func4 (by kernel_rfl)
    (of_decide_eq_true (by kernel_rfl)) (by unfold Func.isWrapper; first | (rw [if_pos (by decide +kernel)]; kernel_rfl) | (rw [if_neg (by decide +kernel)]; exact ⟨rfl, rfl⟩))
    (fun os started H enc _ => lifted os started H enc)
theorem proved : Rows.FnExactShadeRootsSaid := over
#print axioms proved
end Go.Proofs.Ytkbaggfkidalfaa.fnExactShadeRoots
namespace Go.Proofs.Ytkbaggfkidalfaa
/-- The statement, under a short name. -/
theorem fnExactShadeRoots_holds : Rows.FnExactShadeRootsSaid := fnExactShadeRoots.proved
end Go.Proofs.Ytkbaggfkidalfaa
