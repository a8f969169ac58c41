/- FnExactFormatHeap: it returns true for every input, and leaves its arguments as they were. The program's FormatHeap returns what the reference's returns, for all arguments. Conditions: the package-level variables that the row lists hold what the program's text lays there, and the card ties them to that text; the proof asks nothing of them. -/
import Derived.Test.YtomeaapjjmaepaaDoorRows
import Derived.Test.YtomeaapjjmaepaaDoorCLawsFnExactFormatHeap
import Derived.Test.YtomeaapjjmaepaaDoorQFnExactFormatHeap
import Derived.Test.YtomeaapjjmaepaaDoorR0
import Derived.Test.YtomeaapjjmaepaaDoorCards
import Derived.Test.YtomeaapjjmaepaaDoorTie
import Derived.WalkKit
import Derived.ProofKit
import Derived.OpenShut
import Derived.ShutString
import Derived.ChangeOld
import Derived.Below
import Derived.SizedLaws
import Derived.LaidMore
import Derived.Lay
import Derived.SevenTiedAt
import Derived.Stop.Joined
namespace Go.Proofs.YtomeaapjjmaepaaDoor.fnExactFormatHeap
open Go.ChangeShapes Go.WideShapes Go.ChangeAt Go.RowKit Go.Proofs.YtomeaapjjmaepaaDoorW.PrintWords
open Go.ChangeMaps (open_string shut_string)
set_option linter.unusedVariables false
theorem own : ownKnob Tryd.prog.godebug = none := by kernel_rfl
theorem laidOut : laidOutB Tryd.prog = true := by kernel_rfl
set_option maxRecDepth 100000 in
theorem lifted (os : Os) (started : os.Started) (H : Type) (enc : TypeId × Value → H) :
    ReturnsInHanded {} Tryd.checked os 7 .any (fun w args => (Rows.fnExactFormatHeapSpec.pre enc Tryd.prog Tryd.f7 Rows.fnExactFormatHeapRow.domain false w args ∧ laidMetH Tryd.prog Rows.fnExactFormatHeapRow.laid w) ∧ sizedMet enc Tryd.prog Tryd.f7 (OpenSpec.ofChange Rows.fnExactFormatHeapSpec) false w args) (Rows.fnExactFormatHeapSpec.post enc Tryd.prog Tryd.f7 false true false false) := by
  refine returnsInHanded_of_change_and (C := Tryd.checked) (X := fun w _ => laidMetH Tryd.prog Rows.fnExactFormatHeapRow.laid w) (fun _ _ _ hh h => h.of_heap hh) own started (by kernel_rfl) Tryd.func7
    (ChangeSpec.witness_shaped (enc := enc) (C := Tryd.checked) (os := os) (X := fun w _ => laidMetH Tryd.prog Rows.fnExactFormatHeapRow.laid w) false (World.laidAll Tryd.prog os Rows.fnExactFormatHeapRow.laid) #[.agg #[.slice none 0 0, .slice none 0 0, .slice none 0 0]] 8 (World.laidAll_os _ _ _)
      (World.shaped_of_ZipB (by kernel_rfl) (by kernel_rfl)) (by kernel_rfl) (by kernel_rfl) (by kernel_rfl)
      (by rw [MakeChecks.laidMetH_plain _ _ _ (by kernel_rfl)]; exact laidMet_laidAll _ (by kernel_rfl) (by kernel_rfl))) ?_
  intro W base args ds gs before hval0 hW hcnd hsz0 _ _
  have hsz : (DataW.weightsEach Tryd.prog (Tryd.f7.params.toList ++ Rows.fnExactFormatHeapSpec.plain.varTypes Tryd.prog) (ds ++ gs)).all (· ≤ reachBytes) = true := hsz0
  have hval : ∀ (j : Nat) t v, Tryd.f7.params[j]? = some t → args[j]? = some v → Value.okWide Tryd.prog W .any base t v := hval0
  have hW' := hW
  obtain ⟨p, q, hA0, hV, rfl, hfz, hnd⟩ := hW
  have hA : DataW.TrodAll enc Tryd.prog W 0 (fun _ => true) true Tryd.f7.params.toList args.toList ds p := hA0
  rw [Tryd.params7] at hA hval hsz
  obtain ⟨v0, vs0, d0, ds0, p0, q0, hargs, rfl, rfl, h0, r0⟩ := trodAll_cons hA
  obtain ⟨rfl, rfl, rfl⟩ := trodAll_nil r0
  obtain rfl : args = #[v0] := by cases args; simp_all
  obtain ⟨rfl, rfl⟩ := trodVars_none hV
  have k0 := h0
  have lt0 : ∀ x ∈ p0, x.block < W.heap.size := by obtain ⟨m, hm⟩ := k0; exact DataW.trod_lt m _ _ _ hm
  obtain ⟨a0_0, c0_0, l0_0, a0_1, c0_1, l0_1, a0_2, c0_2, l0_2, rfl, ⟨_, i0_0⟩, ⟨_, i0_1⟩, ⟨_, i0_2⟩⟩ := A.open_heap Tryd.underlying39 ⟨rfl, rfl⟩ ⟨rfl, rfl⟩ ⟨rfl, rfl⟩ (by kernel_rfl) (by kernel_rfl) Tryd.underlying22 Tryd.underlying3 (by kernel_rfl) (hval 0 39 v0 rfl rfl) h0
  clear hA0 hval0 hsz0 hsz
  obtain ⟨k, hk⟩ := A.pure_FnExactFormatHeap l0_0 l0_1 l0_2 i0_0.2.2.2.1 i0_1.2.2.2.1 i0_2.2.2.2.1
  refine (A.laws_FnExactFormatHeap.calls k _ _ l0_0 _ _ l0_1 _ _ l0_2 true W i0_0.2.1 i0_0.2.2.1 i0_1.2.1 i0_1.2.2.1 i0_2.2.1 i0_2.2.2.1 hk).mono fun e W' ⟨he, bel⟩ => ?_
  subst he
  exact ⟨_, rfl, _, _, _, [], _, [], hW', trodAll_mk1 (shut_bool Tryd.underlying4 _), (trodAll_cons_mk (Below.trod laidOut (by kernel_rfl) (of_decide_eq_true (by kernel_rfl)) k0 bel lt0) trodAll_mk0), rfl, bel.frame _, fun h => by cases h⟩
theorem over : Rows.fnExactFormatHeapRow.holds Tryd.pinned (OpenSpec.ofChange Rows.fnExactFormatHeapSpec) :=
  OpenClaim.holds_of_wide 7 Tryd.f7 rfl rfl rfl rfl rfl rfl rfl ⟨rfl, rfl, rfl, rfl, rfl⟩ rfl rfl rfl rfl rfl (by kernel_rfl) Tryd.func7 (by kernel_rfl)
    (of_decide_eq_true (by kernel_rfl)) (by unfold Func.isWrapper; first | (rw [if_pos (by decide +kernel)]; kernel_rfl) | (rw [if_neg (by decide +kernel)]; exact ⟨rfl, rfl⟩))
    (fun os started H enc _ => lifted os started H enc)
theorem proved : Rows.FnExactFormatHeapSaid := over
theorem carded : Rows.FnExactFormatHeapCardSaid :=
  Claim7.holds_tied_plain_at .later [] [.data, .data, .data] true (true, "65416d93371f744de26b8f73a69a8b6e86ad29b3020a0f331ddf3cdd39f46179") false over (fun _ h => by cases h) (by kernel_rfl) (fun _ h => by cases h) fnExactFormatHeap_row_tie rfl ⟨rfl, rfl⟩ (by kernel_rfl) rfl
    (fun f fn hf hfn => by
      obtain rfl : f = 7 := Option.some.inj ((show Tryd.prog.funcNamed Rows.fnExactFormatHeapRow.func = some 7 by kernel_rfl).symm.trans hf) |>.symm
      obtain rfl : fn = Tryd.f7 := (Option.some.inj (Tryd.func7.symm.trans hfn)).symm
      exact ⟨by kernel_rfl, fun j t ht => by
        rw [Tryd.params7] at ht
        have hm : t ∈ [39] := by simpa using Array.mem_of_getElem? ht
        have hall : ([39].all fun u => !Tryd.prog.wantsStandIn u) = true := by kernel_rfl
        exact (show Tryd.prog.wantsStandIn t = false by simpa using List.all_eq_true.1 hall t hm)⟩)
    (by kernel_rfl)
#print axioms carded
#print axioms proved
end Go.Proofs.YtomeaapjjmaepaaDoor.fnExactFormatHeap
namespace Go.Proofs.YtomeaapjjmaepaaDoor
/-- The statement, under a short name. -/
theorem fnExactFormatHeap_holds : Rows.FnExactFormatHeapCardSaid := fnExactFormatHeap.carded
end Go.Proofs.YtomeaapjjmaepaaDoor
