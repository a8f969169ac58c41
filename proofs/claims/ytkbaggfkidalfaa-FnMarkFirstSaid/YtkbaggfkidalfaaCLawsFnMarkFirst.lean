/- Contracts of functions of the given program (CLawsFnMarkFirst). No conditions beyond those stated. -/
import Derived.Test.YtkbaggfkidalfaaA0
import Derived.Test.YtkbaggfkidalfaaAImplColoredSame
import Derived.Test.YtkbaggfkidalfaaAImplHeapSame
import Derived.Test.YtkbaggfkidalfaaAImplMarkStep
import Derived.Test.YtkbaggfkidalfaaASpecDrawMarkStep
import Derived.Test.YtkbaggfkidalfaaASpecMarkStep
import Derived.Test.YtkbaggfkidalfaaA0
namespace Go.Proofs.Ytkbaggfkidalfaa.A
open Go.RowKit Go.Proofs.YtkbaggfkidalfaaW.PrintWords Go.Proofs.YtkbaggfkidalfaaW.PrintLast Go.Proofs.YtkbaggfkidalfaaW.PrintMore
attribute [local go_sem] max2_int min2_int max_two min_two max_three min_three max_four min_four   -- for this text's walks alone
set_option linter.unusedVariables false
set_option linter.unusedSimpArgs false

/-! ### laws_FnMarkFirst -/
mutual
def laws_FnMarkFirst.j0 : Nat → Bool → Bool → Bool → Bool → Bool → List Int → List Int → List Int → List Int → List Int → List Int → List Int → List Int → List Int → List Int → List Int → List Int → Option (Bool)
 | 0, _, _, _, _, _, _, _, _, _, _, _, _, _, _, _, _, _ => none
 | k + 1, x5, x6, x8, x9, x45, x1277000, x1277001, x1277002, x1277003, x1292000, x1292001, x1292002, x1292003, x1307000, x1307001, x1307002, x1307003 => if x45 = true then ((impl_ColoredSame.f k x1292000 x1292001 x1292002 x1292003 x1307000 x1307001 x1307002 x1307003).bind fun t1308 => (if t1308 = true then (if (x5 == x8) = true then (some (x6 == x9)) else (none)) else (none))) else (laws_FnMarkFirst.l0 k 0 x1277000 x1277001 x1277002 x1277003 x1292000 x1292001 x1292002 x1292003)
def laws_FnMarkFirst.l0 : Nat → Int → List Int → List Int → List Int → List Int → List Int → List Int → List Int → List Int → Option (Bool)
 | 0, _, _, _, _, _, _, _, _, _ => none
 | k + 1, x10, x1277000, x1277001, x1277002, x1277003, x1292000, x1292001, x1292002, x1292003 => if x10 < (x1277003.length : Int) then (if 0 ≤ x10 then (if (rd x1277003 x10) = 1 then (if x10 < (x1292003.length : Int) then (if (rd x1292003 x10) = 2 then ((impl_HeapSame.f k x1292000 x1292001 x1292002 x1277000 x1277001 x1277002).bind fun t1311 => (some t1311)) else (none)) else (none)) else (laws_FnMarkFirst.l0 k (wrap64 (x10 + 1)) x1277000 x1277001 x1277002 x1277003 x1292000 x1292001 x1292002 x1292003)) else (none)) else (none)
end
def laws_FnMarkFirst.f (k : Nat) (l0 : List Int) : Option (Bool) := if (l0.length : Int) > 1048576 then (some true) else ((spec_DrawMarkStep.f k l0).bind fun bt1264 => ((impl_MarkStep.f k bt1264.1 bt1264.2.1 bt1264.2.2.1 bt1264.2.2.2).bind fun bt1277 => ((spec_MarkStep.f k bt1264.1 bt1264.2.1 bt1264.2.2.1 bt1264.2.2.2).bind fun bt1292 => ((impl_ColoredSame.f k bt1277.1 bt1277.2.1 bt1277.2.2.1 bt1277.2.2.2.1 bt1292.1 bt1292.2.1 bt1292.2.2.1 bt1292.2.2.2.1).bind fun t1307 => (if t1307 = true then (if (bt1277.2.2.2.2.1 != bt1292.2.2.2.2.1) = true then (laws_FnMarkFirst.j0 k bt1277.2.2.2.2.1 bt1277.2.2.2.2.2 bt1292.2.2.2.2.1 bt1292.2.2.2.2.2 true bt1264.1 bt1264.2.1 bt1264.2.2.1 bt1264.2.2.2 bt1277.1 bt1277.2.1 bt1277.2.2.1 bt1277.2.2.2.1 bt1292.1 bt1292.2.1 bt1292.2.2.1 bt1292.2.2.2.1) else (if (bt1277.2.2.2.2.2 != bt1292.2.2.2.2.2) = true then (laws_FnMarkFirst.j0 k bt1277.2.2.2.2.1 bt1277.2.2.2.2.2 bt1292.2.2.2.2.1 bt1292.2.2.2.2.2 true bt1264.1 bt1264.2.1 bt1264.2.2.1 bt1264.2.2.2 bt1277.1 bt1277.2.1 bt1277.2.2.1 bt1277.2.2.2.1 bt1292.1 bt1292.2.1 bt1292.2.2.1 bt1292.2.2.2.1) else (laws_FnMarkFirst.j0 k bt1277.2.2.2.2.1 bt1277.2.2.2.2.2 bt1292.2.2.2.2.1 bt1292.2.2.2.2.2 (!bt1277.2.2.2.2.1) bt1264.1 bt1264.2.1 bt1264.2.2.1 bt1264.2.2.2 bt1277.1 bt1277.2.1 bt1277.2.2.1 bt1277.2.2.2.1 bt1292.1 bt1292.2.1 bt1292.2.2.1 bt1292.2.2.2.1))) else (laws_FnMarkFirst.j0 k bt1277.2.2.2.2.1 bt1277.2.2.2.2.2 bt1292.2.2.2.2.1 bt1292.2.2.2.2.2 true bt1264.1 bt1264.2.1 bt1264.2.2.1 bt1264.2.2.2 bt1277.1 bt1277.2.1 bt1277.2.2.1 bt1277.2.2.2.1 bt1292.1 bt1292.2.1 bt1292.2.2.1 bt1292.2.2.2.1))))))
theorem laws_FnMarkFirst.mono_l : ∀ k, (∀ y0 y1 y2 y3 y4 y5 y6 y7 y8 y9 y10 y11 y12 y13 y14 y15 y16, LeO (laws_FnMarkFirst.j0 k y0 y1 y2 y3 y4 y5 y6 y7 y8 y9 y10 y11 y12 y13 y14 y15 y16) (laws_FnMarkFirst.j0 (k + 1) y0 y1 y2 y3 y4 y5 y6 y7 y8 y9 y10 y11 y12 y13 y14 y15 y16)) ∧ (∀ y0 y1 y2 y3 y4 y5 y6 y7 y8, LeO (laws_FnMarkFirst.l0 k y0 y1 y2 y3 y4 y5 y6 y7 y8) (laws_FnMarkFirst.l0 (k + 1) y0 y1 y2 y3 y4 y5 y6 y7 y8))
 | 0 => ⟨fun _ _ _ _ _ _ _ _ _ _ _ _ _ _ _ _ _ r h => by simp [laws_FnMarkFirst.j0] at h, fun _ _ _ _ _ _ _ _ _ r h => by simp [laws_FnMarkFirst.l0] at h⟩
 | k + 1 => by
  obtain ⟨ih0, ih1⟩ := laws_FnMarkFirst.mono_l k
  refine ⟨?_, ?_⟩
  ·intro y0 y1 y2 y3 y4 y5 y6 y7 y8 y9 y10 y11 y12 y13 y14 y15 y16
   unfold laws_FnMarkFirst.j0
   repeat' first
   | (with_reducible exact ih0 _ _ _ _ _ _ _ _ _ _ _ _ _ _ _ _ _)
   | (with_reducible exact ih1 _ _ _ _ _ _ _ _ _)
   | (with_reducible exact impl_ColoredSame.mono _ _ _ _ _ _ _ _ _)
   | (with_reducible exact impl_HeapSame.mono _ _ _ _ _ _ _)
   | (with_reducible exact impl_MarkStep.mono _ _ _ _ _)
   | (with_reducible exact spec_DrawMarkStep.mono _ _)
   | (with_reducible exact spec_MarkStep.mono _ _ _ _ _)
   | (with_reducible exact LeO.refl _)
   | (with_reducible exact LeO.none _)
   | (with_reducible refine LeO.ite ?_ ?_)
   | (with_reducible refine LeO.bind ?_ (fun _ => ?_))
   | exact ih0 _ _ _ _ _ _ _ _ _ _ _ _ _ _ _ _ _
   | exact ih1 _ _ _ _ _ _ _ _ _
   | exact impl_ColoredSame.mono _ _ _ _ _ _ _ _ _
   | exact impl_HeapSame.mono _ _ _ _ _ _ _
   | exact impl_MarkStep.mono _ _ _ _ _
   | exact spec_DrawMarkStep.mono _ _
   | exact spec_MarkStep.mono _ _ _ _ _
   | exact LeO.none _
   | refine LeO.ite ?_ ?_
   | refine LeO.bind ?_ (fun _ => ?_)
  ·intro y0 y1 y2 y3 y4 y5 y6 y7 y8
   unfold laws_FnMarkFirst.l0
   repeat' first
   | (with_reducible exact ih0 _ _ _ _ _ _ _ _ _ _ _ _ _ _ _ _ _)
   | (with_reducible exact ih1 _ _ _ _ _ _ _ _ _)
   | (with_reducible exact impl_ColoredSame.mono _ _ _ _ _ _ _ _ _)
   | (with_reducible exact impl_HeapSame.mono _ _ _ _ _ _ _)
   | (with_reducible exact impl_MarkStep.mono _ _ _ _ _)
   | (with_reducible exact spec_DrawMarkStep.mono _ _)
   | (with_reducible exact spec_MarkStep.mono _ _ _ _ _)
   | (with_reducible exact LeO.refl _)
   | (with_reducible exact LeO.none _)
   | (with_reducible refine LeO.ite ?_ ?_)
   | (with_reducible refine LeO.bind ?_ (fun _ => ?_))
   | exact ih0 _ _ _ _ _ _ _ _ _ _ _ _ _ _ _ _ _
   | exact ih1 _ _ _ _ _ _ _ _ _
   | exact impl_ColoredSame.mono _ _ _ _ _ _ _ _ _
   | exact impl_HeapSame.mono _ _ _ _ _ _ _
   | exact impl_MarkStep.mono _ _ _ _ _
   | exact spec_DrawMarkStep.mono _ _
   | exact spec_MarkStep.mono _ _ _ _ _
   | exact LeO.none _
   | refine LeO.ite ?_ ?_
   | refine LeO.bind ?_ (fun _ => ?_)
theorem laws_FnMarkFirst.mono : ∀ a0 k, LeO (laws_FnMarkFirst.f k a0) (laws_FnMarkFirst.f (k + 1) a0) := by
 intro a0 k
 obtain ⟨ih0, ih1⟩ := laws_FnMarkFirst.mono_l k
 unfold laws_FnMarkFirst.f
 repeat' first
   | (with_reducible exact ih0 _ _ _ _ _ _ _ _ _ _ _ _ _ _ _ _ _)
   | (with_reducible exact ih1 _ _ _ _ _ _ _ _ _)
   | (with_reducible exact impl_ColoredSame.mono _ _ _ _ _ _ _ _ _)
   | (with_reducible exact impl_HeapSame.mono _ _ _ _ _ _ _)
   | (with_reducible exact impl_MarkStep.mono _ _ _ _ _)
   | (with_reducible exact spec_DrawMarkStep.mono _ _)
   | (with_reducible exact spec_MarkStep.mono _ _ _ _ _)
   | (with_reducible exact LeO.refl _)
   | (with_reducible exact LeO.none _)
   | (with_reducible refine LeO.ite ?_ ?_)
   | (with_reducible refine LeO.bind ?_ (fun _ => ?_))
   | exact ih0 _ _ _ _ _ _ _ _ _ _ _ _ _ _ _ _ _
   | exact ih1 _ _ _ _ _ _ _ _ _
   | exact impl_ColoredSame.mono _ _ _ _ _ _ _ _ _
   | exact impl_HeapSame.mono _ _ _ _ _ _ _
   | exact impl_MarkStep.mono _ _ _ _ _
   | exact spec_DrawMarkStep.mono _ _
   | exact spec_MarkStep.mono _ _ _ _ _
   | exact LeO.none _
   | refine LeO.ite ?_ ?_
   | refine LeO.bind ?_ (fun _ => ?_)
set_option maxHeartbeats 8000000 in
set_option maxRecDepth 100000 in
theorem laws_FnMarkFirst.calls (k : Nat) (A0 : Option Addr) (c0 : Nat) (l0 : List Int) (r : Bool) (w : World) (hr0 : Kd.C (Kd.int .u8) w A0 l0.length l0) (hc0 : l0.length ≤ c0) (h : laws_FnMarkFirst.f k l0 = some r) :
  Calls Try.prog 11 #[.slice A0 l0.length c0] w fun e w' => e = .returned (.bool r) ∧ Below w.heap.size w w' := by
 have hu30 := Try.underlying30
 have hu28 := Try.underlying28
 have HR0 := am hr0
 have HC0 := am hc0
 clear hr0 hc0
 have HB := am (Below.refl w.heap.size w)
 have H : (if (l0.length : Int) > 1048576 then (some true) else ((spec_DrawMarkStep.f k l0).bind fun bt1264 => ((impl_MarkStep.f k bt1264.1 bt1264.2.1 bt1264.2.2.1 bt1264.2.2.2).bind fun bt1277 => ((spec_MarkStep.f k bt1264.1 bt1264.2.1 bt1264.2.2.1 bt1264.2.2.2).bind fun bt1292 => ((impl_ColoredSame.f k bt1277.1 bt1277.2.1 bt1277.2.2.1 bt1277.2.2.2.1 bt1292.1 bt1292.2.1 bt1292.2.2.1 bt1292.2.2.2.1).bind fun t1307 => (if t1307 = true then (if (bt1277.2.2.2.2.1 != bt1292.2.2.2.2.1) = true then (laws_FnMarkFirst.j0 k bt1277.2.2.2.2.1 bt1277.2.2.2.2.2 bt1292.2.2.2.2.1 bt1292.2.2.2.2.2 true bt1264.1 bt1264.2.1 bt1264.2.2.1 bt1264.2.2.2 bt1277.1 bt1277.2.1 bt1277.2.2.1 bt1277.2.2.2.1 bt1292.1 bt1292.2.1 bt1292.2.2.1 bt1292.2.2.2.1) else (if (bt1277.2.2.2.2.2 != bt1292.2.2.2.2.2) = true then (laws_FnMarkFirst.j0 k bt1277.2.2.2.2.1 bt1277.2.2.2.2.2 bt1292.2.2.2.2.1 bt1292.2.2.2.2.2 true bt1264.1 bt1264.2.1 bt1264.2.2.1 bt1264.2.2.2 bt1277.1 bt1277.2.1 bt1277.2.2.1 bt1277.2.2.2.1 bt1292.1 bt1292.2.1 bt1292.2.2.1 bt1292.2.2.2.1) else (laws_FnMarkFirst.j0 k bt1277.2.2.2.2.1 bt1277.2.2.2.2.2 bt1292.2.2.2.2.1 bt1292.2.2.2.2.2 (!bt1277.2.2.2.2.1) bt1264.1 bt1264.2.1 bt1264.2.2.1 bt1264.2.2.2 bt1277.1 bt1277.2.1 bt1277.2.2.1 bt1277.2.2.2.1 bt1292.1 bt1292.2.1 bt1292.2.2.1 bt1292.2.2.2.1))) else (laws_FnMarkFirst.j0 k bt1277.2.2.2.2.1 bt1277.2.2.2.2.2 bt1292.2.2.2.2.1 bt1292.2.2.2.2.2 true bt1264.1 bt1264.2.1 bt1264.2.2.1 bt1264.2.2.2 bt1277.1 bt1277.2.1 bt1277.2.2.1 bt1277.2.2.2.1 bt1292.1 bt1292.2.1 bt1292.2.2.1 bt1292.2.2.2.1))))))) = some r := h
 clear h
 by_cases c2 : (l0.length : Int) > 1048576
 ·rw [if_pos c2] at H
  have c2b0 : decide (1048576 < (l0.length : Int)) = true := decide_eq_true c2
  have c2b1 : decide (1048576 < l0.length) = true := decide_eq_true (by omega)
  clear c2
  obtain rfl := Option.some.inj H
  go_enter Try.func11, Try.ntmps11
  go_wp2
  go_ret
  exact ⟨by first | rfl | (simp [errW_none, errW_some] <;> rfl) | (simp [*, errW_none, errW_some] <;> rfl), by exact bs0 HB.out⟩
 ·rw [if_neg c2] at H
  have c2b0 : decide (1048576 < (l0.length : Int)) = false := decide_eq_false c2
  have c2b1 : decide (1048576 < l0.length) = false := decide_eq_false (by omega)
  clear c2
  replace H := Option.bind_eq_some_iff.mp H
  obtain ⟨⟨t1264, t1267, t1270, t1273⟩, A30, H⟩ := H
  replace H : ((impl_MarkStep.f k t1264 t1267 t1270 t1273).bind fun bt1277 => ((spec_MarkStep.f k t1264 t1267 t1270 t1273).bind fun bt1292 => ((impl_ColoredSame.f k bt1277.1 bt1277.2.1 bt1277.2.2.1 bt1277.2.2.2.1 bt1292.1 bt1292.2.1 bt1292.2.2.1 bt1292.2.2.2.1).bind fun t1307 => (if t1307 = true then (if (bt1277.2.2.2.2.1 != bt1292.2.2.2.2.1) = true then (laws_FnMarkFirst.j0 k bt1277.2.2.2.2.1 bt1277.2.2.2.2.2 bt1292.2.2.2.2.1 bt1292.2.2.2.2.2 true t1264 t1267 t1270 t1273 bt1277.1 bt1277.2.1 bt1277.2.2.1 bt1277.2.2.2.1 bt1292.1 bt1292.2.1 bt1292.2.2.1 bt1292.2.2.2.1) else (if (bt1277.2.2.2.2.2 != bt1292.2.2.2.2.2) = true then (laws_FnMarkFirst.j0 k bt1277.2.2.2.2.1 bt1277.2.2.2.2.2 bt1292.2.2.2.2.1 bt1292.2.2.2.2.2 true t1264 t1267 t1270 t1273 bt1277.1 bt1277.2.1 bt1277.2.2.1 bt1277.2.2.2.1 bt1292.1 bt1292.2.1 bt1292.2.2.1 bt1292.2.2.2.1) else (laws_FnMarkFirst.j0 k bt1277.2.2.2.2.1 bt1277.2.2.2.2.2 bt1292.2.2.2.2.1 bt1292.2.2.2.2.2 (!bt1277.2.2.2.2.1) t1264 t1267 t1270 t1273 bt1277.1 bt1277.2.1 bt1277.2.2.1 bt1277.2.2.2.1 bt1292.1 bt1292.2.1 bt1292.2.2.1 bt1292.2.2.2.1))) else (laws_FnMarkFirst.j0 k bt1277.2.2.2.2.1 bt1277.2.2.2.2.2 bt1292.2.2.2.2.1 bt1292.2.2.2.2.2 true t1264 t1267 t1270 t1273 bt1277.1 bt1277.2.1 bt1277.2.2.1 bt1277.2.2.2.1 bt1292.1 bt1292.2.1 bt1292.2.2.1 bt1292.2.2.2.1))))) = some r := H
  have A3 := am A30
  clear A30
  replace H := Option.bind_eq_some_iff.mp H
  obtain ⟨⟨t1277, t1280, t1283, t1286, t1289, t1290⟩, A40, H⟩ := H
  replace H : ((spec_MarkStep.f k t1264 t1267 t1270 t1273).bind fun bt1292 => ((impl_ColoredSame.f k t1277 t1280 t1283 t1286 bt1292.1 bt1292.2.1 bt1292.2.2.1 bt1292.2.2.2.1).bind fun t1307 => (if t1307 = true then (if (t1289 != bt1292.2.2.2.2.1) = true then (laws_FnMarkFirst.j0 k t1289 t1290 bt1292.2.2.2.2.1 bt1292.2.2.2.2.2 true t1264 t1267 t1270 t1273 t1277 t1280 t1283 t1286 bt1292.1 bt1292.2.1 bt1292.2.2.1 bt1292.2.2.2.1) else (if (t1290 != bt1292.2.2.2.2.2) = true then (laws_FnMarkFirst.j0 k t1289 t1290 bt1292.2.2.2.2.1 bt1292.2.2.2.2.2 true t1264 t1267 t1270 t1273 t1277 t1280 t1283 t1286 bt1292.1 bt1292.2.1 bt1292.2.2.1 bt1292.2.2.2.1) else (laws_FnMarkFirst.j0 k t1289 t1290 bt1292.2.2.2.2.1 bt1292.2.2.2.2.2 (!t1289) t1264 t1267 t1270 t1273 t1277 t1280 t1283 t1286 bt1292.1 bt1292.2.1 bt1292.2.2.1 bt1292.2.2.2.1))) else (laws_FnMarkFirst.j0 k t1289 t1290 bt1292.2.2.2.2.1 bt1292.2.2.2.2.2 true t1264 t1267 t1270 t1273 t1277 t1280 t1283 t1286 bt1292.1 bt1292.2.1 bt1292.2.2.1 bt1292.2.2.2.1)))) = some r := H
  have A4 := am A40
  clear A40
  replace H := Option.bind_eq_some_iff.mp H
  obtain ⟨⟨t1292, t1295, t1298, t1301, t1304, t1305⟩, A50, H⟩ := H
  replace H : ((impl_ColoredSame.f k t1277 t1280 t1283 t1286 t1292 t1295 t1298 t1301).bind fun t1307 => (if t1307 = true then (if (t1289 != t1304) = true then (laws_FnMarkFirst.j0 k t1289 t1290 t1304 t1305 true t1264 t1267 t1270 t1273 t1277 t1280 t1283 t1286 t1292 t1295 t1298 t1301) else (if (t1290 != t1305) = true then (laws_FnMarkFirst.j0 k t1289 t1290 t1304 t1305 true t1264 t1267 t1270 t1273 t1277 t1280 t1283 t1286 t1292 t1295 t1298 t1301) else (laws_FnMarkFirst.j0 k t1289 t1290 t1304 t1305 (!t1289) t1264 t1267 t1270 t1273 t1277 t1280 t1283 t1286 t1292 t1295 t1298 t1301))) else (laws_FnMarkFirst.j0 k t1289 t1290 t1304 t1305 true t1264 t1267 t1270 t1273 t1277 t1280 t1283 t1286 t1292 t1295 t1298 t1301))) = some r := H
  have A5 := am A50
  clear A50
  have HC6 := am H
  clear H
  go_enter Try.func11, Try.ntmps11
  go_upto_region 6 with (first | ((with_reducible refine gate_callee (f := 40) rfl ?_); refine gL (some 15) rfl rfl Try.func40 (by kernel_rfl) rfl #[.slice A0 l0.length c0] rfl ?_; (with_reducible refine (spec_DrawMarkStep.calls k _ _ l0 t1264 t1267 t1270 t1273 _ ?side1 ?side2 A3.out).mono ?_); (case side1 => exact cl (HR0.out)); (case side2 => exact HC0.out); rintro e w7 ⟨v1265, v1268, v1271, v1274, rfl, ho0, ho1, ho2, ho3, hb⟩; refine ⟨_, rfl, ?_⟩; have HO1266 := ln0 ho0 (bl HB.out); have HO1269 := ln0 ho1 (bl HB.out); have HO1272 := ln0 ho2 (bl HB.out); have HO1275 := ln0 ho3 (bl HB.out); replace HB := am (below_step (bl HB.out) hb); (try clear hb ho0 ho1 ho2 ho3)) | ((with_reducible refine gate_dst (N := 3) rfl ?_); refine box_event ?hg (N := 3) ?hd (cs := #[.slice none 0 0, .slice none 0 0, .slice none 0 0, .slice none 0 0]) (t := 30) ?hr ?_; (case hd => rfl); (case hg => rfl); (case hr => first | (go_simp; done) | (go_simp; rfl)); intro gb1276 hg w8 hbox hb; replace HO1266 := rb HO1266 hb; replace HO1269 := rb HO1269 hb; replace HO1272 := rb HO1272 hb; replace HO1275 := rb HO1275 hb; have BK1276 := am (hbox); have GW1276 := am ((by rw [hg]; exact (below_size (bl HB.out)) : w.heap.size ≤ gb1276)); have GE1276 := am ((by rw [hg]; exact (below_size (bl HB.out)) : w.heap.size ≤ gb1276)); replace HB := am (below_step (bl HB.out) hb); clear hb hbox hg; obtain ⟨Ao9, co9, eo9⟩ := Kd.R_slice HO1266.out; subst eo9; obtain ⟨hcz10_0, hcz10_1, hcz10_2, hcz10_3, hfz10_0, hfz10_1, hfz10_2, hfz10_3⟩ := cf4 BK1276; obtain ⟨Ao11, co11, eo11⟩ := Kd.R_slice HO1269.out; subst eo11; obtain ⟨Ao12, co12, eo12⟩ := Kd.R_slice HO1272.out; subst eo12; obtain ⟨Ao13, co13, eo13⟩ := Kd.R_slice HO1275.out; subst eo13) | ((with_reducible refine gate_callee (f := 41) rfl ?_); refine gL (some 18) rfl rfl Try.func41 (by kernel_rfl) rfl #[.agg #[.slice Ao9 t1264.length co9, .slice Ao11 t1267.length co11, .slice Ao12 t1270.length co12, .slice Ao13 t1273.length co13]] rfl ?_; (with_reducible refine (impl_MarkStep.calls k _ _ t1264 _ _ t1267 _ _ t1270 _ _ t1273 t1277 t1280 t1283 t1286 t1289 t1290 _ ?side1 ?side2 ?side3 ?side4 ?side5 ?side6 ?side7 ?side8 A4.out).mono ?_); (case side1 => exact sr (rg BK1276 HO1266)); (case side2 => exact sc HO1266); (case side3 => exact sr (rg BK1276 HO1269)); (case side4 => exact sc HO1269); (case side5 => exact sr (rg BK1276 HO1272)); (case side6 => exact sc HO1272); (case side7 => exact sr (rg BK1276 HO1275)); (case side8 => exact sc HO1275); rintro e w14 ⟨v1278, v1281, v1284, v1287, rfl, ho0, ho1, ho2, ho3, hb⟩; refine ⟨_, rfl, ?_⟩; have HO1279 := ln4 ho0 (rg BK1276 HO1266) (rg BK1276 HO1269) (rg BK1276 HO1272) (rg BK1276 HO1275) (bs1 GE1276.out HB.out); have HO1282 := ln4 ho1 (rg BK1276 HO1266) (rg BK1276 HO1269) (rg BK1276 HO1272) (rg BK1276 HO1275) (bs1 GE1276.out HB.out); have HO1285 := ln4 ho2 (rg BK1276 HO1266) (rg BK1276 HO1269) (rg BK1276 HO1272) (rg BK1276 HO1275) (bs1 GE1276.out HB.out); have HO1288 := ln4 ho3 (rg BK1276 HO1266) (rg BK1276 HO1269) (rg BK1276 HO1272) (rg BK1276 HO1275) (bs1 GE1276.out HB.out); replace HO1266 := td4 (rg BK1276 HO1266) hb ho0 ho1 ho2 ho3; replace HO1269 := td4 (rg BK1276 HO1269) hb ho0 ho1 ho2 ho3; replace HO1272 := td4 (rg BK1276 HO1272) hb ho0 ho1 ho2 ho3; replace HO1275 := td4 (rg BK1276 HO1275) hb ho0 ho1 ho2 ho3; replace BK1276 := bp4 (kf0 BK1276.out) hb; replace HB := am (below_step (bs1 GE1276.out HB.out) hb); (try clear hb ho0 ho1 ho2 ho3)) | ((with_reducible refine gate_dst (N := 4) rfl ?_); refine box_event ?hg (N := 4) ?hd (cs := #[.slice none 0 0, .slice none 0 0, .slice none 0 0, .slice none 0 0]) (t := 30) ?hr ?_; (case hd => rfl); (case hg => rfl); (case hr => first | (go_simp; done) | (go_simp; rfl)); intro gb1291 hg w15 hbox hb; replace HO1266 := rb HO1266 hb; replace HO1269 := rb HO1269 hb; replace HO1272 := rb HO1272 hb; replace HO1275 := rb HO1275 hb; replace HO1279 := rb HO1279 hb; replace HO1282 := rb HO1282 hb; replace HO1285 := rb HO1285 hb; replace HO1288 := rb HO1288 hb; have BK1291 := am (hbox); have GW1291 := am ((by rw [hg]; exact (below_size (bs1 GE1276.out HB.out)) : w.heap.size ≤ gb1291)); have GE1291 := am ((by rw [hg]; exact (below_size (bs1 GE1276.out HB.out)) : w.heap.size ≤ gb1291)); replace HB := am (below_step (bs1 GE1276.out HB.out) hb); have NB1276_1291 := nb BK1276 hg; have NB1291_1276 := nc BK1276 hg; replace BK1276 := bb BK1276 hb; clear hb hbox hg; obtain ⟨Ao16, co16, eo16⟩ := Kd.R_slice HO1279.out; subst eo16; have hnb17 := NB1291_1276.out; have hnc17 := NB1276_1291.out; obtain ⟨hcz18_0, hcz18_1, hcz18_2, hcz18_3, hfz18_0, hfz18_1, hfz18_2, hfz18_3⟩ := cf4 BK1291; obtain ⟨Ao19, co19, eo19⟩ := Kd.R_slice HO1282.out; subst eo19; obtain ⟨Ao20, co20, eo20⟩ := Kd.R_slice HO1285.out; subst eo20; obtain ⟨Ao21, co21, eo21⟩ := Kd.R_slice HO1288.out; subst eo21; obtain ⟨hcz22_0, hcz22_1, hcz22_2, hcz22_3, hfz22_0, hfz22_1, hfz22_2, hfz22_3⟩ := cf4 BK1276) | ((with_reducible refine gate_callee (f := 42) rfl ?_); refine gL (some 24) rfl rfl Try.func42 (by kernel_rfl) rfl #[.agg #[.slice Ao9 t1264.length co9, .slice Ao11 t1267.length co11, .slice Ao12 t1270.length co12, .slice Ao13 t1273.length co13]] rfl ?_; (with_reducible refine (spec_MarkStep.calls k _ _ t1264 _ _ t1267 _ _ t1270 _ _ t1273 t1292 t1295 t1298 t1301 t1304 t1305 _ ?side1 ?side2 ?side3 ?side4 ?side5 ?side6 ?side7 ?side8 A5.out).mono ?_); (case side1 => exact sr (rg BK1291 HO1266)); (case side2 => exact sc HO1266); (case side3 => exact sr (rg BK1291 HO1269)); (case side4 => exact sc HO1269); (case side5 => exact sr (rg BK1291 HO1272)); (case side6 => exact sc HO1272); (case side7 => exact sr (rg BK1291 HO1275)); (case side8 => exact sc HO1275); rintro e w23 ⟨v1293, v1296, v1299, v1302, rfl, ho0, ho1, ho2, ho3, hb⟩; refine ⟨_, rfl, ?_⟩; have HO1294 := ln8 ho0 (rg BK1291 HO1266) (rg BK1291 HO1269) (rg BK1291 HO1272) (rg BK1291 HO1275) (rg BK1291 HO1279) (rg BK1291 HO1282) (rg BK1291 HO1285) (rg BK1291 HO1288) (bs2 GE1276.out GE1291.out HB.out); have HO1297 := ln8 ho1 (rg BK1291 HO1266) (rg BK1291 HO1269) (rg BK1291 HO1272) (rg BK1291 HO1275) (rg BK1291 HO1279) (rg BK1291 HO1282) (rg BK1291 HO1285) (rg BK1291 HO1288) (bs2 GE1276.out GE1291.out HB.out); have HO1300 := ln8 ho2 (rg BK1291 HO1266) (rg BK1291 HO1269) (rg BK1291 HO1272) (rg BK1291 HO1275) (rg BK1291 HO1279) (rg BK1291 HO1282) (rg BK1291 HO1285) (rg BK1291 HO1288) (bs2 GE1276.out GE1291.out HB.out); have HO1303 := ln8 ho3 (rg BK1291 HO1266) (rg BK1291 HO1269) (rg BK1291 HO1272) (rg BK1291 HO1275) (rg BK1291 HO1279) (rg BK1291 HO1282) (rg BK1291 HO1285) (rg BK1291 HO1288) (bs2 GE1276.out GE1291.out HB.out); replace HO1266 := td4 (rg BK1291 HO1266) hb ho0 ho1 ho2 ho3; replace HO1269 := td4 (rg BK1291 HO1269) hb ho0 ho1 ho2 ho3; replace HO1272 := td4 (rg BK1291 HO1272) hb ho0 ho1 ho2 ho3; replace HO1275 := td4 (rg BK1291 HO1275) hb ho0 ho1 ho2 ho3; replace HO1279 := td4 (rg BK1291 HO1279) hb ho0 ho1 ho2 ho3; replace HO1282 := td4 (rg BK1291 HO1282) hb ho0 ho1 ho2 ho3; replace HO1285 := td4 (rg BK1291 HO1285) hb ho0 ho1 ho2 ho3; replace HO1288 := td4 (rg BK1291 HO1288) hb ho0 ho1 ho2 ho3; replace BK1276 := am (blk_below (g := gb1276) (o := .cells #[.slice Ao9 t1264.length co9, .slice Ao11 t1267.length co11, .slice Ao12 t1270.length co12, .slice Ao13 t1273.length co13] 30 (0, 0)) (kf1 NB1276_1291.out BK1276.out) hb); replace BK1291 := bp4 (kf0 BK1291.out) hb; replace HB := am (below_step (bs2 GE1276.out GE1291.out HB.out) hb); (try clear hb ho0 ho1 ho2 ho3)) | ((with_reducible refine gate_dst (N := 7) rfl ?_); refine box_event ?hg (N := 7) ?hd (cs := #[.slice none 0 0, .slice none 0 0, .slice none 0 0, .slice none 0 0]) (t := 30) ?hr ?_; (case hd => rfl); (case hg => rfl); (case hr => first | (go_simp; done) | (go_simp; rfl)); intro gb1306 hg w24 hbox hb; replace HO1266 := rb HO1266 hb; replace HO1269 := rb HO1269 hb; replace HO1272 := rb HO1272 hb; replace HO1275 := rb HO1275 hb; replace HO1279 := rb HO1279 hb; replace HO1282 := rb HO1282 hb; replace HO1285 := rb HO1285 hb; replace HO1288 := rb HO1288 hb; replace HO1294 := rb HO1294 hb; replace HO1297 := rb HO1297 hb; replace HO1300 := rb HO1300 hb; replace HO1303 := rb HO1303 hb; have BK1306 := am (hbox); have GW1306 := am ((by rw [hg]; exact (below_size (bs2 GE1276.out GE1291.out HB.out)) : w.heap.size ≤ gb1306)); have GE1306 := am ((by rw [hg]; exact (below_size (bs2 GE1276.out GE1291.out HB.out)) : w.heap.size ≤ gb1306)); replace HB := am (below_step (bs2 GE1276.out GE1291.out HB.out) hb); have NB1276_1306 := nb BK1276 hg; have NB1306_1276 := nc BK1276 hg; replace BK1276 := bb BK1276 hb; have NB1291_1306 := nb BK1291 hg; have NB1306_1291 := nc BK1291 hg; replace BK1291 := bb BK1291 hb; clear hb hbox hg; obtain ⟨Ao25, co25, eo25⟩ := Kd.R_slice HO1294.out; subst eo25; have hnb26 := NB1306_1276.out; have hnc26 := NB1276_1306.out; have hnb27 := NB1306_1291.out; have hnc27 := NB1291_1306.out; obtain ⟨hcz28_0, hcz28_1, hcz28_2, hcz28_3, hfz28_0, hfz28_1, hfz28_2, hfz28_3⟩ := cf4 BK1306; obtain ⟨Ao29, co29, eo29⟩ := Kd.R_slice HO1297.out; subst eo29; obtain ⟨Ao30, co30, eo30⟩ := Kd.R_slice HO1300.out; subst eo30; obtain ⟨Ao31, co31, eo31⟩ := Kd.R_slice HO1303.out; subst eo31))
  (try simp only [Act.put, List.setIfInBounds_toArray, List.set_cons_zero, List.set_cons_succ])
  go_cut [45] (fun v45 wc => ∃ (kq : Nat) (x45_5 : Bool), v45 = .bool x45_5 ∧ Aside0 (laws_FnMarkFirst.j0 kq t1289 t1290 t1304 t1305 x45_5 t1264 t1267 t1270 t1273 t1277 t1280 t1283 t1286 t1292 t1295 t1298 t1301 = some r) ∧ Aside0 (kq ≤ k) ∧ Aside0 (Kd.R (Kd.int .i64) 3 wc w.heap.size (fun k_ => some k_ ≠ ((.slice Ao11 t1267.length co11) : Value).ownBlock ∧ some k_ ≠ ((.slice Ao12 t1270.length co12) : Value).ownBlock ∧ some k_ ≠ ((.slice Ao13 t1273.length co13) : Value).ownBlock ∧ some k_ ≠ ((.slice Ao16 t1277.length co16) : Value).ownBlock ∧ some k_ ≠ ((.slice Ao19 t1280.length co19) : Value).ownBlock ∧ some k_ ≠ ((.slice Ao20 t1283.length co20) : Value).ownBlock ∧ some k_ ≠ ((.slice Ao21 t1286.length co21) : Value).ownBlock ∧ some k_ ≠ ((.slice Ao25 t1292.length co25) : Value).ownBlock ∧ some k_ ≠ ((.slice Ao29 t1295.length co29) : Value).ownBlock ∧ some k_ ≠ ((.slice Ao30 t1298.length co30) : Value).ownBlock ∧ some k_ ≠ ((.slice Ao31 t1301.length co31) : Value).ownBlock) (.slice Ao9 t1264.length co9) t1264) ∧ Aside0 (Kd.R (Kd.int .i64) 3 wc w.heap.size (fun k_ => some k_ ≠ ((.slice Ao9 t1264.length co9) : Value).ownBlock ∧ some k_ ≠ ((.slice Ao12 t1270.length co12) : Value).ownBlock ∧ some k_ ≠ ((.slice Ao13 t1273.length co13) : Value).ownBlock ∧ some k_ ≠ ((.slice Ao16 t1277.length co16) : Value).ownBlock ∧ some k_ ≠ ((.slice Ao19 t1280.length co19) : Value).ownBlock ∧ some k_ ≠ ((.slice Ao20 t1283.length co20) : Value).ownBlock ∧ some k_ ≠ ((.slice Ao21 t1286.length co21) : Value).ownBlock ∧ some k_ ≠ ((.slice Ao25 t1292.length co25) : Value).ownBlock ∧ some k_ ≠ ((.slice Ao29 t1295.length co29) : Value).ownBlock ∧ some k_ ≠ ((.slice Ao30 t1298.length co30) : Value).ownBlock ∧ some k_ ≠ ((.slice Ao31 t1301.length co31) : Value).ownBlock) (.slice Ao11 t1267.length co11) t1267) ∧ Aside0 (Kd.R (Kd.int .i64) 3 wc w.heap.size (fun k_ => some k_ ≠ ((.slice Ao9 t1264.length co9) : Value).ownBlock ∧ some k_ ≠ ((.slice Ao11 t1267.length co11) : Value).ownBlock ∧ some k_ ≠ ((.slice Ao13 t1273.length co13) : Value).ownBlock ∧ some k_ ≠ ((.slice Ao16 t1277.length co16) : Value).ownBlock ∧ some k_ ≠ ((.slice Ao19 t1280.length co19) : Value).ownBlock ∧ some k_ ≠ ((.slice Ao20 t1283.length co20) : Value).ownBlock ∧ some k_ ≠ ((.slice Ao21 t1286.length co21) : Value).ownBlock ∧ some k_ ≠ ((.slice Ao25 t1292.length co25) : Value).ownBlock ∧ some k_ ≠ ((.slice Ao29 t1295.length co29) : Value).ownBlock ∧ some k_ ≠ ((.slice Ao30 t1298.length co30) : Value).ownBlock ∧ some k_ ≠ ((.slice Ao31 t1301.length co31) : Value).ownBlock) (.slice Ao12 t1270.length co12) t1270) ∧ Aside0 (Kd.R (Kd.int .i64) 3 wc w.heap.size (fun k_ => some k_ ≠ ((.slice Ao9 t1264.length co9) : Value).ownBlock ∧ some k_ ≠ ((.slice Ao11 t1267.length co11) : Value).ownBlock ∧ some k_ ≠ ((.slice Ao12 t1270.length co12) : Value).ownBlock ∧ some k_ ≠ ((.slice Ao16 t1277.length co16) : Value).ownBlock ∧ some k_ ≠ ((.slice Ao19 t1280.length co19) : Value).ownBlock ∧ some k_ ≠ ((.slice Ao20 t1283.length co20) : Value).ownBlock ∧ some k_ ≠ ((.slice Ao21 t1286.length co21) : Value).ownBlock ∧ some k_ ≠ ((.slice Ao25 t1292.length co25) : Value).ownBlock ∧ some k_ ≠ ((.slice Ao29 t1295.length co29) : Value).ownBlock ∧ some k_ ≠ ((.slice Ao30 t1298.length co30) : Value).ownBlock ∧ some k_ ≠ ((.slice Ao31 t1301.length co31) : Value).ownBlock) (.slice Ao13 t1273.length co13) t1273) ∧ Aside0 (Kd.R (Kd.int .i64) 3 wc w.heap.size (fun k_ => some k_ ≠ ((.slice Ao9 t1264.length co9) : Value).ownBlock ∧ some k_ ≠ ((.slice Ao11 t1267.length co11) : Value).ownBlock ∧ some k_ ≠ ((.slice Ao12 t1270.length co12) : Value).ownBlock ∧ some k_ ≠ ((.slice Ao13 t1273.length co13) : Value).ownBlock ∧ some k_ ≠ ((.slice Ao19 t1280.length co19) : Value).ownBlock ∧ some k_ ≠ ((.slice Ao20 t1283.length co20) : Value).ownBlock ∧ some k_ ≠ ((.slice Ao21 t1286.length co21) : Value).ownBlock ∧ some k_ ≠ ((.slice Ao25 t1292.length co25) : Value).ownBlock ∧ some k_ ≠ ((.slice Ao29 t1295.length co29) : Value).ownBlock ∧ some k_ ≠ ((.slice Ao30 t1298.length co30) : Value).ownBlock ∧ some k_ ≠ ((.slice Ao31 t1301.length co31) : Value).ownBlock) (.slice Ao16 t1277.length co16) t1277) ∧ Aside0 (Kd.R (Kd.int .i64) 3 wc w.heap.size (fun k_ => some k_ ≠ ((.slice Ao9 t1264.length co9) : Value).ownBlock ∧ some k_ ≠ ((.slice Ao11 t1267.length co11) : Value).ownBlock ∧ some k_ ≠ ((.slice Ao12 t1270.length co12) : Value).ownBlock ∧ some k_ ≠ ((.slice Ao13 t1273.length co13) : Value).ownBlock ∧ some k_ ≠ ((.slice Ao16 t1277.length co16) : Value).ownBlock ∧ some k_ ≠ ((.slice Ao20 t1283.length co20) : Value).ownBlock ∧ some k_ ≠ ((.slice Ao21 t1286.length co21) : Value).ownBlock ∧ some k_ ≠ ((.slice Ao25 t1292.length co25) : Value).ownBlock ∧ some k_ ≠ ((.slice Ao29 t1295.length co29) : Value).ownBlock ∧ some k_ ≠ ((.slice Ao30 t1298.length co30) : Value).ownBlock ∧ some k_ ≠ ((.slice Ao31 t1301.length co31) : Value).ownBlock) (.slice Ao19 t1280.length co19) t1280) ∧ Aside0 (Kd.R (Kd.int .i64) 3 wc w.heap.size (fun k_ => some k_ ≠ ((.slice Ao9 t1264.length co9) : Value).ownBlock ∧ some k_ ≠ ((.slice Ao11 t1267.length co11) : Value).ownBlock ∧ some k_ ≠ ((.slice Ao12 t1270.length co12) : Value).ownBlock ∧ some k_ ≠ ((.slice Ao13 t1273.length co13) : Value).ownBlock ∧ some k_ ≠ ((.slice Ao16 t1277.length co16) : Value).ownBlock ∧ some k_ ≠ ((.slice Ao19 t1280.length co19) : Value).ownBlock ∧ some k_ ≠ ((.slice Ao21 t1286.length co21) : Value).ownBlock ∧ some k_ ≠ ((.slice Ao25 t1292.length co25) : Value).ownBlock ∧ some k_ ≠ ((.slice Ao29 t1295.length co29) : Value).ownBlock ∧ some k_ ≠ ((.slice Ao30 t1298.length co30) : Value).ownBlock ∧ some k_ ≠ ((.slice Ao31 t1301.length co31) : Value).ownBlock) (.slice Ao20 t1283.length co20) t1283) ∧ Aside0 (Kd.R (Kd.int .i64) 3 wc w.heap.size (fun k_ => some k_ ≠ ((.slice Ao9 t1264.length co9) : Value).ownBlock ∧ some k_ ≠ ((.slice Ao11 t1267.length co11) : Value).ownBlock ∧ some k_ ≠ ((.slice Ao12 t1270.length co12) : Value).ownBlock ∧ some k_ ≠ ((.slice Ao13 t1273.length co13) : Value).ownBlock ∧ some k_ ≠ ((.slice Ao16 t1277.length co16) : Value).ownBlock ∧ some k_ ≠ ((.slice Ao19 t1280.length co19) : Value).ownBlock ∧ some k_ ≠ ((.slice Ao20 t1283.length co20) : Value).ownBlock ∧ some k_ ≠ ((.slice Ao25 t1292.length co25) : Value).ownBlock ∧ some k_ ≠ ((.slice Ao29 t1295.length co29) : Value).ownBlock ∧ some k_ ≠ ((.slice Ao30 t1298.length co30) : Value).ownBlock ∧ some k_ ≠ ((.slice Ao31 t1301.length co31) : Value).ownBlock) (.slice Ao21 t1286.length co21) t1286) ∧ Aside0 (Kd.R (Kd.int .i64) 3 wc w.heap.size (fun k_ => some k_ ≠ ((.slice Ao9 t1264.length co9) : Value).ownBlock ∧ some k_ ≠ ((.slice Ao11 t1267.length co11) : Value).ownBlock ∧ some k_ ≠ ((.slice Ao12 t1270.length co12) : Value).ownBlock ∧ some k_ ≠ ((.slice Ao13 t1273.length co13) : Value).ownBlock ∧ some k_ ≠ ((.slice Ao16 t1277.length co16) : Value).ownBlock ∧ some k_ ≠ ((.slice Ao19 t1280.length co19) : Value).ownBlock ∧ some k_ ≠ ((.slice Ao20 t1283.length co20) : Value).ownBlock ∧ some k_ ≠ ((.slice Ao21 t1286.length co21) : Value).ownBlock ∧ some k_ ≠ ((.slice Ao29 t1295.length co29) : Value).ownBlock ∧ some k_ ≠ ((.slice Ao30 t1298.length co30) : Value).ownBlock ∧ some k_ ≠ ((.slice Ao31 t1301.length co31) : Value).ownBlock) (.slice Ao25 t1292.length co25) t1292) ∧ Aside0 (Kd.R (Kd.int .i64) 3 wc w.heap.size (fun k_ => some k_ ≠ ((.slice Ao9 t1264.length co9) : Value).ownBlock ∧ some k_ ≠ ((.slice Ao11 t1267.length co11) : Value).ownBlock ∧ some k_ ≠ ((.slice Ao12 t1270.length co12) : Value).ownBlock ∧ some k_ ≠ ((.slice Ao13 t1273.length co13) : Value).ownBlock ∧ some k_ ≠ ((.slice Ao16 t1277.length co16) : Value).ownBlock ∧ some k_ ≠ ((.slice Ao19 t1280.length co19) : Value).ownBlock ∧ some k_ ≠ ((.slice Ao20 t1283.length co20) : Value).ownBlock ∧ some k_ ≠ ((.slice Ao21 t1286.length co21) : Value).ownBlock ∧ some k_ ≠ ((.slice Ao25 t1292.length co25) : Value).ownBlock ∧ some k_ ≠ ((.slice Ao30 t1298.length co30) : Value).ownBlock ∧ some k_ ≠ ((.slice Ao31 t1301.length co31) : Value).ownBlock) (.slice Ao29 t1295.length co29) t1295) ∧ Aside0 (Kd.R (Kd.int .i64) 3 wc w.heap.size (fun k_ => some k_ ≠ ((.slice Ao9 t1264.length co9) : Value).ownBlock ∧ some k_ ≠ ((.slice Ao11 t1267.length co11) : Value).ownBlock ∧ some k_ ≠ ((.slice Ao12 t1270.length co12) : Value).ownBlock ∧ some k_ ≠ ((.slice Ao13 t1273.length co13) : Value).ownBlock ∧ some k_ ≠ ((.slice Ao16 t1277.length co16) : Value).ownBlock ∧ some k_ ≠ ((.slice Ao19 t1280.length co19) : Value).ownBlock ∧ some k_ ≠ ((.slice Ao20 t1283.length co20) : Value).ownBlock ∧ some k_ ≠ ((.slice Ao21 t1286.length co21) : Value).ownBlock ∧ some k_ ≠ ((.slice Ao25 t1292.length co25) : Value).ownBlock ∧ some k_ ≠ ((.slice Ao29 t1295.length co29) : Value).ownBlock ∧ some k_ ≠ ((.slice Ao31 t1301.length co31) : Value).ownBlock) (.slice Ao30 t1298.length co30) t1298) ∧ Aside0 (Kd.R (Kd.int .i64) 3 wc w.heap.size (fun k_ => some k_ ≠ ((.slice Ao9 t1264.length co9) : Value).ownBlock ∧ some k_ ≠ ((.slice Ao11 t1267.length co11) : Value).ownBlock ∧ some k_ ≠ ((.slice Ao12 t1270.length co12) : Value).ownBlock ∧ some k_ ≠ ((.slice Ao13 t1273.length co13) : Value).ownBlock ∧ some k_ ≠ ((.slice Ao16 t1277.length co16) : Value).ownBlock ∧ some k_ ≠ ((.slice Ao19 t1280.length co19) : Value).ownBlock ∧ some k_ ≠ ((.slice Ao20 t1283.length co20) : Value).ownBlock ∧ some k_ ≠ ((.slice Ao21 t1286.length co21) : Value).ownBlock ∧ some k_ ≠ ((.slice Ao25 t1292.length co25) : Value).ownBlock ∧ some k_ ≠ ((.slice Ao29 t1295.length co29) : Value).ownBlock ∧ some k_ ≠ ((.slice Ao30 t1298.length co30) : Value).ownBlock) (.slice Ao31 t1301.length co31) t1301) ∧ Aside0 (wc.heap[gb1276]? = some (.cells #[(.slice Ao9 t1264.length co9), (.slice Ao11 t1267.length co11), (.slice Ao12 t1270.length co12), (.slice Ao13 t1273.length co13)] 30 (0, 0))) ∧ Aside0 (wc.heap[gb1291]? = some (.cells #[(.slice Ao16 t1277.length co16), (.slice Ao19 t1280.length co19), (.slice Ao20 t1283.length co20), (.slice Ao21 t1286.length co21)] 30 (0, 0))) ∧ Aside0 (wc.heap[gb1306]? = some (.cells #[(.slice Ao25 t1292.length co25), (.slice Ao29 t1295.length co29), (.slice Ao30 t1298.length co30), (.slice Ao31 t1301.length co31)] 30 (0, 0))) ∧ Aside0 (Below w.heap.size w wc))
  case first =>
   have H := HC6.out
   clear HC6
   replace H := Option.bind_eq_some_iff.mp H
   obtain ⟨t1307, A320, H⟩ := H
   replace H : (if t1307 = true then (if (t1289 != t1304) = true then (laws_FnMarkFirst.j0 k t1289 t1290 t1304 t1305 true t1264 t1267 t1270 t1273 t1277 t1280 t1283 t1286 t1292 t1295 t1298 t1301) else (if (t1290 != t1305) = true then (laws_FnMarkFirst.j0 k t1289 t1290 t1304 t1305 true t1264 t1267 t1270 t1273 t1277 t1280 t1283 t1286 t1292 t1295 t1298 t1301) else (laws_FnMarkFirst.j0 k t1289 t1290 t1304 t1305 (!t1289) t1264 t1267 t1270 t1273 t1277 t1280 t1283 t1286 t1292 t1295 t1298 t1301))) else (laws_FnMarkFirst.j0 k t1289 t1290 t1304 t1305 true t1264 t1267 t1270 t1273 t1277 t1280 t1283 t1286 t1292 t1295 t1298 t1301)) = some r := H
   have A32 := am A320
   clear A320
   by_cases c33 : t1307 = true
   ·subst c33
    have H1 : (if (t1289 != t1304) = true then (laws_FnMarkFirst.j0 k t1289 t1290 t1304 t1305 true t1264 t1267 t1270 t1273 t1277 t1280 t1283 t1286 t1292 t1295 t1298 t1301) else (if (t1290 != t1305) = true then (laws_FnMarkFirst.j0 k t1289 t1290 t1304 t1305 true t1264 t1267 t1270 t1273 t1277 t1280 t1283 t1286 t1292 t1295 t1298 t1301) else (laws_FnMarkFirst.j0 k t1289 t1290 t1304 t1305 (!t1289) t1264 t1267 t1270 t1273 t1277 t1280 t1283 t1286 t1292 t1295 t1298 t1301))) = some r := by rw [if_pos rfl] at H; exact H
    clear H
    have H := H1
    clear H1
    by_cases c34 : (t1289 != t1304) = true
    ·rw [if_pos c34] at H
     have c34b0 : (t1289 != t1304) = true := c34
     (try (have c34b1 : decide (t1289 = t1304) = false := by simpa using c34))
     (try (have c34b2 : (t1289 == t1304) = false := by simpa using c34))
     (try (have c34b3 : ¬ (t1289 = t1304) := by simpa using c34))
     clear c34
     (first | rw [c34b0] | (simp only [i64_w, i32_w]; rw [c34b0]) | skip)
     have H' := am H
     clear H
     have hnb35 := NB1291_1276.out
     have hnc35 := NB1276_1291.out
     have hnb36 := NB1291_1306.out
     have hnc36 := NB1306_1291.out
     obtain ⟨hcz37_0, hcz37_1, hcz37_2, hcz37_3, hfz37_0, hfz37_1, hfz37_2, hfz37_3⟩ := cf4 BK1291
     have hnb38 := NB1306_1276.out
     have hnc38 := NB1276_1306.out
     obtain ⟨hcz39_0, hcz39_1, hcz39_2, hcz39_3, hfz39_0, hfz39_1, hfz39_2, hfz39_3⟩ := cf4 BK1306
     go_wp2_with (first | ((with_reducible refine gate_callee (f := 34) rfl ?_); refine gL (some 30) rfl rfl Try.func34 (by kernel_rfl) rfl #[.agg #[.slice Ao16 t1277.length co16, .slice Ao19 t1280.length co19, .slice Ao20 t1283.length co20, .slice Ao21 t1286.length co21], .agg #[.slice Ao25 t1292.length co25, .slice Ao29 t1295.length co29, .slice Ao30 t1298.length co30, .slice Ao31 t1301.length co31]] rfl ?_; (with_reducible refine (impl_ColoredSame.calls k _ _ t1277 _ _ t1280 _ _ t1283 _ _ t1286 _ _ t1292 _ _ t1295 _ _ t1298 _ _ t1301 true _ ?side1 ?side2 ?side3 ?side4 ?side5 ?side6 ?side7 ?side8 ?side9 ?side10 ?side11 ?side12 ?side13 ?side14 ?side15 ?side16 A32.out).mono ?_); (case side1 => exact sr (rg BK1306 HO1279)); (case side2 => exact sc HO1279); (case side3 => exact sr (rg BK1306 HO1282)); (case side4 => exact sc HO1282); (case side5 => exact sr (rg BK1306 HO1285)); (case side6 => exact sc HO1285); (case side7 => exact sr (rg BK1306 HO1288)); (case side8 => exact sc HO1288); (case side9 => exact sr (rg BK1306 HO1294)); (case side10 => exact sc HO1294); (case side11 => exact sr (rg BK1306 HO1297)); (case side12 => exact sc HO1297); (case side13 => exact sr (rg BK1306 HO1300)); (case side14 => exact sc HO1300); (case side15 => exact sr (rg BK1306 HO1303)); (case side16 => exact sc HO1303); rintro e w40 ⟨rfl, hb⟩; refine ⟨_, rfl, ?_⟩; replace HO1266 := am (Kd.R_below (rg BK1306 HO1266) hb); replace HO1269 := am (Kd.R_below (rg BK1306 HO1269) hb); replace HO1272 := am (Kd.R_below (rg BK1306 HO1272) hb); replace HO1275 := am (Kd.R_below (rg BK1306 HO1275) hb); replace HO1279 := am (Kd.R_below (rg BK1306 HO1279) hb); replace HO1282 := am (Kd.R_below (rg BK1306 HO1282) hb); replace HO1285 := am (Kd.R_below (rg BK1306 HO1285) hb); replace HO1288 := am (Kd.R_below (rg BK1306 HO1288) hb); replace HO1294 := am (Kd.R_below (rg BK1306 HO1294) hb); replace HO1297 := am (Kd.R_below (rg BK1306 HO1297) hb); replace HO1300 := am (Kd.R_below (rg BK1306 HO1300) hb); replace HO1303 := am (Kd.R_below (rg BK1306 HO1303) hb); replace BK1276 := am (blk_below (g := gb1276) (o := .cells #[.slice Ao9 t1264.length co9, .slice Ao11 t1267.length co11, .slice Ao12 t1270.length co12, .slice Ao13 t1273.length co13] 30 (0, 0)) (kf1 NB1276_1306.out BK1276.out) hb); replace BK1291 := am (blk_below (g := gb1291) (o := .cells #[.slice Ao16 t1277.length co16, .slice Ao19 t1280.length co19, .slice Ao20 t1283.length co20, .slice Ao21 t1286.length co21] 30 (0, 0)) (kf1 NB1291_1306.out BK1291.out) hb); replace BK1306 := bp4 (kf0 BK1306.out) hb; replace HB := am (below_step (bs3 GE1276.out GE1291.out GE1306.out HB.out) hb); (try clear hb)))
     go_meet
     case rel => exact ⟨_, (true), (by first | rfl | (simp; done) | (simp [*]; done)), H', ⟨by first | omega | exact Nat.le_refl _⟩, ⟨rl (Kd.R_mono HO1266.out (fun _ hk => by simp only [ne_eq] at hk ⊢; simp only [hk, not_false_eq_true, and_self]))⟩, ⟨rl (Kd.R_mono HO1269.out (fun _ hk => by simp only [ne_eq] at hk ⊢; simp only [hk, not_false_eq_true, and_self]))⟩, ⟨rl (Kd.R_mono HO1272.out (fun _ hk => by simp only [ne_eq] at hk ⊢; simp only [hk, not_false_eq_true, and_self]))⟩, ⟨rl (Kd.R_mono HO1275.out (fun _ hk => by simp only [ne_eq] at hk ⊢; simp only [hk, not_false_eq_true, and_self]))⟩, ⟨rl (Kd.R_mono HO1279.out (fun _ hk => by simp only [ne_eq] at hk ⊢; simp only [hk, not_false_eq_true, and_self]))⟩, ⟨rl (Kd.R_mono HO1282.out (fun _ hk => by simp only [ne_eq] at hk ⊢; simp only [hk, not_false_eq_true, and_self]))⟩, ⟨rl (Kd.R_mono HO1285.out (fun _ hk => by simp only [ne_eq] at hk ⊢; simp only [hk, not_false_eq_true, and_self]))⟩, ⟨rl (Kd.R_mono HO1288.out (fun _ hk => by simp only [ne_eq] at hk ⊢; simp only [hk, not_false_eq_true, and_self]))⟩, ⟨rl (Kd.R_mono HO1294.out (fun _ hk => by simp only [ne_eq] at hk ⊢; simp only [hk, not_false_eq_true, and_self]))⟩, ⟨rl (Kd.R_mono HO1297.out (fun _ hk => by simp only [ne_eq] at hk ⊢; simp only [hk, not_false_eq_true, and_self]))⟩, ⟨rl (Kd.R_mono HO1300.out (fun _ hk => by simp only [ne_eq] at hk ⊢; simp only [hk, not_false_eq_true, and_self]))⟩, ⟨rl (Kd.R_mono HO1303.out (fun _ hk => by simp only [ne_eq] at hk ⊢; simp only [hk, not_false_eq_true, and_self]))⟩, ⟨kl BK1276.out⟩, ⟨kl BK1291.out⟩, ⟨kl BK1306.out⟩, ⟨by exact bs3 GE1276.out GE1291.out GE1306.out HB.out⟩⟩
    ·rw [if_neg c34] at H
     have c34b0 : (t1289 != t1304) = false := by simpa using c34
     (try (have c34b1 : decide (t1289 = t1304) = true := by simpa using c34))
     (try (have c34b2 : (t1289 == t1304) = true := by simpa using c34))
     clear c34
     (first | rw [c34b0] | (simp only [i64_w, i32_w]; rw [c34b0]) | skip)
     by_cases c41 : (t1290 != t1305) = true
     ·rw [if_pos c41] at H
      have c41b0 : (t1290 != t1305) = true := c41
      (try (have c41b1 : decide (t1290 = t1305) = false := by simpa using c41))
      (try (have c41b2 : (t1290 == t1305) = false := by simpa using c41))
      (try (have c41b3 : ¬ (t1290 = t1305) := by simpa using c41))
      clear c41
      have H' := am H
      clear H
      have hnb42 := NB1291_1276.out
      have hnc42 := NB1276_1291.out
      have hnb43 := NB1291_1306.out
      have hnc43 := NB1306_1291.out
      obtain ⟨hcz44_0, hcz44_1, hcz44_2, hcz44_3, hfz44_0, hfz44_1, hfz44_2, hfz44_3⟩ := cf4 BK1291
      have hnb45 := NB1306_1276.out
      have hnc45 := NB1276_1306.out
      obtain ⟨hcz46_0, hcz46_1, hcz46_2, hcz46_3, hfz46_0, hfz46_1, hfz46_2, hfz46_3⟩ := cf4 BK1306
      go_wp2_with (first | ((with_reducible refine gate_callee (f := 34) rfl ?_); refine gL (some 30) rfl rfl Try.func34 (by kernel_rfl) rfl #[.agg #[.slice Ao16 t1277.length co16, .slice Ao19 t1280.length co19, .slice Ao20 t1283.length co20, .slice Ao21 t1286.length co21], .agg #[.slice Ao25 t1292.length co25, .slice Ao29 t1295.length co29, .slice Ao30 t1298.length co30, .slice Ao31 t1301.length co31]] rfl ?_; (with_reducible refine (impl_ColoredSame.calls k _ _ t1277 _ _ t1280 _ _ t1283 _ _ t1286 _ _ t1292 _ _ t1295 _ _ t1298 _ _ t1301 true _ ?side1 ?side2 ?side3 ?side4 ?side5 ?side6 ?side7 ?side8 ?side9 ?side10 ?side11 ?side12 ?side13 ?side14 ?side15 ?side16 A32.out).mono ?_); (case side1 => exact sr (rg BK1306 HO1279)); (case side2 => exact sc HO1279); (case side3 => exact sr (rg BK1306 HO1282)); (case side4 => exact sc HO1282); (case side5 => exact sr (rg BK1306 HO1285)); (case side6 => exact sc HO1285); (case side7 => exact sr (rg BK1306 HO1288)); (case side8 => exact sc HO1288); (case side9 => exact sr (rg BK1306 HO1294)); (case side10 => exact sc HO1294); (case side11 => exact sr (rg BK1306 HO1297)); (case side12 => exact sc HO1297); (case side13 => exact sr (rg BK1306 HO1300)); (case side14 => exact sc HO1300); (case side15 => exact sr (rg BK1306 HO1303)); (case side16 => exact sc HO1303); rintro e w47 ⟨rfl, hb⟩; refine ⟨_, rfl, ?_⟩; replace HO1266 := am (Kd.R_below (rg BK1306 HO1266) hb); replace HO1269 := am (Kd.R_below (rg BK1306 HO1269) hb); replace HO1272 := am (Kd.R_below (rg BK1306 HO1272) hb); replace HO1275 := am (Kd.R_below (rg BK1306 HO1275) hb); replace HO1279 := am (Kd.R_below (rg BK1306 HO1279) hb); replace HO1282 := am (Kd.R_below (rg BK1306 HO1282) hb); replace HO1285 := am (Kd.R_below (rg BK1306 HO1285) hb); replace HO1288 := am (Kd.R_below (rg BK1306 HO1288) hb); replace HO1294 := am (Kd.R_below (rg BK1306 HO1294) hb); replace HO1297 := am (Kd.R_below (rg BK1306 HO1297) hb); replace HO1300 := am (Kd.R_below (rg BK1306 HO1300) hb); replace HO1303 := am (Kd.R_below (rg BK1306 HO1303) hb); replace BK1276 := am (blk_below (g := gb1276) (o := .cells #[.slice Ao9 t1264.length co9, .slice Ao11 t1267.length co11, .slice Ao12 t1270.length co12, .slice Ao13 t1273.length co13] 30 (0, 0)) (kf1 NB1276_1306.out BK1276.out) hb); replace BK1291 := am (blk_below (g := gb1291) (o := .cells #[.slice Ao16 t1277.length co16, .slice Ao19 t1280.length co19, .slice Ao20 t1283.length co20, .slice Ao21 t1286.length co21] 30 (0, 0)) (kf1 NB1291_1306.out BK1291.out) hb); replace BK1306 := bp4 (kf0 BK1306.out) hb; replace HB := am (below_step (bs3 GE1276.out GE1291.out GE1306.out HB.out) hb); (try clear hb)))
      go_meet
      case rel => exact ⟨_, (true), (by first | rfl | (simp; done) | (simp [*]; done)), H', ⟨by first | omega | exact Nat.le_refl _⟩, ⟨rl (Kd.R_mono HO1266.out (fun _ hk => by simp only [ne_eq] at hk ⊢; simp only [hk, not_false_eq_true, and_self]))⟩, ⟨rl (Kd.R_mono HO1269.out (fun _ hk => by simp only [ne_eq] at hk ⊢; simp only [hk, not_false_eq_true, and_self]))⟩, ⟨rl (Kd.R_mono HO1272.out (fun _ hk => by simp only [ne_eq] at hk ⊢; simp only [hk, not_false_eq_true, and_self]))⟩, ⟨rl (Kd.R_mono HO1275.out (fun _ hk => by simp only [ne_eq] at hk ⊢; simp only [hk, not_false_eq_true, and_self]))⟩, ⟨rl (Kd.R_mono HO1279.out (fun _ hk => by simp only [ne_eq] at hk ⊢; simp only [hk, not_false_eq_true, and_self]))⟩, ⟨rl (Kd.R_mono HO1282.out (fun _ hk => by simp only [ne_eq] at hk ⊢; simp only [hk, not_false_eq_true, and_self]))⟩, ⟨rl (Kd.R_mono HO1285.out (fun _ hk => by simp only [ne_eq] at hk ⊢; simp only [hk, not_false_eq_true, and_self]))⟩, ⟨rl (Kd.R_mono HO1288.out (fun _ hk => by simp only [ne_eq] at hk ⊢; simp only [hk, not_false_eq_true, and_self]))⟩, ⟨rl (Kd.R_mono HO1294.out (fun _ hk => by simp only [ne_eq] at hk ⊢; simp only [hk, not_false_eq_true, and_self]))⟩, ⟨rl (Kd.R_mono HO1297.out (fun _ hk => by simp only [ne_eq] at hk ⊢; simp only [hk, not_false_eq_true, and_self]))⟩, ⟨rl (Kd.R_mono HO1300.out (fun _ hk => by simp only [ne_eq] at hk ⊢; simp only [hk, not_false_eq_true, and_self]))⟩, ⟨rl (Kd.R_mono HO1303.out (fun _ hk => by simp only [ne_eq] at hk ⊢; simp only [hk, not_false_eq_true, and_self]))⟩, ⟨kl BK1276.out⟩, ⟨kl BK1291.out⟩, ⟨kl BK1306.out⟩, ⟨by exact bs3 GE1276.out GE1291.out GE1306.out HB.out⟩⟩
     ·rw [if_neg c41] at H
      have c41b0 : (t1290 != t1305) = false := by simpa using c41
      (try (have c41b1 : decide (t1290 = t1305) = true := by simpa using c41))
      (try (have c41b2 : (t1290 == t1305) = true := by simpa using c41))
      clear c41
      have H' := am H
      clear H
      have hnb48 := NB1291_1276.out
      have hnc48 := NB1276_1291.out
      have hnb49 := NB1291_1306.out
      have hnc49 := NB1306_1291.out
      obtain ⟨hcz50_0, hcz50_1, hcz50_2, hcz50_3, hfz50_0, hfz50_1, hfz50_2, hfz50_3⟩ := cf4 BK1291
      have hnb51 := NB1306_1276.out
      have hnc51 := NB1276_1306.out
      obtain ⟨hcz52_0, hcz52_1, hcz52_2, hcz52_3, hfz52_0, hfz52_1, hfz52_2, hfz52_3⟩ := cf4 BK1306
      go_wp2_with (first | ((with_reducible refine gate_callee (f := 34) rfl ?_); refine gL (some 30) rfl rfl Try.func34 (by kernel_rfl) rfl #[.agg #[.slice Ao16 t1277.length co16, .slice Ao19 t1280.length co19, .slice Ao20 t1283.length co20, .slice Ao21 t1286.length co21], .agg #[.slice Ao25 t1292.length co25, .slice Ao29 t1295.length co29, .slice Ao30 t1298.length co30, .slice Ao31 t1301.length co31]] rfl ?_; (with_reducible refine (impl_ColoredSame.calls k _ _ t1277 _ _ t1280 _ _ t1283 _ _ t1286 _ _ t1292 _ _ t1295 _ _ t1298 _ _ t1301 true _ ?side1 ?side2 ?side3 ?side4 ?side5 ?side6 ?side7 ?side8 ?side9 ?side10 ?side11 ?side12 ?side13 ?side14 ?side15 ?side16 A32.out).mono ?_); (case side1 => exact sr (rg BK1306 HO1279)); (case side2 => exact sc HO1279); (case side3 => exact sr (rg BK1306 HO1282)); (case side4 => exact sc HO1282); (case side5 => exact sr (rg BK1306 HO1285)); (case side6 => exact sc HO1285); (case side7 => exact sr (rg BK1306 HO1288)); (case side8 => exact sc HO1288); (case side9 => exact sr (rg BK1306 HO1294)); (case side10 => exact sc HO1294); (case side11 => exact sr (rg BK1306 HO1297)); (case side12 => exact sc HO1297); (case side13 => exact sr (rg BK1306 HO1300)); (case side14 => exact sc HO1300); (case side15 => exact sr (rg BK1306 HO1303)); (case side16 => exact sc HO1303); rintro e w53 ⟨rfl, hb⟩; refine ⟨_, rfl, ?_⟩; replace HO1266 := am (Kd.R_below (rg BK1306 HO1266) hb); replace HO1269 := am (Kd.R_below (rg BK1306 HO1269) hb); replace HO1272 := am (Kd.R_below (rg BK1306 HO1272) hb); replace HO1275 := am (Kd.R_below (rg BK1306 HO1275) hb); replace HO1279 := am (Kd.R_below (rg BK1306 HO1279) hb); replace HO1282 := am (Kd.R_below (rg BK1306 HO1282) hb); replace HO1285 := am (Kd.R_below (rg BK1306 HO1285) hb); replace HO1288 := am (Kd.R_below (rg BK1306 HO1288) hb); replace HO1294 := am (Kd.R_below (rg BK1306 HO1294) hb); replace HO1297 := am (Kd.R_below (rg BK1306 HO1297) hb); replace HO1300 := am (Kd.R_below (rg BK1306 HO1300) hb); replace HO1303 := am (Kd.R_below (rg BK1306 HO1303) hb); replace BK1276 := am (blk_below (g := gb1276) (o := .cells #[.slice Ao9 t1264.length co9, .slice Ao11 t1267.length co11, .slice Ao12 t1270.length co12, .slice Ao13 t1273.length co13] 30 (0, 0)) (kf1 NB1276_1306.out BK1276.out) hb); replace BK1291 := am (blk_below (g := gb1291) (o := .cells #[.slice Ao16 t1277.length co16, .slice Ao19 t1280.length co19, .slice Ao20 t1283.length co20, .slice Ao21 t1286.length co21] 30 (0, 0)) (kf1 NB1291_1306.out BK1291.out) hb); replace BK1306 := bp4 (kf0 BK1306.out) hb; replace HB := am (below_step (bs3 GE1276.out GE1291.out GE1306.out HB.out) hb); (try clear hb)))
      go_meet
      case rel => exact ⟨_, (!t1289), (by first | rfl | (simp; done) | (simp [*]; done)), H', ⟨by first | omega | exact Nat.le_refl _⟩, ⟨rl (Kd.R_mono HO1266.out (fun _ hk => by simp only [ne_eq] at hk ⊢; simp only [hk, not_false_eq_true, and_self]))⟩, ⟨rl (Kd.R_mono HO1269.out (fun _ hk => by simp only [ne_eq] at hk ⊢; simp only [hk, not_false_eq_true, and_self]))⟩, ⟨rl (Kd.R_mono HO1272.out (fun _ hk => by simp only [ne_eq] at hk ⊢; simp only [hk, not_false_eq_true, and_self]))⟩, ⟨rl (Kd.R_mono HO1275.out (fun _ hk => by simp only [ne_eq] at hk ⊢; simp only [hk, not_false_eq_true, and_self]))⟩, ⟨rl (Kd.R_mono HO1279.out (fun _ hk => by simp only [ne_eq] at hk ⊢; simp only [hk, not_false_eq_true, and_self]))⟩, ⟨rl (Kd.R_mono HO1282.out (fun _ hk => by simp only [ne_eq] at hk ⊢; simp only [hk, not_false_eq_true, and_self]))⟩, ⟨rl (Kd.R_mono HO1285.out (fun _ hk => by simp only [ne_eq] at hk ⊢; simp only [hk, not_false_eq_true, and_self]))⟩, ⟨rl (Kd.R_mono HO1288.out (fun _ hk => by simp only [ne_eq] at hk ⊢; simp only [hk, not_false_eq_true, and_self]))⟩, ⟨rl (Kd.R_mono HO1294.out (fun _ hk => by simp only [ne_eq] at hk ⊢; simp only [hk, not_false_eq_true, and_self]))⟩, ⟨rl (Kd.R_mono HO1297.out (fun _ hk => by simp only [ne_eq] at hk ⊢; simp only [hk, not_false_eq_true, and_self]))⟩, ⟨rl (Kd.R_mono HO1300.out (fun _ hk => by simp only [ne_eq] at hk ⊢; simp only [hk, not_false_eq_true, and_self]))⟩, ⟨rl (Kd.R_mono HO1303.out (fun _ hk => by simp only [ne_eq] at hk ⊢; simp only [hk, not_false_eq_true, and_self]))⟩, ⟨kl BK1276.out⟩, ⟨kl BK1291.out⟩, ⟨kl BK1306.out⟩, ⟨by exact bs3 GE1276.out GE1291.out GE1306.out HB.out⟩⟩
   ·replace c33 := Bool.eq_false_iff.mpr c33
    subst c33
    have H1 : (laws_FnMarkFirst.j0 k t1289 t1290 t1304 t1305 true t1264 t1267 t1270 t1273 t1277 t1280 t1283 t1286 t1292 t1295 t1298 t1301) = some r := by rw [if_neg (show ¬ (false = true) by decide)] at H; exact H
    clear H
    have H := H1
    clear H1
    have H' := am H
    clear H
    have hnb54 := NB1291_1276.out
    have hnc54 := NB1276_1291.out
    have hnb55 := NB1291_1306.out
    have hnc55 := NB1306_1291.out
    obtain ⟨hcz56_0, hcz56_1, hcz56_2, hcz56_3, hfz56_0, hfz56_1, hfz56_2, hfz56_3⟩ := cf4 BK1291
    have hnb57 := NB1306_1276.out
    have hnc57 := NB1276_1306.out
    obtain ⟨hcz58_0, hcz58_1, hcz58_2, hcz58_3, hfz58_0, hfz58_1, hfz58_2, hfz58_3⟩ := cf4 BK1306
    go_wp2_with (first | ((with_reducible refine gate_callee (f := 34) rfl ?_); refine gL (some 30) rfl rfl Try.func34 (by kernel_rfl) rfl #[.agg #[.slice Ao16 t1277.length co16, .slice Ao19 t1280.length co19, .slice Ao20 t1283.length co20, .slice Ao21 t1286.length co21], .agg #[.slice Ao25 t1292.length co25, .slice Ao29 t1295.length co29, .slice Ao30 t1298.length co30, .slice Ao31 t1301.length co31]] rfl ?_; (with_reducible refine (impl_ColoredSame.calls k _ _ t1277 _ _ t1280 _ _ t1283 _ _ t1286 _ _ t1292 _ _ t1295 _ _ t1298 _ _ t1301 false _ ?side1 ?side2 ?side3 ?side4 ?side5 ?side6 ?side7 ?side8 ?side9 ?side10 ?side11 ?side12 ?side13 ?side14 ?side15 ?side16 A32.out).mono ?_); (case side1 => exact sr (rg BK1306 HO1279)); (case side2 => exact sc HO1279); (case side3 => exact sr (rg BK1306 HO1282)); (case side4 => exact sc HO1282); (case side5 => exact sr (rg BK1306 HO1285)); (case side6 => exact sc HO1285); (case side7 => exact sr (rg BK1306 HO1288)); (case side8 => exact sc HO1288); (case side9 => exact sr (rg BK1306 HO1294)); (case side10 => exact sc HO1294); (case side11 => exact sr (rg BK1306 HO1297)); (case side12 => exact sc HO1297); (case side13 => exact sr (rg BK1306 HO1300)); (case side14 => exact sc HO1300); (case side15 => exact sr (rg BK1306 HO1303)); (case side16 => exact sc HO1303); rintro e w59 ⟨rfl, hb⟩; refine ⟨_, rfl, ?_⟩; replace HO1266 := am (Kd.R_below (rg BK1306 HO1266) hb); replace HO1269 := am (Kd.R_below (rg BK1306 HO1269) hb); replace HO1272 := am (Kd.R_below (rg BK1306 HO1272) hb); replace HO1275 := am (Kd.R_below (rg BK1306 HO1275) hb); replace HO1279 := am (Kd.R_below (rg BK1306 HO1279) hb); replace HO1282 := am (Kd.R_below (rg BK1306 HO1282) hb); replace HO1285 := am (Kd.R_below (rg BK1306 HO1285) hb); replace HO1288 := am (Kd.R_below (rg BK1306 HO1288) hb); replace HO1294 := am (Kd.R_below (rg BK1306 HO1294) hb); replace HO1297 := am (Kd.R_below (rg BK1306 HO1297) hb); replace HO1300 := am (Kd.R_below (rg BK1306 HO1300) hb); replace HO1303 := am (Kd.R_below (rg BK1306 HO1303) hb); replace BK1276 := am (blk_below (g := gb1276) (o := .cells #[.slice Ao9 t1264.length co9, .slice Ao11 t1267.length co11, .slice Ao12 t1270.length co12, .slice Ao13 t1273.length co13] 30 (0, 0)) (kf1 NB1276_1306.out BK1276.out) hb); replace BK1291 := am (blk_below (g := gb1291) (o := .cells #[.slice Ao16 t1277.length co16, .slice Ao19 t1280.length co19, .slice Ao20 t1283.length co20, .slice Ao21 t1286.length co21] 30 (0, 0)) (kf1 NB1291_1306.out BK1291.out) hb); replace BK1306 := bp4 (kf0 BK1306.out) hb; replace HB := am (below_step (bs3 GE1276.out GE1291.out GE1306.out HB.out) hb); (try clear hb)))
    go_meet
    case rel => exact ⟨_, (true), (by first | rfl | (simp; done) | (simp [*]; done)), H', ⟨by first | omega | exact Nat.le_refl _⟩, ⟨rl (Kd.R_mono HO1266.out (fun _ hk => by simp only [ne_eq] at hk ⊢; simp only [hk, not_false_eq_true, and_self]))⟩, ⟨rl (Kd.R_mono HO1269.out (fun _ hk => by simp only [ne_eq] at hk ⊢; simp only [hk, not_false_eq_true, and_self]))⟩, ⟨rl (Kd.R_mono HO1272.out (fun _ hk => by simp only [ne_eq] at hk ⊢; simp only [hk, not_false_eq_true, and_self]))⟩, ⟨rl (Kd.R_mono HO1275.out (fun _ hk => by simp only [ne_eq] at hk ⊢; simp only [hk, not_false_eq_true, and_self]))⟩, ⟨rl (Kd.R_mono HO1279.out (fun _ hk => by simp only [ne_eq] at hk ⊢; simp only [hk, not_false_eq_true, and_self]))⟩, ⟨rl (Kd.R_mono HO1282.out (fun _ hk => by simp only [ne_eq] at hk ⊢; simp only [hk, not_false_eq_true, and_self]))⟩, ⟨rl (Kd.R_mono HO1285.out (fun _ hk => by simp only [ne_eq] at hk ⊢; simp only [hk, not_false_eq_true, and_self]))⟩, ⟨rl (Kd.R_mono HO1288.out (fun _ hk => by simp only [ne_eq] at hk ⊢; simp only [hk, not_false_eq_true, and_self]))⟩, ⟨rl (Kd.R_mono HO1294.out (fun _ hk => by simp only [ne_eq] at hk ⊢; simp only [hk, not_false_eq_true, and_self]))⟩, ⟨rl (Kd.R_mono HO1297.out (fun _ hk => by simp only [ne_eq] at hk ⊢; simp only [hk, not_false_eq_true, and_self]))⟩, ⟨rl (Kd.R_mono HO1300.out (fun _ hk => by simp only [ne_eq] at hk ⊢; simp only [hk, not_false_eq_true, and_self]))⟩, ⟨rl (Kd.R_mono HO1303.out (fun _ hk => by simp only [ne_eq] at hk ⊢; simp only [hk, not_false_eq_true, and_self]))⟩, ⟨kl BK1276.out⟩, ⟨kl BK1291.out⟩, ⟨kl BK1306.out⟩, ⟨by exact bs3 GE1276.out GE1291.out GE1306.out HB.out⟩⟩
  case rest =>
   clear HC6
   try clear c1
   try clear c2
   try clear c2b0
   try clear c2b1
   try clear p2
   try clear c3
   try clear c4
   try clear c5
   try clear c11
   try clear c17
   try clear c26
   try clear c27
   try clear c33
   try clear c34
   try clear c34b0
   try clear c34b1
   try clear c34b2
   try clear c35
   try clear c36
   try clear c38
   try clear c40
   try clear c41
   try clear c41b0
   try clear c41b1
   try clear c41b2
   try clear c42
   try clear c43
   try clear c45
   try clear c48
   try clear c49
   try clear c51
   try clear c54
   try clear c55
   try clear c57
   obtain ⟨kq, x45_5, rfl, HA, HJ5, HO_1277000, HO_1277001, HO_1277002, HO_1277003, HO_1292000, HO_1292001, HO_1292002, HO_1292003, HO_1307000, HO_1307001, HO_1307002, HO_1307003, BK1276, BK1291, BK1306, HB⟩ := hcut
   cases kq with
   | zero => exact absurd HA.out (by simp [laws_FnMarkFirst.j0])
   | succ kj5 =>
    have H := HA.out
    clear HA
    simp only [laws_FnMarkFirst.j0] at H
    by_cases c60 : x45_5 = true
    ·subst c60
     have H1 : ((impl_ColoredSame.f kj5 t1277 t1280 t1283 t1286 t1292 t1295 t1298 t1301).bind fun t1308 => (if t1308 = true then (if (t1289 == t1304) = true then (some (t1290 == t1305)) else (none)) else (none))) = some r := by rw [if_pos rfl] at H; exact H
     clear H
     have H := H1
     clear H1
     replace H := Option.bind_eq_some_iff.mp H
     obtain ⟨t1308, A610, H⟩ := H
     replace H : (if t1308 = true then (if (t1289 == t1304) = true then (some (t1290 == t1305)) else (none)) else (none)) = some r := H
     have A61 := am A610
     clear A610
     by_cases c62 : t1308 = true
     ·subst c62
      have H1 : (if (t1289 == t1304) = true then (some (t1290 == t1305)) else (none)) = some r := by rw [if_pos rfl] at H; exact H
      clear H
      have H := H1
      clear H1
      by_cases c63 : (t1289 == t1304) = true
      ·rw [if_pos c63] at H
       have c63b0 : (t1289 == t1304) = true := c63
       (try (have c63b1 : decide (t1289 = t1304) = true := by simpa using c63))
       (try (have c63b2 : (t1289 == t1304) = true := by simpa using c63))
       clear c63
       obtain rfl := Option.some.inj H
       have hnb64 := NB1291_1276.out
       have hnc64 := NB1276_1291.out
       have hnb65 := NB1291_1306.out
       have hnc65 := NB1306_1291.out
       obtain ⟨hcz66_0, hcz66_1, hcz66_2, hcz66_3, hfz66_0, hfz66_1, hfz66_2, hfz66_3⟩ := cf4 BK1291
       have hnb67 := NB1306_1276.out
       have hnc67 := NB1276_1306.out
       obtain ⟨hcz68_0, hcz68_1, hcz68_2, hcz68_3, hfz68_0, hfz68_1, hfz68_2, hfz68_3⟩ := cf4 BK1306
       go_wp2_with (first | ((with_reducible refine gate_callee (f := 34) rfl ?_); refine gL (some 48) rfl rfl Try.func34 (by kernel_rfl) rfl #[.agg #[.slice Ao16 t1277.length co16, .slice Ao19 t1280.length co19, .slice Ao20 t1283.length co20, .slice Ao21 t1286.length co21], .agg #[.slice Ao25 t1292.length co25, .slice Ao29 t1295.length co29, .slice Ao30 t1298.length co30, .slice Ao31 t1301.length co31]] rfl ?_; (with_reducible refine (impl_ColoredSame.calls kj5 _ _ t1277 _ _ t1280 _ _ t1283 _ _ t1286 _ _ t1292 _ _ t1295 _ _ t1298 _ _ t1301 true _ ?side1 ?side2 ?side3 ?side4 ?side5 ?side6 ?side7 ?side8 ?side9 ?side10 ?side11 ?side12 ?side13 ?side14 ?side15 ?side16 A61.out).mono ?_); (case side1 => exact cl ((Kd.R_reads' HO_1292000.out).2.2)); (case side2 => exact sc HO_1292000); (case side3 => exact cl ((Kd.R_reads' HO_1292001.out).2.2)); (case side4 => exact sc HO_1292001); (case side5 => exact cl ((Kd.R_reads' HO_1292002.out).2.2)); (case side6 => exact sc HO_1292002); (case side7 => exact cl ((Kd.R_reads' HO_1292003.out).2.2)); (case side8 => exact sc HO_1292003); (case side9 => exact cl ((Kd.R_reads' HO_1307000.out).2.2)); (case side10 => exact sc HO_1307000); (case side11 => exact cl ((Kd.R_reads' HO_1307001.out).2.2)); (case side12 => exact sc HO_1307001); (case side13 => exact cl ((Kd.R_reads' HO_1307002.out).2.2)); (case side14 => exact sc HO_1307002); (case side15 => exact cl ((Kd.R_reads' HO_1307003.out).2.2)); (case side16 => exact sc HO_1307003); rintro e w69 ⟨rfl, hb⟩; refine ⟨_, rfl, ?_⟩; replace HO_1277000 := rb HO_1277000 hb; replace HO_1277001 := rb HO_1277001 hb; replace HO_1277002 := rb HO_1277002 hb; replace HO_1277003 := rb HO_1277003 hb; replace HO_1292000 := rb HO_1292000 hb; replace HO_1292001 := rb HO_1292001 hb; replace HO_1292002 := rb HO_1292002 hb; replace HO_1292003 := rb HO_1292003 hb; replace HO_1307000 := rb HO_1307000 hb; replace HO_1307001 := rb HO_1307001 hb; replace HO_1307002 := rb HO_1307002 hb; replace HO_1307003 := rb HO_1307003 hb; replace BK1276 := bb BK1276 hb; replace BK1291 := bb BK1291 hb; replace BK1306 := bb BK1306 hb; replace HB := am (below_step (bs3 GE1276.out GE1291.out GE1306.out HB.out) hb); (try clear hb)))
       go_ret
       exact ⟨by first | rfl | (simp [errW_none, errW_some] <;> rfl) | (simp [*, errW_none, errW_some] <;> rfl), by exact bs3 GE1276.out GE1291.out GE1306.out HB.out⟩
      ·rw [if_neg c63] at H
       exact absurd H (by simp)
     ·replace c62 := Bool.eq_false_iff.mpr c62
      subst c62
      have H1 : (none) = some r := by rw [if_neg (show ¬ (false = true) by decide)] at H; exact H
      clear H
      have H := H1
      clear H1
      exact absurd H (by simp)
    ·replace c60 := Bool.eq_false_iff.mpr c60
     subst c60
     have H1 : (laws_FnMarkFirst.l0 kj5 0 t1264 t1267 t1270 t1273 t1277 t1280 t1283 t1286) = some r := by rw [if_neg (show ¬ (false = true) by decide)] at H; exact H
     clear H
     have H := H1
     clear H1
     have H' := am H
     clear H
     go_wp2
     go_loopg [10] kj5 (fun kq v10 w' => ∃ (x10_2 : Int), v10 = .int .i64 x10_2 ∧ Aside0 (laws_FnMarkFirst.l0 kq x10_2 t1264 t1267 t1270 t1273 t1277 t1280 t1283 t1286 = some r) ∧ Aside0 (kq ≤ kj5) ∧ Aside0 (Kd.R (Kd.int .i64) 3 w' w.heap.size (fun k_ => some k_ ≠ ((.slice Ao11 t1267.length co11) : Value).ownBlock ∧ some k_ ≠ ((.slice Ao12 t1270.length co12) : Value).ownBlock ∧ some k_ ≠ ((.slice Ao13 t1273.length co13) : Value).ownBlock ∧ some k_ ≠ ((.slice Ao16 t1277.length co16) : Value).ownBlock ∧ some k_ ≠ ((.slice Ao19 t1280.length co19) : Value).ownBlock ∧ some k_ ≠ ((.slice Ao20 t1283.length co20) : Value).ownBlock ∧ some k_ ≠ ((.slice Ao21 t1286.length co21) : Value).ownBlock) (.slice Ao9 t1264.length co9) t1264) ∧ Aside0 (Kd.R (Kd.int .i64) 3 w' w.heap.size (fun k_ => some k_ ≠ ((.slice Ao9 t1264.length co9) : Value).ownBlock ∧ some k_ ≠ ((.slice Ao12 t1270.length co12) : Value).ownBlock ∧ some k_ ≠ ((.slice Ao13 t1273.length co13) : Value).ownBlock ∧ some k_ ≠ ((.slice Ao16 t1277.length co16) : Value).ownBlock ∧ some k_ ≠ ((.slice Ao19 t1280.length co19) : Value).ownBlock ∧ some k_ ≠ ((.slice Ao20 t1283.length co20) : Value).ownBlock ∧ some k_ ≠ ((.slice Ao21 t1286.length co21) : Value).ownBlock) (.slice Ao11 t1267.length co11) t1267) ∧ Aside0 (Kd.R (Kd.int .i64) 3 w' w.heap.size (fun k_ => some k_ ≠ ((.slice Ao9 t1264.length co9) : Value).ownBlock ∧ some k_ ≠ ((.slice Ao11 t1267.length co11) : Value).ownBlock ∧ some k_ ≠ ((.slice Ao13 t1273.length co13) : Value).ownBlock ∧ some k_ ≠ ((.slice Ao16 t1277.length co16) : Value).ownBlock ∧ some k_ ≠ ((.slice Ao19 t1280.length co19) : Value).ownBlock ∧ some k_ ≠ ((.slice Ao20 t1283.length co20) : Value).ownBlock ∧ some k_ ≠ ((.slice Ao21 t1286.length co21) : Value).ownBlock) (.slice Ao12 t1270.length co12) t1270) ∧ Aside0 (Kd.R (Kd.int .i64) 3 w' w.heap.size (fun k_ => some k_ ≠ ((.slice Ao9 t1264.length co9) : Value).ownBlock ∧ some k_ ≠ ((.slice Ao11 t1267.length co11) : Value).ownBlock ∧ some k_ ≠ ((.slice Ao12 t1270.length co12) : Value).ownBlock ∧ some k_ ≠ ((.slice Ao16 t1277.length co16) : Value).ownBlock ∧ some k_ ≠ ((.slice Ao19 t1280.length co19) : Value).ownBlock ∧ some k_ ≠ ((.slice Ao20 t1283.length co20) : Value).ownBlock ∧ some k_ ≠ ((.slice Ao21 t1286.length co21) : Value).ownBlock) (.slice Ao13 t1273.length co13) t1273) ∧ Aside0 (Kd.R (Kd.int .i64) 3 w' w.heap.size (fun k_ => some k_ ≠ ((.slice Ao9 t1264.length co9) : Value).ownBlock ∧ some k_ ≠ ((.slice Ao11 t1267.length co11) : Value).ownBlock ∧ some k_ ≠ ((.slice Ao12 t1270.length co12) : Value).ownBlock ∧ some k_ ≠ ((.slice Ao13 t1273.length co13) : Value).ownBlock ∧ some k_ ≠ ((.slice Ao19 t1280.length co19) : Value).ownBlock ∧ some k_ ≠ ((.slice Ao20 t1283.length co20) : Value).ownBlock ∧ some k_ ≠ ((.slice Ao21 t1286.length co21) : Value).ownBlock) (.slice Ao16 t1277.length co16) t1277) ∧ Aside0 (Kd.R (Kd.int .i64) 3 w' w.heap.size (fun k_ => some k_ ≠ ((.slice Ao9 t1264.length co9) : Value).ownBlock ∧ some k_ ≠ ((.slice Ao11 t1267.length co11) : Value).ownBlock ∧ some k_ ≠ ((.slice Ao12 t1270.length co12) : Value).ownBlock ∧ some k_ ≠ ((.slice Ao13 t1273.length co13) : Value).ownBlock ∧ some k_ ≠ ((.slice Ao16 t1277.length co16) : Value).ownBlock ∧ some k_ ≠ ((.slice Ao20 t1283.length co20) : Value).ownBlock ∧ some k_ ≠ ((.slice Ao21 t1286.length co21) : Value).ownBlock) (.slice Ao19 t1280.length co19) t1280) ∧ Aside0 (Kd.R (Kd.int .i64) 3 w' w.heap.size (fun k_ => some k_ ≠ ((.slice Ao9 t1264.length co9) : Value).ownBlock ∧ some k_ ≠ ((.slice Ao11 t1267.length co11) : Value).ownBlock ∧ some k_ ≠ ((.slice Ao12 t1270.length co12) : Value).ownBlock ∧ some k_ ≠ ((.slice Ao13 t1273.length co13) : Value).ownBlock ∧ some k_ ≠ ((.slice Ao16 t1277.length co16) : Value).ownBlock ∧ some k_ ≠ ((.slice Ao19 t1280.length co19) : Value).ownBlock ∧ some k_ ≠ ((.slice Ao21 t1286.length co21) : Value).ownBlock) (.slice Ao20 t1283.length co20) t1283) ∧ Aside0 (Kd.R (Kd.int .i64) 3 w' w.heap.size (fun k_ => some k_ ≠ ((.slice Ao9 t1264.length co9) : Value).ownBlock ∧ some k_ ≠ ((.slice Ao11 t1267.length co11) : Value).ownBlock ∧ some k_ ≠ ((.slice Ao12 t1270.length co12) : Value).ownBlock ∧ some k_ ≠ ((.slice Ao13 t1273.length co13) : Value).ownBlock ∧ some k_ ≠ ((.slice Ao16 t1277.length co16) : Value).ownBlock ∧ some k_ ≠ ((.slice Ao19 t1280.length co19) : Value).ownBlock ∧ some k_ ≠ ((.slice Ao20 t1283.length co20) : Value).ownBlock) (.slice Ao21 t1286.length co21) t1286) ∧ Aside0 (w'.heap[gb1276]? = some (.cells #[(.slice Ao9 t1264.length co9), (.slice Ao11 t1267.length co11), (.slice Ao12 t1270.length co12), (.slice Ao13 t1273.length co13)] 30 (0, 0))) ∧ Aside0 (w'.heap[gb1291]? = some (.cells #[(.slice Ao16 t1277.length co16), (.slice Ao19 t1280.length co19), (.slice Ao20 t1283.length co20), (.slice Ao21 t1286.length co21)] 30 (0, 0))) ∧ Aside0 (Below w.heap.size w w'))
     case atStart => exact ⟨(0), (by first | rfl | (simp; done) | (simp [*]; done)), H', ⟨Nat.le_refl _⟩, ⟨rl (Kd.R_mono HO_1277000.out (fun _ hk => by simp only [ne_eq] at hk ⊢; simp only [hk, not_false_eq_true, and_self]))⟩, ⟨rl (Kd.R_mono HO_1277001.out (fun _ hk => by simp only [ne_eq] at hk ⊢; simp only [hk, not_false_eq_true, and_self]))⟩, ⟨rl (Kd.R_mono HO_1277002.out (fun _ hk => by simp only [ne_eq] at hk ⊢; simp only [hk, not_false_eq_true, and_self]))⟩, ⟨rl (Kd.R_mono HO_1277003.out (fun _ hk => by simp only [ne_eq] at hk ⊢; simp only [hk, not_false_eq_true, and_self]))⟩, ⟨rl (Kd.R_mono HO_1292000.out (fun _ hk => by simp only [ne_eq] at hk ⊢; simp only [hk, not_false_eq_true, and_self]))⟩, ⟨rl (Kd.R_mono HO_1292001.out (fun _ hk => by simp only [ne_eq] at hk ⊢; simp only [hk, not_false_eq_true, and_self]))⟩, ⟨rl (Kd.R_mono HO_1292002.out (fun _ hk => by simp only [ne_eq] at hk ⊢; simp only [hk, not_false_eq_true, and_self]))⟩, ⟨rl (Kd.R_mono HO_1292003.out (fun _ hk => by simp only [ne_eq] at hk ⊢; simp only [hk, not_false_eq_true, and_self]))⟩, ⟨kl BK1276.out⟩, ⟨kl BK1291.out⟩, ⟨by exact bs3 GE1276.out GE1291.out GE1306.out HB.out⟩⟩
     case round =>
      clear H'
      try clear c1
      try clear c2
      try clear c2b0
      try clear c2b1
      try clear p2
      try clear c3
      try clear c4
      try clear c5
      try clear c6
      try clear c11
      try clear c17
      try clear c26
      try clear c27
      try clear c33
      try clear c34
      try clear c34b0
      try clear c34b1
      try clear c34b2
      try clear c35
      try clear c36
      try clear c38
      try clear c40
      try clear c41
      try clear c41b0
      try clear c41b1
      try clear c41b2
      try clear c42
      try clear c43
      try clear c45
      try clear c48
      try clear c49
      try clear c51
      try clear c54
      try clear c55
      try clear c57
      try clear c60
      try clear c62
      try clear c63
      try clear c63b0
      try clear c63b1
      try clear c63b2
      try clear c64
      try clear c65
      try clear c67
      try clear p2
      obtain ⟨x10_2, rfl, HA, HK2, HO_1277000, HO_1277001, HO_1277002, HO_1277003, HO_1292000, HO_1292001, HO_1292002, HO_1292003, BK1276, BK1291, HB⟩ := hrel
      cases gk with
      | zero => exact absurd HA.out (by simp [laws_FnMarkFirst.l0])
      | succ k2 =>
       have H := HA.out
       clear HA
       simp only [laws_FnMarkFirst.l0] at H
       by_cases c70 : x10_2 < (t1273.length : Int)
       ·rw [if_pos c70] at H
        have c70b0 : decide (x10_2 < (t1273.length : Int)) = true := decide_eq_true c70
        clear c70
        by_cases c71 : 0 ≤ x10_2
        ·rw [if_pos c71] at H
         have c71b0 : decide (0 ≤ x10_2) = true := decide_eq_true c71
         clear c71
         by_cases c72 : (rd t1273 x10_2) = 1
         ·rw [if_pos c72] at H
          have c72b0 : ((rd t1273 x10_2) == 1) = true := beq_iff_eq.mpr c72
          have c72b1 : ((rd t1273 x10_2) != 1) = false := bne_eq_false_iff_eq.mpr c72
          clear c72
          by_cases c73 : x10_2 < (t1286.length : Int)
          ·rw [if_pos c73] at H
           have c73b0 : decide (x10_2 < (t1286.length : Int)) = true := decide_eq_true c73
           clear c73
           by_cases c74 : (rd t1286 x10_2) = 2
           ·rw [if_pos c74] at H
            have c74b0 : ((rd t1286 x10_2) == 2) = true := beq_iff_eq.mpr c74
            have c74b1 : ((rd t1286 x10_2) != 2) = false := bne_eq_false_iff_eq.mpr c74
            clear c74
            replace H := Option.bind_eq_some_iff.mp H
            obtain ⟨t1311, A750, H⟩ := H
            replace H : (some t1311) = some r := H
            have A75 := am A750
            clear A750
            obtain rfl := Option.some.inj H
            have hnb76 := NB1276_1291.out
            have hnc76 := NB1291_1276.out
            obtain ⟨hcz77_0, hcz77_1, hcz77_2, hcz77_3, hfz77_0, hfz77_1, hfz77_2, hfz77_3⟩ := cf4 BK1276
            have p1309 : 0 ≤ (x10_2 : Int) := of_decide_eq_true (by first | (with_reducible assumption) | assumption)
            have q1309 : x10_2 < (t1273.length : Int) := of_decide_eq_true (by first | (with_reducible assumption) | assumption)
            obtain ⟨ad1309, e1309, hx1309_0⟩ := Kd.at_int (Kd.R_reads' HO_1277003.out).2.2 x10_2 p1309 q1309
            cases e1309
            replace p1309 := eq_true p1309
            replace q1309 := eq_true q1309
            obtain ⟨hcz78_0, hcz78_1, hcz78_2, hcz78_3, hfz78_0, hfz78_1, hfz78_2, hfz78_3⟩ := cf4 BK1291
            have p1310 : 0 ≤ (x10_2 : Int) := of_decide_eq_true (by first | (with_reducible assumption) | assumption)
            have q1310 : x10_2 < (t1286.length : Int) := of_decide_eq_true (by first | (with_reducible assumption) | assumption)
            obtain ⟨ad1310, e1310, hx1310_0⟩ := Kd.at_int (Kd.R_reads' HO_1292003.out).2.2 x10_2 p1310 q1310
            cases e1310
            replace p1310 := eq_true p1310
            replace q1310 := eq_true q1310
            go_wp2_with (first | (go_at_call 38; (with_reducible refine (impl_HeapSame.calls k2 _ _ t1277 _ _ t1280 _ _ t1283 _ _ t1264 _ _ t1267 _ _ t1270 t1311 _ ?side1 ?side2 ?side3 ?side4 ?side5 ?side6 ?side7 ?side8 ?side9 ?side10 ?side11 ?side12 A75.out).mono ?_); (case side1 => exact cl ((Kd.R_reads' HO_1292000.out).2.2)); (case side2 => exact sc HO_1292000); (case side3 => exact cl ((Kd.R_reads' HO_1292001.out).2.2)); (case side4 => exact sc HO_1292001); (case side5 => exact cl ((Kd.R_reads' HO_1292002.out).2.2)); (case side6 => exact sc HO_1292002); (case side7 => exact cl ((Kd.R_reads' HO_1277000.out).2.2)); (case side8 => exact sc HO_1277000); (case side9 => exact cl ((Kd.R_reads' HO_1277001.out).2.2)); (case side10 => exact sc HO_1277001); (case side11 => exact cl ((Kd.R_reads' HO_1277002.out).2.2)); (case side12 => exact sc HO_1277002); rintro e w79 ⟨rfl, hb⟩; replace HO_1277000 := rb HO_1277000 hb; replace HO_1277001 := rb HO_1277001 hb; replace HO_1277002 := rb HO_1277002 hb; replace HO_1277003 := rb HO_1277003 hb; replace HO_1292000 := rb HO_1292000 hb; replace HO_1292001 := rb HO_1292001 hb; replace HO_1292002 := rb HO_1292002 hb; replace HO_1292003 := rb HO_1292003 hb; replace BK1276 := bb BK1276 hb; replace BK1291 := bb BK1291 hb; replace HB := am (below_step (bs2 GE1276.out GE1291.out HB.out) hb); (try clear hb)))
            go_ret
            exact ⟨by first | rfl | (simp [errW_none, errW_some] <;> rfl) | (simp [*, errW_none, errW_some] <;> rfl), by exact bs2 GE1276.out GE1291.out HB.out⟩
           ·rw [if_neg c74] at H
            exact absurd H (by simp)
          ·rw [if_neg c73] at H
           exact absurd H (by simp)
         ·rw [if_neg c72] at H
          have c72b0 : ((rd t1273 x10_2) == 1) = false := beq_eq_false_iff_ne.mpr c72
          have c72b1 : ((rd t1273 x10_2) != 1) = true := bne_iff_ne.mpr c72
          have H' := am H
          clear H
          have hnb80 := NB1276_1291.out
          have hnc80 := NB1291_1276.out
          obtain ⟨hcz81_0, hcz81_1, hcz81_2, hcz81_3, hfz81_0, hfz81_1, hfz81_2, hfz81_3⟩ := cf4 BK1276
          have p1309 : 0 ≤ (x10_2 : Int) := of_decide_eq_true (by first | (with_reducible assumption) | assumption)
          have q1309 : x10_2 < (t1273.length : Int) := of_decide_eq_true (by first | (with_reducible assumption) | assumption)
          obtain ⟨ad1309, e1309, hx1309_0⟩ := Kd.at_int (Kd.R_reads' HO_1277003.out).2.2 x10_2 p1309 q1309
          cases e1309
          replace p1309 := eq_true p1309
          replace q1309 := eq_true q1309
          go_wp2
          go_roundg k2
          case measure => have := HJ5.out; have := HK2.out; omega
          case rel => exact ⟨(wrap64 (x10_2 + 1)), (by first | rfl | (simp; done) | (simp [*]; done)), H', ⟨by have := HJ5.out; have := HK2.out; omega⟩, ⟨rl HO_1277000.out⟩, ⟨rl HO_1277001.out⟩, ⟨rl HO_1277002.out⟩, ⟨rl HO_1277003.out⟩, ⟨rl HO_1292000.out⟩, ⟨rl HO_1292001.out⟩, ⟨rl HO_1292002.out⟩, ⟨rl HO_1292003.out⟩, ⟨kl BK1276.out⟩, ⟨kl BK1291.out⟩, ⟨by exact bs2 GE1276.out GE1291.out HB.out⟩⟩
        ·rw [if_neg c71] at H
         exact absurd H (by simp)
       ·rw [if_neg c70] at H
        exact absurd H (by simp)

/-- THE ONE PURE STATEMENT of laws_FnMarkFirst: yours. -/
def laws_FnMarkFirst.Pure : Prop := ∀ (l0 : List Int), l0.length ≤ maxLen → l0.length * 1 ≤ 140737488351232 → (∀ x ∈ l0, (Lit.int .u8 x).wf = true) → ∃ k, laws_FnMarkFirst.f k l0 = some true
theorem laws_FnMarkFirst.walk (P : laws_FnMarkFirst.Pure) (a0 : Option Addr) (len0 cap0 : Nat) (z0 : List Int) (w : World) (w0 : (a0 = none ∧ len0 = 0 ∧ cap0 = 0 ∧ z0 = []) ∨ ∃ x, a0 = some x ∧ len0 ≤ cap0 ∧ cap0 ≤ maxLen ∧ z0.length = cap0 ∧ (∀ i, i < z0.length → w.cell? (x.add i) = some (.int .u8 (z0.getD i 0))) ∧ ∀ n ∈ z0, (Lit.int .u8 n).wf = true) (y0 : len0 * 1 ≤ 140737488351232) :
  Calls Try.prog 11 #[.slice a0 len0 cap0] w fun e w' => e = .returned (.bool true) ∧ Below w.heap.size w w' := by
 obtain ⟨l0, rfl, hr0, hm0, hw0, hc0⟩ := ReadsInt.ofRowC w0
 obtain ⟨k, h⟩ := P l0 hm0 y0 hw0
 refine (laws_FnMarkFirst.calls k _ _ l0 true w (Kd.C_of_reads (d := (0 : Int)) (h1 := fun _ => rfl) hr0) hc0 h).mono ?_
 rintro e w' ⟨rfl, hd⟩
 exact ⟨rfl, hd⟩

end Go.Proofs.Ytkbaggfkidalfaa.A
