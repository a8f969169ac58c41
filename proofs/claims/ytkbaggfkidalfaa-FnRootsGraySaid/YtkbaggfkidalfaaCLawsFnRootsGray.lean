/- Contracts of functions of the given program (CLawsFnRootsGray). No conditions beyond those stated. -/
import Derived.Test.YtkbaggfkidalfaaA0
import Derived.Test.YtkbaggfkidalfaaAImplColoredSame
import Derived.Test.YtkbaggfkidalfaaAImplCountColor
import Derived.Test.YtkbaggfkidalfaaAImplDistanceOf
import Derived.Test.YtkbaggfkidalfaaAImplNewColored
import Derived.Test.YtkbaggfkidalfaaAImplShadeRoots
import Derived.Test.YtkbaggfkidalfaaASpecDrawNewColored
import Derived.Test.YtkbaggfkidalfaaASpecNewColored
import Derived.Test.YtkbaggfkidalfaaA0
namespace Go.Proofs.Ytkbaggfkidalfaa.A
open Go.RowKit Go.Proofs.YtkbaggfkidalfaaW.PrintWords Go.Proofs.YtkbaggfkidalfaaW.PrintLast Go.Proofs.YtkbaggfkidalfaaW.PrintMore
attribute [local go_sem] max2_int min2_int max_two min_two max_three min_three max_four min_four   -- for this text's walks alone
set_option linter.unusedVariables false
set_option linter.unusedSimpArgs false

/-! ### laws_FnRootsGray -/
mutual
def laws_FnRootsGray.j0 : Nat → Bool → Bool → Bool → List Int → List Int → List Int → List Int → List Int → List Int → List Int → List Int → List Int → List Int → List Int → Option (Bool)
 | 0, _, _, _, _, _, _, _, _, _, _, _, _, _, _ => none
 | k + 1, x5, x7, x41, x1460000, x1460001, x1460002, x1474000, x1474001, x1474002, x1474003, x1488000, x1488001, x1488002, x1488003 => if x41 = true then ((impl_ColoredSame.f k x1474000 x1474001 x1474002 x1474003 x1488000 x1488001 x1488002 x1488003).bind fun t1489 => (if t1489 = true then (some (x5 == x7)) else (none))) else ((impl_ShadeRoots.f k x1474000 x1474001 x1474002 x1474003).bind fun bt1490 => (laws_FnRootsGray.l0 k bt1490.2.2.2.2 0 0 x1460000 x1460001 x1460002 x1474000 x1474001 x1474002 x1474003 bt1490.1 bt1490.2.1 bt1490.2.2.1 bt1490.2.2.2.1))
def laws_FnRootsGray.l0 : Nat → Bool → Int → Int → List Int → List Int → List Int → List Int → List Int → List Int → List Int → List Int → List Int → List Int → List Int → Option (Bool)
 | 0, _, _, _, _, _, _, _, _, _, _, _, _, _, _ => none
 | k + 1, x9, x10, x11, x1460000, x1460001, x1460002, x1474000, x1474001, x1474002, x1474003, x1504000, x1504001, x1504002, x1504003 => if x11 < (x1460000.length : Int) then ((impl_DistanceOf.f k x1460000 x1460001 x1460002 x11).bind fun bt1504 => (if bt1504.2 = true then (if bt1504.1 = 1 then (laws_FnRootsGray.l0 k x9 (wrap64 (x10 + 1)) (wrap64 (x11 + 1)) x1460000 x1460001 x1460002 x1474000 x1474001 x1474002 x1474003 x1504000 x1504001 x1504002 x1504003) else (laws_FnRootsGray.l0 k x9 x10 (wrap64 (x11 + 1)) x1460000 x1460001 x1460002 x1474000 x1474001 x1474002 x1474003 x1504000 x1504001 x1504002 x1504003)) else (laws_FnRootsGray.l0 k x9 x10 (wrap64 (x11 + 1)) x1460000 x1460001 x1460002 x1474000 x1474001 x1474002 x1474003 x1504000 x1504001 x1504002 x1504003))) else (if x9 = true then ((impl_CountColor.f k x1504000 x1504001 x1504002 x1504003 1).bind fun t1506 => (if t1506 = x10 then ((impl_CountColor.f k x1474000 x1474001 x1474002 x1474003 0).bind fun t1507 => (some (t1507 == (x1460000.length : Int)))) else (none))) else (none))
end
def laws_FnRootsGray.f (k : Nat) (l0 : List Int) : Option (Bool) := if (l0.length : Int) > 1048576 then (some true) else ((spec_DrawNewColored.f k l0).bind fun bt1450 => ((impl_NewColored.f k bt1450.1 bt1450.2.1 bt1450.2.2).bind fun bt1460 => ((spec_NewColored.f k bt1450.1 bt1450.2.1 bt1450.2.2).bind fun bt1474 => ((impl_ColoredSame.f k bt1460.1 bt1460.2.1 bt1460.2.2.1 bt1460.2.2.2.1 bt1474.1 bt1474.2.1 bt1474.2.2.1 bt1474.2.2.2.1).bind fun t1488 => (if t1488 = true then (if (bt1460.2.2.2.2 != bt1474.2.2.2.2) = true then (laws_FnRootsGray.j0 k bt1460.2.2.2.2 bt1474.2.2.2.2 true bt1450.1 bt1450.2.1 bt1450.2.2 bt1460.1 bt1460.2.1 bt1460.2.2.1 bt1460.2.2.2.1 bt1474.1 bt1474.2.1 bt1474.2.2.1 bt1474.2.2.2.1) else (laws_FnRootsGray.j0 k bt1460.2.2.2.2 bt1474.2.2.2.2 (!bt1460.2.2.2.2) bt1450.1 bt1450.2.1 bt1450.2.2 bt1460.1 bt1460.2.1 bt1460.2.2.1 bt1460.2.2.2.1 bt1474.1 bt1474.2.1 bt1474.2.2.1 bt1474.2.2.2.1)) else (laws_FnRootsGray.j0 k bt1460.2.2.2.2 bt1474.2.2.2.2 true bt1450.1 bt1450.2.1 bt1450.2.2 bt1460.1 bt1460.2.1 bt1460.2.2.1 bt1460.2.2.2.1 bt1474.1 bt1474.2.1 bt1474.2.2.1 bt1474.2.2.2.1))))))
theorem laws_FnRootsGray.mono_l : ∀ k, (∀ y0 y1 y2 y3 y4 y5 y6 y7 y8 y9 y10 y11 y12 y13, LeO (laws_FnRootsGray.j0 k y0 y1 y2 y3 y4 y5 y6 y7 y8 y9 y10 y11 y12 y13) (laws_FnRootsGray.j0 (k + 1) y0 y1 y2 y3 y4 y5 y6 y7 y8 y9 y10 y11 y12 y13)) ∧ (∀ y0 y1 y2 y3 y4 y5 y6 y7 y8 y9 y10 y11 y12 y13, LeO (laws_FnRootsGray.l0 k y0 y1 y2 y3 y4 y5 y6 y7 y8 y9 y10 y11 y12 y13) (laws_FnRootsGray.l0 (k + 1) y0 y1 y2 y3 y4 y5 y6 y7 y8 y9 y10 y11 y12 y13))
 | 0 => ⟨fun _ _ _ _ _ _ _ _ _ _ _ _ _ _ r h => by simp [laws_FnRootsGray.j0] at h, fun _ _ _ _ _ _ _ _ _ _ _ _ _ _ r h => by simp [laws_FnRootsGray.l0] at h⟩
 | k + 1 => by
  obtain ⟨ih0, ih1⟩ := laws_FnRootsGray.mono_l k
  refine ⟨?_, ?_⟩
  ·intro y0 y1 y2 y3 y4 y5 y6 y7 y8 y9 y10 y11 y12 y13
   unfold laws_FnRootsGray.j0
   repeat' first
   | (with_reducible exact ih0 _ _ _ _ _ _ _ _ _ _ _ _ _ _)
   | (with_reducible exact ih1 _ _ _ _ _ _ _ _ _ _ _ _ _ _)
   | (with_reducible exact impl_ColoredSame.mono _ _ _ _ _ _ _ _ _)
   | (with_reducible exact impl_CountColor.mono _ _ _ _ _ _)
   | (with_reducible exact impl_DistanceOf.mono _ _ _ _ _)
   | (with_reducible exact impl_NewColored.mono _ _ _ _)
   | (with_reducible exact impl_ShadeRoots.mono _ _ _ _ _)
   | (with_reducible exact spec_DrawNewColored.mono _ _)
   | (with_reducible exact spec_NewColored.mono _ _ _ _)
   | (with_reducible exact LeO.refl _)
   | (with_reducible exact LeO.none _)
   | (with_reducible refine LeO.ite ?_ ?_)
   | (with_reducible refine LeO.bind ?_ (fun _ => ?_))
   | exact ih0 _ _ _ _ _ _ _ _ _ _ _ _ _ _
   | exact ih1 _ _ _ _ _ _ _ _ _ _ _ _ _ _
   | exact impl_ColoredSame.mono _ _ _ _ _ _ _ _ _
   | exact impl_CountColor.mono _ _ _ _ _ _
   | exact impl_DistanceOf.mono _ _ _ _ _
   | exact impl_NewColored.mono _ _ _ _
   | exact impl_ShadeRoots.mono _ _ _ _ _
   | exact spec_DrawNewColored.mono _ _
   | exact spec_NewColored.mono _ _ _ _
   | exact LeO.none _
   | refine LeO.ite ?_ ?_
   | refine LeO.bind ?_ (fun _ => ?_)
  ·intro y0 y1 y2 y3 y4 y5 y6 y7 y8 y9 y10 y11 y12 y13
   unfold laws_FnRootsGray.l0
   repeat' first
   | (with_reducible exact ih0 _ _ _ _ _ _ _ _ _ _ _ _ _ _)
   | (with_reducible exact ih1 _ _ _ _ _ _ _ _ _ _ _ _ _ _)
   | (with_reducible exact impl_ColoredSame.mono _ _ _ _ _ _ _ _ _)
   | (with_reducible exact impl_CountColor.mono _ _ _ _ _ _)
   | (with_reducible exact impl_DistanceOf.mono _ _ _ _ _)
   | (with_reducible exact impl_NewColored.mono _ _ _ _)
   | (with_reducible exact impl_ShadeRoots.mono _ _ _ _ _)
   | (with_reducible exact spec_DrawNewColored.mono _ _)
   | (with_reducible exact spec_NewColored.mono _ _ _ _)
   | (with_reducible exact LeO.refl _)
   | (with_reducible exact LeO.none _)
   | (with_reducible refine LeO.ite ?_ ?_)
   | (with_reducible refine LeO.bind ?_ (fun _ => ?_))
   | exact ih0 _ _ _ _ _ _ _ _ _ _ _ _ _ _
   | exact ih1 _ _ _ _ _ _ _ _ _ _ _ _ _ _
   | exact impl_ColoredSame.mono _ _ _ _ _ _ _ _ _
   | exact impl_CountColor.mono _ _ _ _ _ _
   | exact impl_DistanceOf.mono _ _ _ _ _
   | exact impl_NewColored.mono _ _ _ _
   | exact impl_ShadeRoots.mono _ _ _ _ _
   | exact spec_DrawNewColored.mono _ _
   | exact spec_NewColored.mono _ _ _ _
   | exact LeO.none _
   | refine LeO.ite ?_ ?_
   | refine LeO.bind ?_ (fun _ => ?_)
theorem laws_FnRootsGray.mono : ∀ a0 k, LeO (laws_FnRootsGray.f k a0) (laws_FnRootsGray.f (k + 1) a0) := by
 intro a0 k
 obtain ⟨ih0, ih1⟩ := laws_FnRootsGray.mono_l k
 unfold laws_FnRootsGray.f
 repeat' first
   | (with_reducible exact ih0 _ _ _ _ _ _ _ _ _ _ _ _ _ _)
   | (with_reducible exact ih1 _ _ _ _ _ _ _ _ _ _ _ _ _ _)
   | (with_reducible exact impl_ColoredSame.mono _ _ _ _ _ _ _ _ _)
   | (with_reducible exact impl_CountColor.mono _ _ _ _ _ _)
   | (with_reducible exact impl_DistanceOf.mono _ _ _ _ _)
   | (with_reducible exact impl_NewColored.mono _ _ _ _)
   | (with_reducible exact impl_ShadeRoots.mono _ _ _ _ _)
   | (with_reducible exact spec_DrawNewColored.mono _ _)
   | (with_reducible exact spec_NewColored.mono _ _ _ _)
   | (with_reducible exact LeO.refl _)
   | (with_reducible exact LeO.none _)
   | (with_reducible refine LeO.ite ?_ ?_)
   | (with_reducible refine LeO.bind ?_ (fun _ => ?_))
   | exact ih0 _ _ _ _ _ _ _ _ _ _ _ _ _ _
   | exact ih1 _ _ _ _ _ _ _ _ _ _ _ _ _ _
   | exact impl_ColoredSame.mono _ _ _ _ _ _ _ _ _
   | exact impl_CountColor.mono _ _ _ _ _ _
   | exact impl_DistanceOf.mono _ _ _ _ _
   | exact impl_NewColored.mono _ _ _ _
   | exact impl_ShadeRoots.mono _ _ _ _ _
   | exact spec_DrawNewColored.mono _ _
   | exact spec_NewColored.mono _ _ _ _
   | exact LeO.none _
   | refine LeO.ite ?_ ?_
   | refine LeO.bind ?_ (fun _ => ?_)
def laws_FnRootsGray.T16 : Bool × List (List Nat × List Nat) := (true, [([], []), ([0], [0]), ([1], [1]), ([2, 1, 1], [1, 2]), ([1], [1]), ([3, 4, 1], [1, 3, 4]), ([1, 5], [1, 5]), ([6, 3], [6]), ([7], [7]), ([8, 7, 7], [7, 8]), ([7], [7]), ([10, 7], [7, 10]), ([11, 7], [7, 11]), ([9, 12, 7], [7, 9, 12]), ([7, 13], [7, 13]), ([14, 9, 0, 1, 2, 3, 4, 5, 6, 7, 8, 9, 10, 11, 12, 13, 14], [14])])
def laws_FnRootsGray.B16 : List Nat := [0, 1, 3, 7, 3, 31, 63, 127, 255, 511, 255, 1279, 3327, 8191, 16383, 32767]
theorem laws_FnRootsGray.tab16 : rtab .any (opsOf Try.f14 16) = laws_FnRootsGray.T16 := by kernel_rfl
theorem laws_FnRootsGray.bits16 : waitsOk laws_FnRootsGray.T16.2 laws_FnRootsGray.B16 = true := by kernel_rfl
set_option maxHeartbeats 8000000 in
set_option maxRecDepth 100000 in
theorem laws_FnRootsGray.calls (k : Nat) (A0 : Option Addr) (c0 : Nat) (l0 : List Int) (r : Bool) (w : World) (hr0 : Kd.C (Kd.int .u8) w A0 l0.length l0) (hc0 : l0.length ≤ c0) (h : laws_FnRootsGray.f k l0 = some r) :
  Calls Try.prog 14 #[.slice A0 l0.length c0] w fun e w' => e = .returned (.bool r) ∧ Below w.heap.size w w' := by
 have hu28 := Try.underlying28
 have hu30 := Try.underlying30
 have HR0 := am hr0
 have HC0 := am hc0
 clear hr0 hc0
 have HB := am (Below.refl w.heap.size w)
 have H : (if (l0.length : Int) > 1048576 then (some true) else ((spec_DrawNewColored.f k l0).bind fun bt1450 => ((impl_NewColored.f k bt1450.1 bt1450.2.1 bt1450.2.2).bind fun bt1460 => ((spec_NewColored.f k bt1450.1 bt1450.2.1 bt1450.2.2).bind fun bt1474 => ((impl_ColoredSame.f k bt1460.1 bt1460.2.1 bt1460.2.2.1 bt1460.2.2.2.1 bt1474.1 bt1474.2.1 bt1474.2.2.1 bt1474.2.2.2.1).bind fun t1488 => (if t1488 = true then (if (bt1460.2.2.2.2 != bt1474.2.2.2.2) = true then (laws_FnRootsGray.j0 k bt1460.2.2.2.2 bt1474.2.2.2.2 true bt1450.1 bt1450.2.1 bt1450.2.2 bt1460.1 bt1460.2.1 bt1460.2.2.1 bt1460.2.2.2.1 bt1474.1 bt1474.2.1 bt1474.2.2.1 bt1474.2.2.2.1) else (laws_FnRootsGray.j0 k bt1460.2.2.2.2 bt1474.2.2.2.2 (!bt1460.2.2.2.2) bt1450.1 bt1450.2.1 bt1450.2.2 bt1460.1 bt1460.2.1 bt1460.2.2.1 bt1460.2.2.2.1 bt1474.1 bt1474.2.1 bt1474.2.2.1 bt1474.2.2.2.1)) else (laws_FnRootsGray.j0 k bt1460.2.2.2.2 bt1474.2.2.2.2 true bt1450.1 bt1450.2.1 bt1450.2.2 bt1460.1 bt1460.2.1 bt1460.2.2.1 bt1460.2.2.2.1 bt1474.1 bt1474.2.1 bt1474.2.2.1 bt1474.2.2.2.1))))))) = some r := h
 clear h
 by_cases c2 : (l0.length : Int) > 1048576
 ·rw [if_pos c2] at H
  have c2b0 : decide (1048576 < (l0.length : Int)) = true := decide_eq_true c2
  have c2b1 : decide (1048576 < l0.length) = true := decide_eq_true (by omega)
  clear c2
  obtain rfl := Option.some.inj H
  go_enter Try.func14, Try.ntmps14
  go_wp2
  go_ret
  exact ⟨by first | rfl | (simp [errW_none, errW_some] <;> rfl) | (simp [*, errW_none, errW_some] <;> rfl), by exact bs0 HB.out⟩
 ·rw [if_neg c2] at H
  have c2b0 : decide (1048576 < (l0.length : Int)) = false := decide_eq_false c2
  have c2b1 : decide (1048576 < l0.length) = false := decide_eq_false (by omega)
  clear c2
  replace H := Option.bind_eq_some_iff.mp H
  obtain ⟨⟨t1450, t1453, t1456⟩, A30, H⟩ := H
  replace H : ((impl_NewColored.f k t1450 t1453 t1456).bind fun bt1460 => ((spec_NewColored.f k t1450 t1453 t1456).bind fun bt1474 => ((impl_ColoredSame.f k bt1460.1 bt1460.2.1 bt1460.2.2.1 bt1460.2.2.2.1 bt1474.1 bt1474.2.1 bt1474.2.2.1 bt1474.2.2.2.1).bind fun t1488 => (if t1488 = true then (if (bt1460.2.2.2.2 != bt1474.2.2.2.2) = true then (laws_FnRootsGray.j0 k bt1460.2.2.2.2 bt1474.2.2.2.2 true t1450 t1453 t1456 bt1460.1 bt1460.2.1 bt1460.2.2.1 bt1460.2.2.2.1 bt1474.1 bt1474.2.1 bt1474.2.2.1 bt1474.2.2.2.1) else (laws_FnRootsGray.j0 k bt1460.2.2.2.2 bt1474.2.2.2.2 (!bt1460.2.2.2.2) t1450 t1453 t1456 bt1460.1 bt1460.2.1 bt1460.2.2.1 bt1460.2.2.2.1 bt1474.1 bt1474.2.1 bt1474.2.2.1 bt1474.2.2.2.1)) else (laws_FnRootsGray.j0 k bt1460.2.2.2.2 bt1474.2.2.2.2 true t1450 t1453 t1456 bt1460.1 bt1460.2.1 bt1460.2.2.1 bt1460.2.2.2.1 bt1474.1 bt1474.2.1 bt1474.2.2.1 bt1474.2.2.2.1))))) = some r := H
  have A3 := am A30
  clear A30
  replace H := Option.bind_eq_some_iff.mp H
  obtain ⟨⟨t1460, t1463, t1466, t1469, t1472⟩, A40, H⟩ := H
  replace H : ((spec_NewColored.f k t1450 t1453 t1456).bind fun bt1474 => ((impl_ColoredSame.f k t1460 t1463 t1466 t1469 bt1474.1 bt1474.2.1 bt1474.2.2.1 bt1474.2.2.2.1).bind fun t1488 => (if t1488 = true then (if (t1472 != bt1474.2.2.2.2) = true then (laws_FnRootsGray.j0 k t1472 bt1474.2.2.2.2 true t1450 t1453 t1456 t1460 t1463 t1466 t1469 bt1474.1 bt1474.2.1 bt1474.2.2.1 bt1474.2.2.2.1) else (laws_FnRootsGray.j0 k t1472 bt1474.2.2.2.2 (!t1472) t1450 t1453 t1456 t1460 t1463 t1466 t1469 bt1474.1 bt1474.2.1 bt1474.2.2.1 bt1474.2.2.2.1)) else (laws_FnRootsGray.j0 k t1472 bt1474.2.2.2.2 true t1450 t1453 t1456 t1460 t1463 t1466 t1469 bt1474.1 bt1474.2.1 bt1474.2.2.1 bt1474.2.2.2.1)))) = some r := H
  have A4 := am A40
  clear A40
  replace H := Option.bind_eq_some_iff.mp H
  obtain ⟨⟨t1474, t1477, t1480, t1483, t1486⟩, A50, H⟩ := H
  replace H : ((impl_ColoredSame.f k t1460 t1463 t1466 t1469 t1474 t1477 t1480 t1483).bind fun t1488 => (if t1488 = true then (if (t1472 != t1486) = true then (laws_FnRootsGray.j0 k t1472 t1486 true t1450 t1453 t1456 t1460 t1463 t1466 t1469 t1474 t1477 t1480 t1483) else (laws_FnRootsGray.j0 k t1472 t1486 (!t1472) t1450 t1453 t1456 t1460 t1463 t1466 t1469 t1474 t1477 t1480 t1483)) else (laws_FnRootsGray.j0 k t1472 t1486 true t1450 t1453 t1456 t1460 t1463 t1466 t1469 t1474 t1477 t1480 t1483))) = some r := H
  have A5 := am A50
  clear A50
  have HC6 := am H
  clear H
  go_enter Try.func14, Try.ntmps14
  go_upto_region 6 with (first | ((with_reducible refine gate_callee (f := 43) rfl ?_); refine gL (some 18) rfl rfl Try.func43 (by kernel_rfl) rfl #[.slice A0 l0.length c0] rfl ?_; (with_reducible refine (spec_DrawNewColored.calls k _ _ l0 t1450 t1453 t1456 _ ?side1 ?side2 A3.out).mono ?_); (case side1 => exact cl (HR0.out)); (case side2 => exact HC0.out); rintro e w7 ⟨v1451, v1454, v1457, rfl, ho0, ho1, ho2, hb⟩; refine ⟨_, rfl, ?_⟩; have HO1452 := ln0 ho0 (bl HB.out); have HO1455 := ln0 ho1 (bl HB.out); have HO1458 := ln0 ho2 (bl HB.out); replace HB := am (below_step (bl HB.out) hb); (try clear hb ho0 ho1 ho2)) | ((with_reducible refine gate_dst (N := 3) rfl ?_); (try (refine gate_guard (by rfl) ?_; dsimp only)); refine box_event ?hg (N := 3) ?hd (cs := #[.slice none 0 0, .slice none 0 0, .slice none 0 0]) (t := 28) ?hr ?_; (case hd => rfl); (case hg => rfl); (case hr => first | (go_simp; done) | (go_simp; rfl)); intro gb1459 hg w8 hbox hb; replace HO1452 := rb HO1452 hb; replace HO1455 := rb HO1455 hb; replace HO1458 := rb HO1458 hb; have BK1459 := am (hbox); have GW1459 := am ((by rw [hg]; exact (below_size (bl HB.out)) : w.heap.size ≤ gb1459)); have GE1459 := am ((by rw [hg]; exact (below_size (bl HB.out)) : w.heap.size ≤ gb1459)); replace HB := am (below_step (bl HB.out) hb); clear hb hbox hg; obtain ⟨Ao9, co9, eo9⟩ := Kd.R_slice HO1452.out; subst eo9; obtain ⟨hcz10_0, hcz10_1, hcz10_2, hfz10_0, hfz10_1, hfz10_2⟩ := cf3 BK1459; obtain ⟨Ao11, co11, eo11⟩ := Kd.R_slice HO1455.out; subst eo11; obtain ⟨Ao12, co12, eo12⟩ := Kd.R_slice HO1458.out; subst eo12) | ((with_reducible refine gate_callee (f := 44) rfl ?_); refine gL (some 21) rfl rfl Try.func44 (by kernel_rfl) rfl #[.agg #[.slice Ao9 t1450.length co9, .slice Ao11 t1453.length co11, .slice Ao12 t1456.length co12]] rfl ?_; (with_reducible refine (impl_NewColored.calls k _ _ t1450 _ _ t1453 _ _ t1456 t1460 t1463 t1466 t1469 t1472 _ ?side1 ?side2 ?side3 ?side4 ?side5 ?side6 A4.out).mono ?_); (case side1 => exact sr (rg BK1459 HO1452)); (case side2 => exact sc HO1452); (case side3 => exact sr (rg BK1459 HO1455)); (case side4 => exact sc HO1455); (case side5 => exact sr (rg BK1459 HO1458)); (case side6 => exact sc HO1458); rintro e w13 ⟨v1461, v1464, v1467, v1470, rfl, ho0, ho1, ho2, ho3, hb⟩; refine ⟨_, rfl, ?_⟩; have HO1462 := ln3 ho0 (rg BK1459 HO1452) (rg BK1459 HO1455) (rg BK1459 HO1458) (bs1 GE1459.out HB.out); have HO1465 := ln3 ho1 (rg BK1459 HO1452) (rg BK1459 HO1455) (rg BK1459 HO1458) (bs1 GE1459.out HB.out); have HO1468 := ln3 ho2 (rg BK1459 HO1452) (rg BK1459 HO1455) (rg BK1459 HO1458) (bs1 GE1459.out HB.out); have HO1471 := ln3 ho3 (rg BK1459 HO1452) (rg BK1459 HO1455) (rg BK1459 HO1458) (bs1 GE1459.out HB.out); replace HO1452 := td4 (rg BK1459 HO1452) hb ho0 ho1 ho2 ho3; replace HO1455 := td4 (rg BK1459 HO1455) hb ho0 ho1 ho2 ho3; replace HO1458 := td4 (rg BK1459 HO1458) hb ho0 ho1 ho2 ho3; replace BK1459 := bp3 (kf0 BK1459.out) hb; replace HB := am (below_step (bs1 GE1459.out HB.out) hb); (try clear hb ho0 ho1 ho2 ho3)) | ((with_reducible refine gate_dst (N := 4) rfl ?_); (try (refine gate_guard (by rfl) ?_; dsimp only)); refine box_event ?hg (N := 4) ?hd (cs := #[.slice none 0 0, .slice none 0 0, .slice none 0 0, .slice none 0 0]) (t := 30) ?hr ?_; (case hd => rfl); (case hg => rfl); (case hr => first | (go_simp; done) | (go_simp; rfl)); intro gb1473 hg w14 hbox hb; replace HO1452 := rb HO1452 hb; replace HO1455 := rb HO1455 hb; replace HO1458 := rb HO1458 hb; replace HO1462 := rb HO1462 hb; replace HO1465 := rb HO1465 hb; replace HO1468 := rb HO1468 hb; replace HO1471 := rb HO1471 hb; have BK1473 := am (hbox); have GW1473 := am ((by rw [hg]; exact (below_size (bs1 GE1459.out HB.out)) : w.heap.size ≤ gb1473)); have GE1473 := am ((by rw [hg]; exact (below_size (bs1 GE1459.out HB.out)) : w.heap.size ≤ gb1473)); replace HB := am (below_step (bs1 GE1459.out HB.out) hb); have NB1459_1473 := nb BK1459 hg; have NB1473_1459 := nc BK1459 hg; replace BK1459 := bb BK1459 hb; clear hb hbox hg; obtain ⟨Ao15, co15, eo15⟩ := Kd.R_slice HO1462.out; subst eo15; have hnb16 := NB1473_1459.out; have hnc16 := NB1459_1473.out; obtain ⟨hcz17_0, hcz17_1, hcz17_2, hcz17_3, hfz17_0, hfz17_1, hfz17_2, hfz17_3⟩ := cf4 BK1473; obtain ⟨Ao18, co18, eo18⟩ := Kd.R_slice HO1465.out; subst eo18; obtain ⟨Ao19, co19, eo19⟩ := Kd.R_slice HO1468.out; subst eo19; obtain ⟨Ao20, co20, eo20⟩ := Kd.R_slice HO1471.out; subst eo20; obtain ⟨hcz21_0, hcz21_1, hcz21_2, hfz21_0, hfz21_1, hfz21_2⟩ := cf3 BK1459) | ((with_reducible refine gate_callee (f := 45) rfl ?_); refine gL (some 26) rfl rfl Try.func45 (by kernel_rfl) rfl #[.agg #[.slice Ao9 t1450.length co9, .slice Ao11 t1453.length co11, .slice Ao12 t1456.length co12]] rfl ?_; (with_reducible refine (spec_NewColored.calls k _ _ t1450 _ _ t1453 _ _ t1456 t1474 t1477 t1480 t1483 t1486 _ ?side1 ?side2 ?side3 ?side4 ?side5 ?side6 A5.out).mono ?_); (case side1 => exact sr (rg BK1473 HO1452)); (case side2 => exact sc HO1452); (case side3 => exact sr (rg BK1473 HO1455)); (case side4 => exact sc HO1455); (case side5 => exact sr (rg BK1473 HO1458)); (case side6 => exact sc HO1458); rintro e w22 ⟨v1475, v1478, v1481, v1484, rfl, ho0, ho1, ho2, ho3, hb⟩; refine ⟨_, rfl, ?_⟩; have HO1476 := ln7 ho0 (rg BK1473 HO1452) (rg BK1473 HO1455) (rg BK1473 HO1458) (rg BK1473 HO1462) (rg BK1473 HO1465) (rg BK1473 HO1468) (rg BK1473 HO1471) (bs2 GE1459.out GE1473.out HB.out); have HO1479 := ln7 ho1 (rg BK1473 HO1452) (rg BK1473 HO1455) (rg BK1473 HO1458) (rg BK1473 HO1462) (rg BK1473 HO1465) (rg BK1473 HO1468) (rg BK1473 HO1471) (bs2 GE1459.out GE1473.out HB.out); have HO1482 := ln7 ho2 (rg BK1473 HO1452) (rg BK1473 HO1455) (rg BK1473 HO1458) (rg BK1473 HO1462) (rg BK1473 HO1465) (rg BK1473 HO1468) (rg BK1473 HO1471) (bs2 GE1459.out GE1473.out HB.out); have HO1485 := ln7 ho3 (rg BK1473 HO1452) (rg BK1473 HO1455) (rg BK1473 HO1458) (rg BK1473 HO1462) (rg BK1473 HO1465) (rg BK1473 HO1468) (rg BK1473 HO1471) (bs2 GE1459.out GE1473.out HB.out); replace HO1452 := td4 (rg BK1473 HO1452) hb ho0 ho1 ho2 ho3; replace HO1455 := td4 (rg BK1473 HO1455) hb ho0 ho1 ho2 ho3; replace HO1458 := td4 (rg BK1473 HO1458) hb ho0 ho1 ho2 ho3; replace HO1462 := td4 (rg BK1473 HO1462) hb ho0 ho1 ho2 ho3; replace HO1465 := td4 (rg BK1473 HO1465) hb ho0 ho1 ho2 ho3; replace HO1468 := td4 (rg BK1473 HO1468) hb ho0 ho1 ho2 ho3; replace HO1471 := td4 (rg BK1473 HO1471) hb ho0 ho1 ho2 ho3; replace BK1459 := am (blk_below (g := gb1459) (o := .cells #[.slice Ao9 t1450.length co9, .slice Ao11 t1453.length co11, .slice Ao12 t1456.length co12] 28 (0, 0)) (kf1 NB1459_1473.out BK1459.out) hb); replace BK1473 := bp4 (kf0 BK1473.out) hb; replace HB := am (below_step (bs2 GE1459.out GE1473.out HB.out) hb); (try clear hb ho0 ho1 ho2 ho3)) | ((with_reducible refine gate_dst (N := 6) rfl ?_); (try (refine gate_guard (by rfl) ?_; dsimp only)); refine box_event ?hg (N := 6) ?hd (cs := #[.slice none 0 0, .slice none 0 0, .slice none 0 0, .slice none 0 0]) (t := 30) ?hr ?_; (case hd => rfl); (case hg => rfl); (case hr => first | (go_simp; done) | (go_simp; rfl)); intro gb1487 hg w23 hbox hb; replace HO1452 := rb HO1452 hb; replace HO1455 := rb HO1455 hb; replace HO1458 := rb HO1458 hb; replace HO1462 := rb HO1462 hb; replace HO1465 := rb HO1465 hb; replace HO1468 := rb HO1468 hb; replace HO1471 := rb HO1471 hb; replace HO1476 := rb HO1476 hb; replace HO1479 := rb HO1479 hb; replace HO1482 := rb HO1482 hb; replace HO1485 := rb HO1485 hb; have BK1487 := am (hbox); have GW1487 := am ((by rw [hg]; exact (below_size (bs2 GE1459.out GE1473.out HB.out)) : w.heap.size ≤ gb1487)); have GE1487 := am ((by rw [hg]; exact (below_size (bs2 GE1459.out GE1473.out HB.out)) : w.heap.size ≤ gb1487)); replace HB := am (below_step (bs2 GE1459.out GE1473.out HB.out) hb); have NB1459_1487 := nb BK1459 hg; have NB1487_1459 := nc BK1459 hg; replace BK1459 := bb BK1459 hb; have NB1473_1487 := nb BK1473 hg; have NB1487_1473 := nc BK1473 hg; replace BK1473 := bb BK1473 hb; clear hb hbox hg; obtain ⟨Ao24, co24, eo24⟩ := Kd.R_slice HO1476.out; subst eo24; have hnb25 := NB1487_1459.out; have hnc25 := NB1459_1487.out; have hnb26 := NB1487_1473.out; have hnc26 := NB1473_1487.out; obtain ⟨hcz27_0, hcz27_1, hcz27_2, hcz27_3, hfz27_0, hfz27_1, hfz27_2, hfz27_3⟩ := cf4 BK1487; obtain ⟨Ao28, co28, eo28⟩ := Kd.R_slice HO1479.out; subst eo28; obtain ⟨Ao29, co29, eo29⟩ := Kd.R_slice HO1482.out; subst eo29; obtain ⟨Ao30, co30, eo30⟩ := Kd.R_slice HO1485.out; subst eo30))
  (try simp only [Act.put, List.setIfInBounds_toArray, List.set_cons_zero, List.set_cons_succ])
  go_cut [41] (fun v41 wc => ∃ (kq : Nat) (x41_5 : Bool), v41 = .bool x41_5 ∧ Aside0 (laws_FnRootsGray.j0 kq t1472 t1486 x41_5 t1450 t1453 t1456 t1460 t1463 t1466 t1469 t1474 t1477 t1480 t1483 = some r) ∧ Aside0 (kq ≤ k) ∧ Aside0 (Kd.R (Kd.int .i64) 3 wc w.heap.size (fun k_ => some k_ ≠ ((.slice Ao11 t1453.length co11) : Value).ownBlock ∧ some k_ ≠ ((.slice Ao12 t1456.length co12) : Value).ownBlock ∧ some k_ ≠ ((.slice Ao15 t1460.length co15) : Value).ownBlock ∧ some k_ ≠ ((.slice Ao18 t1463.length co18) : Value).ownBlock ∧ some k_ ≠ ((.slice Ao19 t1466.length co19) : Value).ownBlock ∧ some k_ ≠ ((.slice Ao20 t1469.length co20) : Value).ownBlock ∧ some k_ ≠ ((.slice Ao24 t1474.length co24) : Value).ownBlock ∧ some k_ ≠ ((.slice Ao28 t1477.length co28) : Value).ownBlock ∧ some k_ ≠ ((.slice Ao29 t1480.length co29) : Value).ownBlock ∧ some k_ ≠ ((.slice Ao30 t1483.length co30) : Value).ownBlock) (.slice Ao9 t1450.length co9) t1450) ∧ Aside0 (Kd.R (Kd.int .i64) 3 wc w.heap.size (fun k_ => some k_ ≠ ((.slice Ao9 t1450.length co9) : Value).ownBlock ∧ some k_ ≠ ((.slice Ao12 t1456.length co12) : Value).ownBlock ∧ some k_ ≠ ((.slice Ao15 t1460.length co15) : Value).ownBlock ∧ some k_ ≠ ((.slice Ao18 t1463.length co18) : Value).ownBlock ∧ some k_ ≠ ((.slice Ao19 t1466.length co19) : Value).ownBlock ∧ some k_ ≠ ((.slice Ao20 t1469.length co20) : Value).ownBlock ∧ some k_ ≠ ((.slice Ao24 t1474.length co24) : Value).ownBlock ∧ some k_ ≠ ((.slice Ao28 t1477.length co28) : Value).ownBlock ∧ some k_ ≠ ((.slice Ao29 t1480.length co29) : Value).ownBlock ∧ some k_ ≠ ((.slice Ao30 t1483.length co30) : Value).ownBlock) (.slice Ao11 t1453.length co11) t1453) ∧ Aside0 (Kd.R (Kd.int .i64) 3 wc w.heap.size (fun k_ => some k_ ≠ ((.slice Ao9 t1450.length co9) : Value).ownBlock ∧ some k_ ≠ ((.slice Ao11 t1453.length co11) : Value).ownBlock ∧ some k_ ≠ ((.slice Ao15 t1460.length co15) : Value).ownBlock ∧ some k_ ≠ ((.slice Ao18 t1463.length co18) : Value).ownBlock ∧ some k_ ≠ ((.slice Ao19 t1466.length co19) : Value).ownBlock ∧ some k_ ≠ ((.slice Ao20 t1469.length co20) : Value).ownBlock ∧ some k_ ≠ ((.slice Ao24 t1474.length co24) : Value).ownBlock ∧ some k_ ≠ ((.slice Ao28 t1477.length co28) : Value).ownBlock ∧ some k_ ≠ ((.slice Ao29 t1480.length co29) : Value).ownBlock ∧ some k_ ≠ ((.slice Ao30 t1483.length co30) : Value).ownBlock) (.slice Ao12 t1456.length co12) t1456) ∧ Aside0 (Kd.R (Kd.int .i64) 3 wc w.heap.size (fun k_ => some k_ ≠ ((.slice Ao9 t1450.length co9) : Value).ownBlock ∧ some k_ ≠ ((.slice Ao11 t1453.length co11) : Value).ownBlock ∧ some k_ ≠ ((.slice Ao12 t1456.length co12) : Value).ownBlock ∧ some k_ ≠ ((.slice Ao18 t1463.length co18) : Value).ownBlock ∧ some k_ ≠ ((.slice Ao19 t1466.length co19) : Value).ownBlock ∧ some k_ ≠ ((.slice Ao20 t1469.length co20) : Value).ownBlock ∧ some k_ ≠ ((.slice Ao24 t1474.length co24) : Value).ownBlock ∧ some k_ ≠ ((.slice Ao28 t1477.length co28) : Value).ownBlock ∧ some k_ ≠ ((.slice Ao29 t1480.length co29) : Value).ownBlock ∧ some k_ ≠ ((.slice Ao30 t1483.length co30) : Value).ownBlock) (.slice Ao15 t1460.length co15) t1460) ∧ Aside0 (Kd.R (Kd.int .i64) 3 wc w.heap.size (fun k_ => some k_ ≠ ((.slice Ao9 t1450.length co9) : Value).ownBlock ∧ some k_ ≠ ((.slice Ao11 t1453.length co11) : Value).ownBlock ∧ some k_ ≠ ((.slice Ao12 t1456.length co12) : Value).ownBlock ∧ some k_ ≠ ((.slice Ao15 t1460.length co15) : Value).ownBlock ∧ some k_ ≠ ((.slice Ao19 t1466.length co19) : Value).ownBlock ∧ some k_ ≠ ((.slice Ao20 t1469.length co20) : Value).ownBlock ∧ some k_ ≠ ((.slice Ao24 t1474.length co24) : Value).ownBlock ∧ some k_ ≠ ((.slice Ao28 t1477.length co28) : Value).ownBlock ∧ some k_ ≠ ((.slice Ao29 t1480.length co29) : Value).ownBlock ∧ some k_ ≠ ((.slice Ao30 t1483.length co30) : Value).ownBlock) (.slice Ao18 t1463.length co18) t1463) ∧ Aside0 (Kd.R (Kd.int .i64) 3 wc w.heap.size (fun k_ => some k_ ≠ ((.slice Ao9 t1450.length co9) : Value).ownBlock ∧ some k_ ≠ ((.slice Ao11 t1453.length co11) : Value).ownBlock ∧ some k_ ≠ ((.slice Ao12 t1456.length co12) : Value).ownBlock ∧ some k_ ≠ ((.slice Ao15 t1460.length co15) : Value).ownBlock ∧ some k_ ≠ ((.slice Ao18 t1463.length co18) : Value).ownBlock ∧ some k_ ≠ ((.slice Ao20 t1469.length co20) : Value).ownBlock ∧ some k_ ≠ ((.slice Ao24 t1474.length co24) : Value).ownBlock ∧ some k_ ≠ ((.slice Ao28 t1477.length co28) : Value).ownBlock ∧ some k_ ≠ ((.slice Ao29 t1480.length co29) : Value).ownBlock ∧ some k_ ≠ ((.slice Ao30 t1483.length co30) : Value).ownBlock) (.slice Ao19 t1466.length co19) t1466) ∧ Aside0 (Kd.R (Kd.int .i64) 3 wc w.heap.size (fun k_ => some k_ ≠ ((.slice Ao9 t1450.length co9) : Value).ownBlock ∧ some k_ ≠ ((.slice Ao11 t1453.length co11) : Value).ownBlock ∧ some k_ ≠ ((.slice Ao12 t1456.length co12) : Value).ownBlock ∧ some k_ ≠ ((.slice Ao15 t1460.length co15) : Value).ownBlock ∧ some k_ ≠ ((.slice Ao18 t1463.length co18) : Value).ownBlock ∧ some k_ ≠ ((.slice Ao19 t1466.length co19) : Value).ownBlock ∧ some k_ ≠ ((.slice Ao24 t1474.length co24) : Value).ownBlock ∧ some k_ ≠ ((.slice Ao28 t1477.length co28) : Value).ownBlock ∧ some k_ ≠ ((.slice Ao29 t1480.length co29) : Value).ownBlock ∧ some k_ ≠ ((.slice Ao30 t1483.length co30) : Value).ownBlock) (.slice Ao20 t1469.length co20) t1469) ∧ Aside0 (Kd.R (Kd.int .i64) 3 wc w.heap.size (fun k_ => some k_ ≠ ((.slice Ao9 t1450.length co9) : Value).ownBlock ∧ some k_ ≠ ((.slice Ao11 t1453.length co11) : Value).ownBlock ∧ some k_ ≠ ((.slice Ao12 t1456.length co12) : Value).ownBlock ∧ some k_ ≠ ((.slice Ao15 t1460.length co15) : Value).ownBlock ∧ some k_ ≠ ((.slice Ao18 t1463.length co18) : Value).ownBlock ∧ some k_ ≠ ((.slice Ao19 t1466.length co19) : Value).ownBlock ∧ some k_ ≠ ((.slice Ao20 t1469.length co20) : Value).ownBlock ∧ some k_ ≠ ((.slice Ao28 t1477.length co28) : Value).ownBlock ∧ some k_ ≠ ((.slice Ao29 t1480.length co29) : Value).ownBlock ∧ some k_ ≠ ((.slice Ao30 t1483.length co30) : Value).ownBlock) (.slice Ao24 t1474.length co24) t1474) ∧ Aside0 (Kd.R (Kd.int .i64) 3 wc w.heap.size (fun k_ => some k_ ≠ ((.slice Ao9 t1450.length co9) : Value).ownBlock ∧ some k_ ≠ ((.slice Ao11 t1453.length co11) : Value).ownBlock ∧ some k_ ≠ ((.slice Ao12 t1456.length co12) : Value).ownBlock ∧ some k_ ≠ ((.slice Ao15 t1460.length co15) : Value).ownBlock ∧ some k_ ≠ ((.slice Ao18 t1463.length co18) : Value).ownBlock ∧ some k_ ≠ ((.slice Ao19 t1466.length co19) : Value).ownBlock ∧ some k_ ≠ ((.slice Ao20 t1469.length co20) : Value).ownBlock ∧ some k_ ≠ ((.slice Ao24 t1474.length co24) : Value).ownBlock ∧ some k_ ≠ ((.slice Ao29 t1480.length co29) : Value).ownBlock ∧ some k_ ≠ ((.slice Ao30 t1483.length co30) : Value).ownBlock) (.slice Ao28 t1477.length co28) t1477) ∧ Aside0 (Kd.R (Kd.int .i64) 3 wc w.heap.size (fun k_ => some k_ ≠ ((.slice Ao9 t1450.length co9) : Value).ownBlock ∧ some k_ ≠ ((.slice Ao11 t1453.length co11) : Value).ownBlock ∧ some k_ ≠ ((.slice Ao12 t1456.length co12) : Value).ownBlock ∧ some k_ ≠ ((.slice Ao15 t1460.length co15) : Value).ownBlock ∧ some k_ ≠ ((.slice Ao18 t1463.length co18) : Value).ownBlock ∧ some k_ ≠ ((.slice Ao19 t1466.length co19) : Value).ownBlock ∧ some k_ ≠ ((.slice Ao20 t1469.length co20) : Value).ownBlock ∧ some k_ ≠ ((.slice Ao24 t1474.length co24) : Value).ownBlock ∧ some k_ ≠ ((.slice Ao28 t1477.length co28) : Value).ownBlock ∧ some k_ ≠ ((.slice Ao30 t1483.length co30) : Value).ownBlock) (.slice Ao29 t1480.length co29) t1480) ∧ Aside0 (Kd.R (Kd.int .i64) 3 wc w.heap.size (fun k_ => some k_ ≠ ((.slice Ao9 t1450.length co9) : Value).ownBlock ∧ some k_ ≠ ((.slice Ao11 t1453.length co11) : Value).ownBlock ∧ some k_ ≠ ((.slice Ao12 t1456.length co12) : Value).ownBlock ∧ some k_ ≠ ((.slice Ao15 t1460.length co15) : Value).ownBlock ∧ some k_ ≠ ((.slice Ao18 t1463.length co18) : Value).ownBlock ∧ some k_ ≠ ((.slice Ao19 t1466.length co19) : Value).ownBlock ∧ some k_ ≠ ((.slice Ao20 t1469.length co20) : Value).ownBlock ∧ some k_ ≠ ((.slice Ao24 t1474.length co24) : Value).ownBlock ∧ some k_ ≠ ((.slice Ao28 t1477.length co28) : Value).ownBlock ∧ some k_ ≠ ((.slice Ao29 t1480.length co29) : Value).ownBlock) (.slice Ao30 t1483.length co30) t1483) ∧ Aside0 (wc.heap[gb1459]? = some (.cells #[(.slice Ao9 t1450.length co9), (.slice Ao11 t1453.length co11), (.slice Ao12 t1456.length co12)] 28 (0, 0))) ∧ Aside0 (wc.heap[gb1473]? = some (.cells #[(.slice Ao15 t1460.length co15), (.slice Ao18 t1463.length co18), (.slice Ao19 t1466.length co19), (.slice Ao20 t1469.length co20)] 30 (0, 0))) ∧ Aside0 (wc.heap[gb1487]? = some (.cells #[(.slice Ao24 t1474.length co24), (.slice Ao28 t1477.length co28), (.slice Ao29 t1480.length co29), (.slice Ao30 t1483.length co30)] 30 (0, 0))) ∧ Aside0 (Below w.heap.size w wc))
  case first =>
   have H := HC6.out
   clear HC6
   replace H := Option.bind_eq_some_iff.mp H
   obtain ⟨t1488, A310, H⟩ := H
   replace H : (if t1488 = true then (if (t1472 != t1486) = true then (laws_FnRootsGray.j0 k t1472 t1486 true t1450 t1453 t1456 t1460 t1463 t1466 t1469 t1474 t1477 t1480 t1483) else (laws_FnRootsGray.j0 k t1472 t1486 (!t1472) t1450 t1453 t1456 t1460 t1463 t1466 t1469 t1474 t1477 t1480 t1483)) else (laws_FnRootsGray.j0 k t1472 t1486 true t1450 t1453 t1456 t1460 t1463 t1466 t1469 t1474 t1477 t1480 t1483)) = some r := H
   have A31 := am A310
   clear A310
   by_cases c32 : t1488 = true
   ·subst c32
    have H1 : (if (t1472 != t1486) = true then (laws_FnRootsGray.j0 k t1472 t1486 true t1450 t1453 t1456 t1460 t1463 t1466 t1469 t1474 t1477 t1480 t1483) else (laws_FnRootsGray.j0 k t1472 t1486 (!t1472) t1450 t1453 t1456 t1460 t1463 t1466 t1469 t1474 t1477 t1480 t1483)) = some r := by rw [if_pos rfl] at H; exact H
    clear H
    have H := H1
    clear H1
    by_cases c33 : (t1472 != t1486) = true
    ·rw [if_pos c33] at H
     have c33b0 : (t1472 != t1486) = true := c33
     (try (have c33b1 : decide (t1472 = t1486) = false := by simpa using c33))
     (try (have c33b2 : (t1472 == t1486) = false := by simpa using c33))
     (try (have c33b3 : ¬ (t1472 = t1486) := by simpa using c33))
     clear c33
     (first | rw [c33b0] | (simp only [i64_w, i32_w]; rw [c33b0]) | skip)
     have H' := am H
     clear H
     have hnb34 := NB1473_1459.out
     have hnc34 := NB1459_1473.out
     have hnb35 := NB1473_1487.out
     have hnc35 := NB1487_1473.out
     obtain ⟨hcz36_0, hcz36_1, hcz36_2, hcz36_3, hfz36_0, hfz36_1, hfz36_2, hfz36_3⟩ := cf4 BK1473
     have hnb37 := NB1487_1459.out
     have hnc37 := NB1459_1487.out
     obtain ⟨hcz38_0, hcz38_1, hcz38_2, hcz38_3, hfz38_0, hfz38_1, hfz38_2, hfz38_3⟩ := cf4 BK1487
     go_wp2_with (first | ((with_reducible refine gate_callee (f := 34) rfl ?_); refine gL (some 31) rfl rfl Try.func34 (by kernel_rfl) rfl #[.agg #[.slice Ao15 t1460.length co15, .slice Ao18 t1463.length co18, .slice Ao19 t1466.length co19, .slice Ao20 t1469.length co20], .agg #[.slice Ao24 t1474.length co24, .slice Ao28 t1477.length co28, .slice Ao29 t1480.length co29, .slice Ao30 t1483.length co30]] rfl ?_; (with_reducible refine (impl_ColoredSame.calls k _ _ t1460 _ _ t1463 _ _ t1466 _ _ t1469 _ _ t1474 _ _ t1477 _ _ t1480 _ _ t1483 true _ ?side1 ?side2 ?side3 ?side4 ?side5 ?side6 ?side7 ?side8 ?side9 ?side10 ?side11 ?side12 ?side13 ?side14 ?side15 ?side16 A31.out).mono ?_); (case side1 => exact sr (rg BK1487 HO1462)); (case side2 => exact sc HO1462); (case side3 => exact sr (rg BK1487 HO1465)); (case side4 => exact sc HO1465); (case side5 => exact sr (rg BK1487 HO1468)); (case side6 => exact sc HO1468); (case side7 => exact sr (rg BK1487 HO1471)); (case side8 => exact sc HO1471); (case side9 => exact sr (rg BK1487 HO1476)); (case side10 => exact sc HO1476); (case side11 => exact sr (rg BK1487 HO1479)); (case side12 => exact sc HO1479); (case side13 => exact sr (rg BK1487 HO1482)); (case side14 => exact sc HO1482); (case side15 => exact sr (rg BK1487 HO1485)); (case side16 => exact sc HO1485); rintro e w39 ⟨rfl, hb⟩; refine ⟨_, rfl, ?_⟩; replace HO1452 := am (Kd.R_below (rg BK1487 HO1452) hb); replace HO1455 := am (Kd.R_below (rg BK1487 HO1455) hb); replace HO1458 := am (Kd.R_below (rg BK1487 HO1458) hb); replace HO1462 := am (Kd.R_below (rg BK1487 HO1462) hb); replace HO1465 := am (Kd.R_below (rg BK1487 HO1465) hb); replace HO1468 := am (Kd.R_below (rg BK1487 HO1468) hb); replace HO1471 := am (Kd.R_below (rg BK1487 HO1471) hb); replace HO1476 := am (Kd.R_below (rg BK1487 HO1476) hb); replace HO1479 := am (Kd.R_below (rg BK1487 HO1479) hb); replace HO1482 := am (Kd.R_below (rg BK1487 HO1482) hb); replace HO1485 := am (Kd.R_below (rg BK1487 HO1485) hb); replace BK1459 := am (blk_below (g := gb1459) (o := .cells #[.slice Ao9 t1450.length co9, .slice Ao11 t1453.length co11, .slice Ao12 t1456.length co12] 28 (0, 0)) (kf1 NB1459_1487.out BK1459.out) hb); replace BK1473 := am (blk_below (g := gb1473) (o := .cells #[.slice Ao15 t1460.length co15, .slice Ao18 t1463.length co18, .slice Ao19 t1466.length co19, .slice Ao20 t1469.length co20] 30 (0, 0)) (kf1 NB1473_1487.out BK1473.out) hb); replace BK1487 := bp4 (kf0 BK1487.out) hb; replace HB := am (below_step (bs3 GE1459.out GE1473.out GE1487.out HB.out) hb); (try clear hb)))
     go_meet
     case rel => exact ⟨_, (true), (by first | rfl | (simp; done) | (simp [*]; done)), H', ⟨by first | omega | exact Nat.le_refl _⟩, ⟨rl (Kd.R_mono HO1452.out (fun _ hk => by simp only [ne_eq] at hk ⊢; simp only [hk, not_false_eq_true, and_self]))⟩, ⟨rl (Kd.R_mono HO1455.out (fun _ hk => by simp only [ne_eq] at hk ⊢; simp only [hk, not_false_eq_true, and_self]))⟩, ⟨rl (Kd.R_mono HO1458.out (fun _ hk => by simp only [ne_eq] at hk ⊢; simp only [hk, not_false_eq_true, and_self]))⟩, ⟨rl (Kd.R_mono HO1462.out (fun _ hk => by simp only [ne_eq] at hk ⊢; simp only [hk, not_false_eq_true, and_self]))⟩, ⟨rl (Kd.R_mono HO1465.out (fun _ hk => by simp only [ne_eq] at hk ⊢; simp only [hk, not_false_eq_true, and_self]))⟩, ⟨rl (Kd.R_mono HO1468.out (fun _ hk => by simp only [ne_eq] at hk ⊢; simp only [hk, not_false_eq_true, and_self]))⟩, ⟨rl (Kd.R_mono HO1471.out (fun _ hk => by simp only [ne_eq] at hk ⊢; simp only [hk, not_false_eq_true, and_self]))⟩, ⟨rl (Kd.R_mono HO1476.out (fun _ hk => by simp only [ne_eq] at hk ⊢; simp only [hk, not_false_eq_true, and_self]))⟩, ⟨rl (Kd.R_mono HO1479.out (fun _ hk => by simp only [ne_eq] at hk ⊢; simp only [hk, not_false_eq_true, and_self]))⟩, ⟨rl (Kd.R_mono HO1482.out (fun _ hk => by simp only [ne_eq] at hk ⊢; simp only [hk, not_false_eq_true, and_self]))⟩, ⟨rl (Kd.R_mono HO1485.out (fun _ hk => by simp only [ne_eq] at hk ⊢; simp only [hk, not_false_eq_true, and_self]))⟩, ⟨kl BK1459.out⟩, ⟨kl BK1473.out⟩, ⟨kl BK1487.out⟩, ⟨by exact bs3 GE1459.out GE1473.out GE1487.out HB.out⟩⟩
    ·rw [if_neg c33] at H
     have c33b0 : (t1472 != t1486) = false := by simpa using c33
     (try (have c33b1 : decide (t1472 = t1486) = true := by simpa using c33))
     (try (have c33b2 : (t1472 == t1486) = true := by simpa using c33))
     clear c33
     (first | rw [c33b0] | (simp only [i64_w, i32_w]; rw [c33b0]) | skip)
     have H' := am H
     clear H
     have hnb40 := NB1473_1459.out
     have hnc40 := NB1459_1473.out
     have hnb41 := NB1473_1487.out
     have hnc41 := NB1487_1473.out
     obtain ⟨hcz42_0, hcz42_1, hcz42_2, hcz42_3, hfz42_0, hfz42_1, hfz42_2, hfz42_3⟩ := cf4 BK1473
     have hnb43 := NB1487_1459.out
     have hnc43 := NB1459_1487.out
     obtain ⟨hcz44_0, hcz44_1, hcz44_2, hcz44_3, hfz44_0, hfz44_1, hfz44_2, hfz44_3⟩ := cf4 BK1487
     go_wp2_with (first | ((with_reducible refine gate_callee (f := 34) rfl ?_); refine gL (some 31) rfl rfl Try.func34 (by kernel_rfl) rfl #[.agg #[.slice Ao15 t1460.length co15, .slice Ao18 t1463.length co18, .slice Ao19 t1466.length co19, .slice Ao20 t1469.length co20], .agg #[.slice Ao24 t1474.length co24, .slice Ao28 t1477.length co28, .slice Ao29 t1480.length co29, .slice Ao30 t1483.length co30]] rfl ?_; (with_reducible refine (impl_ColoredSame.calls k _ _ t1460 _ _ t1463 _ _ t1466 _ _ t1469 _ _ t1474 _ _ t1477 _ _ t1480 _ _ t1483 true _ ?side1 ?side2 ?side3 ?side4 ?side5 ?side6 ?side7 ?side8 ?side9 ?side10 ?side11 ?side12 ?side13 ?side14 ?side15 ?side16 A31.out).mono ?_); (case side1 => exact sr (rg BK1487 HO1462)); (case side2 => exact sc HO1462); (case side3 => exact sr (rg BK1487 HO1465)); (case side4 => exact sc HO1465); (case side5 => exact sr (rg BK1487 HO1468)); (case side6 => exact sc HO1468); (case side7 => exact sr (rg BK1487 HO1471)); (case side8 => exact sc HO1471); (case side9 => exact sr (rg BK1487 HO1476)); (case side10 => exact sc HO1476); (case side11 => exact sr (rg BK1487 HO1479)); (case side12 => exact sc HO1479); (case side13 => exact sr (rg BK1487 HO1482)); (case side14 => exact sc HO1482); (case side15 => exact sr (rg BK1487 HO1485)); (case side16 => exact sc HO1485); rintro e w45 ⟨rfl, hb⟩; refine ⟨_, rfl, ?_⟩; replace HO1452 := am (Kd.R_below (rg BK1487 HO1452) hb); replace HO1455 := am (Kd.R_below (rg BK1487 HO1455) hb); replace HO1458 := am (Kd.R_below (rg BK1487 HO1458) hb); replace HO1462 := am (Kd.R_below (rg BK1487 HO1462) hb); replace HO1465 := am (Kd.R_below (rg BK1487 HO1465) hb); replace HO1468 := am (Kd.R_below (rg BK1487 HO1468) hb); replace HO1471 := am (Kd.R_below (rg BK1487 HO1471) hb); replace HO1476 := am (Kd.R_below (rg BK1487 HO1476) hb); replace HO1479 := am (Kd.R_below (rg BK1487 HO1479) hb); replace HO1482 := am (Kd.R_below (rg BK1487 HO1482) hb); replace HO1485 := am (Kd.R_below (rg BK1487 HO1485) hb); replace BK1459 := am (blk_below (g := gb1459) (o := .cells #[.slice Ao9 t1450.length co9, .slice Ao11 t1453.length co11, .slice Ao12 t1456.length co12] 28 (0, 0)) (kf1 NB1459_1487.out BK1459.out) hb); replace BK1473 := am (blk_below (g := gb1473) (o := .cells #[.slice Ao15 t1460.length co15, .slice Ao18 t1463.length co18, .slice Ao19 t1466.length co19, .slice Ao20 t1469.length co20] 30 (0, 0)) (kf1 NB1473_1487.out BK1473.out) hb); replace BK1487 := bp4 (kf0 BK1487.out) hb; replace HB := am (below_step (bs3 GE1459.out GE1473.out GE1487.out HB.out) hb); (try clear hb)))
     go_meet
     case rel => exact ⟨_, (!t1472), (by first | rfl | (simp; done) | (simp [*]; done)), H', ⟨by first | omega | exact Nat.le_refl _⟩, ⟨rl (Kd.R_mono HO1452.out (fun _ hk => by simp only [ne_eq] at hk ⊢; simp only [hk, not_false_eq_true, and_self]))⟩, ⟨rl (Kd.R_mono HO1455.out (fun _ hk => by simp only [ne_eq] at hk ⊢; simp only [hk, not_false_eq_true, and_self]))⟩, ⟨rl (Kd.R_mono HO1458.out (fun _ hk => by simp only [ne_eq] at hk ⊢; simp only [hk, not_false_eq_true, and_self]))⟩, ⟨rl (Kd.R_mono HO1462.out (fun _ hk => by simp only [ne_eq] at hk ⊢; simp only [hk, not_false_eq_true, and_self]))⟩, ⟨rl (Kd.R_mono HO1465.out (fun _ hk => by simp only [ne_eq] at hk ⊢; simp only [hk, not_false_eq_true, and_self]))⟩, ⟨rl (Kd.R_mono HO1468.out (fun _ hk => by simp only [ne_eq] at hk ⊢; simp only [hk, not_false_eq_true, and_self]))⟩, ⟨rl (Kd.R_mono HO1471.out (fun _ hk => by simp only [ne_eq] at hk ⊢; simp only [hk, not_false_eq_true, and_self]))⟩, ⟨rl (Kd.R_mono HO1476.out (fun _ hk => by simp only [ne_eq] at hk ⊢; simp only [hk, not_false_eq_true, and_self]))⟩, ⟨rl (Kd.R_mono HO1479.out (fun _ hk => by simp only [ne_eq] at hk ⊢; simp only [hk, not_false_eq_true, and_self]))⟩, ⟨rl (Kd.R_mono HO1482.out (fun _ hk => by simp only [ne_eq] at hk ⊢; simp only [hk, not_false_eq_true, and_self]))⟩, ⟨rl (Kd.R_mono HO1485.out (fun _ hk => by simp only [ne_eq] at hk ⊢; simp only [hk, not_false_eq_true, and_self]))⟩, ⟨kl BK1459.out⟩, ⟨kl BK1473.out⟩, ⟨kl BK1487.out⟩, ⟨by exact bs3 GE1459.out GE1473.out GE1487.out HB.out⟩⟩
   ·replace c32 := Bool.eq_false_iff.mpr c32
    subst c32
    have H1 : (laws_FnRootsGray.j0 k t1472 t1486 true t1450 t1453 t1456 t1460 t1463 t1466 t1469 t1474 t1477 t1480 t1483) = some r := by rw [if_neg (show ¬ (false = true) by decide)] at H; exact H
    clear H
    have H := H1
    clear H1
    have H' := am H
    clear H
    have hnb46 := NB1473_1459.out
    have hnc46 := NB1459_1473.out
    have hnb47 := NB1473_1487.out
    have hnc47 := NB1487_1473.out
    obtain ⟨hcz48_0, hcz48_1, hcz48_2, hcz48_3, hfz48_0, hfz48_1, hfz48_2, hfz48_3⟩ := cf4 BK1473
    have hnb49 := NB1487_1459.out
    have hnc49 := NB1459_1487.out
    obtain ⟨hcz50_0, hcz50_1, hcz50_2, hcz50_3, hfz50_0, hfz50_1, hfz50_2, hfz50_3⟩ := cf4 BK1487
    go_wp2_with (first | ((with_reducible refine gate_callee (f := 34) rfl ?_); refine gL (some 31) rfl rfl Try.func34 (by kernel_rfl) rfl #[.agg #[.slice Ao15 t1460.length co15, .slice Ao18 t1463.length co18, .slice Ao19 t1466.length co19, .slice Ao20 t1469.length co20], .agg #[.slice Ao24 t1474.length co24, .slice Ao28 t1477.length co28, .slice Ao29 t1480.length co29, .slice Ao30 t1483.length co30]] rfl ?_; (with_reducible refine (impl_ColoredSame.calls k _ _ t1460 _ _ t1463 _ _ t1466 _ _ t1469 _ _ t1474 _ _ t1477 _ _ t1480 _ _ t1483 false _ ?side1 ?side2 ?side3 ?side4 ?side5 ?side6 ?side7 ?side8 ?side9 ?side10 ?side11 ?side12 ?side13 ?side14 ?side15 ?side16 A31.out).mono ?_); (case side1 => exact sr (rg BK1487 HO1462)); (case side2 => exact sc HO1462); (case side3 => exact sr (rg BK1487 HO1465)); (case side4 => exact sc HO1465); (case side5 => exact sr (rg BK1487 HO1468)); (case side6 => exact sc HO1468); (case side7 => exact sr (rg BK1487 HO1471)); (case side8 => exact sc HO1471); (case side9 => exact sr (rg BK1487 HO1476)); (case side10 => exact sc HO1476); (case side11 => exact sr (rg BK1487 HO1479)); (case side12 => exact sc HO1479); (case side13 => exact sr (rg BK1487 HO1482)); (case side14 => exact sc HO1482); (case side15 => exact sr (rg BK1487 HO1485)); (case side16 => exact sc HO1485); rintro e w51 ⟨rfl, hb⟩; refine ⟨_, rfl, ?_⟩; replace HO1452 := am (Kd.R_below (rg BK1487 HO1452) hb); replace HO1455 := am (Kd.R_below (rg BK1487 HO1455) hb); replace HO1458 := am (Kd.R_below (rg BK1487 HO1458) hb); replace HO1462 := am (Kd.R_below (rg BK1487 HO1462) hb); replace HO1465 := am (Kd.R_below (rg BK1487 HO1465) hb); replace HO1468 := am (Kd.R_below (rg BK1487 HO1468) hb); replace HO1471 := am (Kd.R_below (rg BK1487 HO1471) hb); replace HO1476 := am (Kd.R_below (rg BK1487 HO1476) hb); replace HO1479 := am (Kd.R_below (rg BK1487 HO1479) hb); replace HO1482 := am (Kd.R_below (rg BK1487 HO1482) hb); replace HO1485 := am (Kd.R_below (rg BK1487 HO1485) hb); replace BK1459 := am (blk_below (g := gb1459) (o := .cells #[.slice Ao9 t1450.length co9, .slice Ao11 t1453.length co11, .slice Ao12 t1456.length co12] 28 (0, 0)) (kf1 NB1459_1487.out BK1459.out) hb); replace BK1473 := am (blk_below (g := gb1473) (o := .cells #[.slice Ao15 t1460.length co15, .slice Ao18 t1463.length co18, .slice Ao19 t1466.length co19, .slice Ao20 t1469.length co20] 30 (0, 0)) (kf1 NB1473_1487.out BK1473.out) hb); replace BK1487 := bp4 (kf0 BK1487.out) hb; replace HB := am (below_step (bs3 GE1459.out GE1473.out GE1487.out HB.out) hb); (try clear hb)))
    go_meet
    case rel => exact ⟨_, (true), (by first | rfl | (simp; done) | (simp [*]; done)), H', ⟨by first | omega | exact Nat.le_refl _⟩, ⟨rl (Kd.R_mono HO1452.out (fun _ hk => by simp only [ne_eq] at hk ⊢; simp only [hk, not_false_eq_true, and_self]))⟩, ⟨rl (Kd.R_mono HO1455.out (fun _ hk => by simp only [ne_eq] at hk ⊢; simp only [hk, not_false_eq_true, and_self]))⟩, ⟨rl (Kd.R_mono HO1458.out (fun _ hk => by simp only [ne_eq] at hk ⊢; simp only [hk, not_false_eq_true, and_self]))⟩, ⟨rl (Kd.R_mono HO1462.out (fun _ hk => by simp only [ne_eq] at hk ⊢; simp only [hk, not_false_eq_true, and_self]))⟩, ⟨rl (Kd.R_mono HO1465.out (fun _ hk => by simp only [ne_eq] at hk ⊢; simp only [hk, not_false_eq_true, and_self]))⟩, ⟨rl (Kd.R_mono HO1468.out (fun _ hk => by simp only [ne_eq] at hk ⊢; simp only [hk, not_false_eq_true, and_self]))⟩, ⟨rl (Kd.R_mono HO1471.out (fun _ hk => by simp only [ne_eq] at hk ⊢; simp only [hk, not_false_eq_true, and_self]))⟩, ⟨rl (Kd.R_mono HO1476.out (fun _ hk => by simp only [ne_eq] at hk ⊢; simp only [hk, not_false_eq_true, and_self]))⟩, ⟨rl (Kd.R_mono HO1479.out (fun _ hk => by simp only [ne_eq] at hk ⊢; simp only [hk, not_false_eq_true, and_self]))⟩, ⟨rl (Kd.R_mono HO1482.out (fun _ hk => by simp only [ne_eq] at hk ⊢; simp only [hk, not_false_eq_true, and_self]))⟩, ⟨rl (Kd.R_mono HO1485.out (fun _ hk => by simp only [ne_eq] at hk ⊢; simp only [hk, not_false_eq_true, and_self]))⟩, ⟨kl BK1459.out⟩, ⟨kl BK1473.out⟩, ⟨kl BK1487.out⟩, ⟨by exact bs3 GE1459.out GE1473.out GE1487.out HB.out⟩⟩
  case rest =>
   clear HC6
   try clear c1
   try clear c2
   try clear c2b0
   try clear c2b1
   try clear p2
   try clear c3
   try clear c4
   try clear c14
   try clear c16
   try clear c25
   try clear c26
   try clear c32
   try clear c33
   try clear c33b0
   try clear c33b1
   try clear c33b2
   try clear c34
   try clear c35
   try clear c37
   try clear c40
   try clear c41
   try clear c43
   try clear c44
   try clear c45
   try clear c46
   try clear c47
   try clear c49
   obtain ⟨kq, x41_5, rfl, HA, HJ5, HO_1460000, HO_1460001, HO_1460002, HO_1474000, HO_1474001, HO_1474002, HO_1474003, HO_1488000, HO_1488001, HO_1488002, HO_1488003, BK1459, BK1473, BK1487, HB⟩ := hcut
   cases kq with
   | zero => exact absurd HA.out (by simp [laws_FnRootsGray.j0])
   | succ kj5 =>
    have H := HA.out
    clear HA
    simp only [laws_FnRootsGray.j0] at H
    by_cases c52 : x41_5 = true
    ·subst c52
     have H1 : ((impl_ColoredSame.f kj5 t1460 t1463 t1466 t1469 t1474 t1477 t1480 t1483).bind fun t1489 => (if t1489 = true then (some (t1472 == t1486)) else (none))) = some r := by rw [if_pos rfl] at H; exact H
     clear H
     have H := H1
     clear H1
     replace H := Option.bind_eq_some_iff.mp H
     obtain ⟨t1489, A530, H⟩ := H
     replace H : (if t1489 = true then (some (t1472 == t1486)) else (none)) = some r := H
     have A53 := am A530
     clear A530
     by_cases c54 : t1489 = true
     ·subst c54
      have H1 : (some (t1472 == t1486)) = some r := by rw [if_pos rfl] at H; exact H
      clear H
      have H := H1
      clear H1
      obtain rfl := Option.some.inj H
      have hnb55 := NB1473_1459.out
      have hnc55 := NB1459_1473.out
      have hnb56 := NB1473_1487.out
      have hnc56 := NB1487_1473.out
      obtain ⟨hcz57_0, hcz57_1, hcz57_2, hcz57_3, hfz57_0, hfz57_1, hfz57_2, hfz57_3⟩ := cf4 BK1473
      have hnb58 := NB1487_1459.out
      have hnc58 := NB1459_1487.out
      obtain ⟨hcz59_0, hcz59_1, hcz59_2, hcz59_3, hfz59_0, hfz59_1, hfz59_2, hfz59_3⟩ := cf4 BK1487
      go_wp2_with (first | ((with_reducible refine gate_callee (f := 34) rfl ?_); refine gL (some 44) rfl rfl Try.func34 (by kernel_rfl) rfl #[.agg #[.slice Ao15 t1460.length co15, .slice Ao18 t1463.length co18, .slice Ao19 t1466.length co19, .slice Ao20 t1469.length co20], .agg #[.slice Ao24 t1474.length co24, .slice Ao28 t1477.length co28, .slice Ao29 t1480.length co29, .slice Ao30 t1483.length co30]] rfl ?_; (with_reducible refine (impl_ColoredSame.calls kj5 _ _ t1460 _ _ t1463 _ _ t1466 _ _ t1469 _ _ t1474 _ _ t1477 _ _ t1480 _ _ t1483 true _ ?side1 ?side2 ?side3 ?side4 ?side5 ?side6 ?side7 ?side8 ?side9 ?side10 ?side11 ?side12 ?side13 ?side14 ?side15 ?side16 A53.out).mono ?_); (case side1 => exact cl ((Kd.R_reads' HO_1474000.out).2.2)); (case side2 => exact sc HO_1474000); (case side3 => exact cl ((Kd.R_reads' HO_1474001.out).2.2)); (case side4 => exact sc HO_1474001); (case side5 => exact cl ((Kd.R_reads' HO_1474002.out).2.2)); (case side6 => exact sc HO_1474002); (case side7 => exact cl ((Kd.R_reads' HO_1474003.out).2.2)); (case side8 => exact sc HO_1474003); (case side9 => exact cl ((Kd.R_reads' HO_1488000.out).2.2)); (case side10 => exact sc HO_1488000); (case side11 => exact cl ((Kd.R_reads' HO_1488001.out).2.2)); (case side12 => exact sc HO_1488001); (case side13 => exact cl ((Kd.R_reads' HO_1488002.out).2.2)); (case side14 => exact sc HO_1488002); (case side15 => exact cl ((Kd.R_reads' HO_1488003.out).2.2)); (case side16 => exact sc HO_1488003); rintro e w60 ⟨rfl, hb⟩; refine ⟨_, rfl, ?_⟩; replace HO_1460000 := rb HO_1460000 hb; replace HO_1460001 := rb HO_1460001 hb; replace HO_1460002 := rb HO_1460002 hb; replace HO_1474000 := rb HO_1474000 hb; replace HO_1474001 := rb HO_1474001 hb; replace HO_1474002 := rb HO_1474002 hb; replace HO_1474003 := rb HO_1474003 hb; replace HO_1488000 := rb HO_1488000 hb; replace HO_1488001 := rb HO_1488001 hb; replace HO_1488002 := rb HO_1488002 hb; replace HO_1488003 := rb HO_1488003 hb; replace BK1459 := bb BK1459 hb; replace BK1473 := bb BK1473 hb; replace BK1487 := bb BK1487 hb; replace HB := am (below_step (bs3 GE1459.out GE1473.out GE1487.out HB.out) hb); (try clear hb)))
      go_ret
      exact ⟨by first | rfl | (simp [errW_none, errW_some] <;> rfl) | (simp [*, errW_none, errW_some] <;> rfl), by exact bs3 GE1459.out GE1473.out GE1487.out HB.out⟩
     ·replace c54 := Bool.eq_false_iff.mpr c54
      subst c54
      have H1 : (none) = some r := by rw [if_neg (show ¬ (false = true) by decide)] at H; exact H
      clear H
      have H := H1
      clear H1
      exact absurd H (by simp)
    ·replace c52 := Bool.eq_false_iff.mpr c52
     subst c52
     have H1 : ((impl_ShadeRoots.f kj5 t1460 t1463 t1466 t1469).bind fun bt1490 => (laws_FnRootsGray.l0 kj5 bt1490.2.2.2.2 0 0 t1450 t1453 t1456 t1460 t1463 t1466 t1469 bt1490.1 bt1490.2.1 bt1490.2.2.1 bt1490.2.2.2.1)) = some r := by rw [if_neg (show ¬ (false = true) by decide)] at H; exact H
     clear H
     have H := H1
     clear H1
     replace H := Option.bind_eq_some_iff.mp H
     obtain ⟨⟨t1490, t1493, t1496, t1499, t1502⟩, A610, H⟩ := H
     replace H : (laws_FnRootsGray.l0 kj5 t1502 0 0 t1450 t1453 t1456 t1460 t1463 t1466 t1469 t1490 t1493 t1496 t1499) = some r := H
     have A61 := am A610
     clear A610
     have H' := am H
     clear H
     have hnb62 := NB1473_1459.out
     have hnc62 := NB1459_1473.out
     have hnb63 := NB1473_1487.out
     have hnc63 := NB1487_1473.out
     obtain ⟨hcz64_0, hcz64_1, hcz64_2, hcz64_3, hfz64_0, hfz64_1, hfz64_2, hfz64_3⟩ := cf4 BK1473
     go_wp2_with (first | ((with_reducible refine gate_callee (f := 25) rfl ?_); refine gL (some 52) rfl rfl Try.func25 (by kernel_rfl) rfl #[.agg #[.slice Ao15 t1460.length co15, .slice Ao18 t1463.length co18, .slice Ao19 t1466.length co19, .slice Ao20 t1469.length co20]] rfl ?_; (with_reducible refine (impl_ShadeRoots.calls kj5 _ _ t1460 _ _ t1463 _ _ t1466 _ _ t1469 t1490 t1493 t1496 t1499 t1502 _ ?side1 ?side2 ?side3 ?side4 ?side5 ?side6 ?side7 ?side8 A61.out).mono ?_); (case side1 => exact cl ((Kd.R_reads' HO_1474000.out).2.2)); (case side2 => exact sc HO_1474000); (case side3 => exact cl ((Kd.R_reads' HO_1474001.out).2.2)); (case side4 => exact sc HO_1474001); (case side5 => exact cl ((Kd.R_reads' HO_1474002.out).2.2)); (case side6 => exact sc HO_1474002); (case side7 => exact cl ((Kd.R_reads' HO_1474003.out).2.2)); (case side8 => exact sc HO_1474003); rintro e w65 ⟨v1491, v1494, v1497, v1500, rfl, ho0, ho1, ho2, ho3, hb⟩; refine ⟨_, rfl, ?_⟩; have HO1492 := am (Kd.R_lower (Kd.R_new' (Kd.R_new' (Kd.R_new' (Kd.R_new' (Kd.R_new' (Kd.R_new' (Kd.R_new' (Kd.R_new' (Kd.R_new' (Kd.R_new' (Kd.R_new' ho0 (Kd.R_lt (rl HO_1460000.out))) (Kd.R_lt (rl HO_1460001.out))) (Kd.R_lt (rl HO_1460002.out))) (Kd.R_lt (rl HO_1474000.out))) (Kd.R_lt (rl HO_1474001.out))) (Kd.R_lt (rl HO_1474002.out))) (Kd.R_lt (rl HO_1474003.out))) (Kd.R_lt (rl HO_1488000.out))) (Kd.R_lt (rl HO_1488001.out))) (Kd.R_lt (rl HO_1488002.out))) (Kd.R_lt (rl HO_1488003.out))) (below_size (bs3 GE1459.out GE1473.out GE1487.out HB.out))); have HO1495 := am (Kd.R_lower (Kd.R_new' (Kd.R_new' (Kd.R_new' (Kd.R_new' (Kd.R_new' (Kd.R_new' (Kd.R_new' (Kd.R_new' (Kd.R_new' (Kd.R_new' (Kd.R_new' ho1 (Kd.R_lt (rl HO_1460000.out))) (Kd.R_lt (rl HO_1460001.out))) (Kd.R_lt (rl HO_1460002.out))) (Kd.R_lt (rl HO_1474000.out))) (Kd.R_lt (rl HO_1474001.out))) (Kd.R_lt (rl HO_1474002.out))) (Kd.R_lt (rl HO_1474003.out))) (Kd.R_lt (rl HO_1488000.out))) (Kd.R_lt (rl HO_1488001.out))) (Kd.R_lt (rl HO_1488002.out))) (Kd.R_lt (rl HO_1488003.out))) (below_size (bs3 GE1459.out GE1473.out GE1487.out HB.out))); have HO1498 := am (Kd.R_lower (Kd.R_new' (Kd.R_new' (Kd.R_new' (Kd.R_new' (Kd.R_new' (Kd.R_new' (Kd.R_new' (Kd.R_new' (Kd.R_new' (Kd.R_new' (Kd.R_new' ho2 (Kd.R_lt (rl HO_1460000.out))) (Kd.R_lt (rl HO_1460001.out))) (Kd.R_lt (rl HO_1460002.out))) (Kd.R_lt (rl HO_1474000.out))) (Kd.R_lt (rl HO_1474001.out))) (Kd.R_lt (rl HO_1474002.out))) (Kd.R_lt (rl HO_1474003.out))) (Kd.R_lt (rl HO_1488000.out))) (Kd.R_lt (rl HO_1488001.out))) (Kd.R_lt (rl HO_1488002.out))) (Kd.R_lt (rl HO_1488003.out))) (below_size (bs3 GE1459.out GE1473.out GE1487.out HB.out))); have HO1501 := am (Kd.R_lower (Kd.R_new' (Kd.R_new' (Kd.R_new' (Kd.R_new' (Kd.R_new' (Kd.R_new' (Kd.R_new' (Kd.R_new' (Kd.R_new' (Kd.R_new' (Kd.R_new' ho3 (Kd.R_lt (rl HO_1460000.out))) (Kd.R_lt (rl HO_1460001.out))) (Kd.R_lt (rl HO_1460002.out))) (Kd.R_lt (rl HO_1474000.out))) (Kd.R_lt (rl HO_1474001.out))) (Kd.R_lt (rl HO_1474002.out))) (Kd.R_lt (rl HO_1474003.out))) (Kd.R_lt (rl HO_1488000.out))) (Kd.R_lt (rl HO_1488001.out))) (Kd.R_lt (rl HO_1488002.out))) (Kd.R_lt (rl HO_1488003.out))) (below_size (bs3 GE1459.out GE1473.out GE1487.out HB.out))); replace HO_1460000 := td4 (rl HO_1460000.out) hb ho0 ho1 ho2 ho3; replace HO_1460001 := td4 (rl HO_1460001.out) hb ho0 ho1 ho2 ho3; replace HO_1460002 := td4 (rl HO_1460002.out) hb ho0 ho1 ho2 ho3; replace HO_1474000 := td4 (rl HO_1474000.out) hb ho0 ho1 ho2 ho3; replace HO_1474001 := td4 (rl HO_1474001.out) hb ho0 ho1 ho2 ho3; replace HO_1474002 := td4 (rl HO_1474002.out) hb ho0 ho1 ho2 ho3; replace HO_1474003 := td4 (rl HO_1474003.out) hb ho0 ho1 ho2 ho3; replace HO_1488000 := td4 (rl HO_1488000.out) hb ho0 ho1 ho2 ho3; replace HO_1488001 := td4 (rl HO_1488001.out) hb ho0 ho1 ho2 ho3; replace HO_1488002 := td4 (rl HO_1488002.out) hb ho0 ho1 ho2 ho3; replace HO_1488003 := td4 (rl HO_1488003.out) hb ho0 ho1 ho2 ho3; replace BK1459 := bb BK1459 hb; replace BK1473 := bb BK1473 hb; replace BK1487 := bb BK1487 hb; replace HB := am (below_step (bs3 GE1459.out GE1473.out GE1487.out HB.out) hb); (try clear hb ho0 ho1 ho2 ho3)) | ((with_reducible refine gate_dst (N := 8) rfl ?_); (try (refine gate_guard (by rfl) ?_; dsimp only)); refine box_event ?hg (N := 8) ?hd (cs := #[.slice none 0 0, .slice none 0 0, .slice none 0 0, .slice none 0 0]) (t := 30) ?hr ?_; (case hd => rfl); (case hg => rfl); (case hr => first | (go_simp; done) | (go_simp; rfl)); intro gb1503 hg w66 hbox hb; replace HO_1460000 := rb HO_1460000 hb; replace HO_1460001 := rb HO_1460001 hb; replace HO_1460002 := rb HO_1460002 hb; replace HO_1474000 := rb HO_1474000 hb; replace HO_1474001 := rb HO_1474001 hb; replace HO_1474002 := rb HO_1474002 hb; replace HO_1474003 := rb HO_1474003 hb; replace HO_1488000 := rb HO_1488000 hb; replace HO_1488001 := rb HO_1488001 hb; replace HO_1488002 := rb HO_1488002 hb; replace HO_1488003 := rb HO_1488003 hb; replace HO1492 := rb HO1492 hb; replace HO1495 := rb HO1495 hb; replace HO1498 := rb HO1498 hb; replace HO1501 := rb HO1501 hb; have BK1503 := am (hbox); have GW1503 := am ((by rw [hg]; exact (below_size (bs3 GE1459.out GE1473.out GE1487.out HB.out)) : w.heap.size ≤ gb1503)); have GE1503 := am ((by rw [hg]; exact (below_size (bs3 GE1459.out GE1473.out GE1487.out HB.out)) : w.heap.size ≤ gb1503)); replace HB := am (below_step (bs3 GE1459.out GE1473.out GE1487.out HB.out) hb); have NB1459_1503 := nb BK1459 hg; have NB1503_1459 := nc BK1459 hg; replace BK1459 := bb BK1459 hb; have NB1473_1503 := nb BK1473 hg; have NB1503_1473 := nc BK1473 hg; replace BK1473 := bb BK1473 hb; have NB1487_1503 := nb BK1487 hg; have NB1503_1487 := nc BK1487 hg; replace BK1487 := bb BK1487 hb; clear hb hbox hg; obtain ⟨Ao67, co67, eo67⟩ := Kd.R_slice HO1492.out; subst eo67; have hnb68 := NB1503_1459.out; have hnc68 := NB1459_1503.out; have hnb69 := NB1503_1473.out; have hnc69 := NB1473_1503.out; have hnb70 := NB1503_1487.out; have hnc70 := NB1487_1503.out; obtain ⟨hcz71_0, hcz71_1, hcz71_2, hcz71_3, hfz71_0, hfz71_1, hfz71_2, hfz71_3⟩ := cf4 BK1503; obtain ⟨Ao72, co72, eo72⟩ := Kd.R_slice HO1495.out; subst eo72; obtain ⟨Ao73, co73, eo73⟩ := Kd.R_slice HO1498.out; subst eo73; obtain ⟨Ao74, co74, eo74⟩ := Kd.R_slice HO1501.out; subst eo74))
     go_loopg [10, 11] kj5 (fun kq v10 v11 w' => ∃ (x10_2 : Int) (x11_2 : Int), v10 = .int .i64 x10_2 ∧ v11 = .int .i64 x11_2 ∧ Aside0 (laws_FnRootsGray.l0 kq t1502 x10_2 x11_2 t1450 t1453 t1456 t1460 t1463 t1466 t1469 t1490 t1493 t1496 t1499 = some r) ∧ Aside0 (kq ≤ kj5) ∧ Aside0 (Kd.R (Kd.int .i64) 3 w' w.heap.size (fun k_ => some k_ ≠ ((.slice Ao11 t1453.length co11) : Value).ownBlock ∧ some k_ ≠ ((.slice Ao12 t1456.length co12) : Value).ownBlock ∧ some k_ ≠ ((.slice Ao15 t1460.length co15) : Value).ownBlock ∧ some k_ ≠ ((.slice Ao18 t1463.length co18) : Value).ownBlock ∧ some k_ ≠ ((.slice Ao19 t1466.length co19) : Value).ownBlock ∧ some k_ ≠ ((.slice Ao20 t1469.length co20) : Value).ownBlock ∧ some k_ ≠ ((.slice Ao67 t1490.length co67) : Value).ownBlock ∧ some k_ ≠ ((.slice Ao72 t1493.length co72) : Value).ownBlock ∧ some k_ ≠ ((.slice Ao73 t1496.length co73) : Value).ownBlock ∧ some k_ ≠ ((.slice Ao74 t1499.length co74) : Value).ownBlock) (.slice Ao9 t1450.length co9) t1450) ∧ Aside0 (Kd.R (Kd.int .i64) 3 w' w.heap.size (fun k_ => some k_ ≠ ((.slice Ao9 t1450.length co9) : Value).ownBlock ∧ some k_ ≠ ((.slice Ao12 t1456.length co12) : Value).ownBlock ∧ some k_ ≠ ((.slice Ao15 t1460.length co15) : Value).ownBlock ∧ some k_ ≠ ((.slice Ao18 t1463.length co18) : Value).ownBlock ∧ some k_ ≠ ((.slice Ao19 t1466.length co19) : Value).ownBlock ∧ some k_ ≠ ((.slice Ao20 t1469.length co20) : Value).ownBlock ∧ some k_ ≠ ((.slice Ao67 t1490.length co67) : Value).ownBlock ∧ some k_ ≠ ((.slice Ao72 t1493.length co72) : Value).ownBlock ∧ some k_ ≠ ((.slice Ao73 t1496.length co73) : Value).ownBlock ∧ some k_ ≠ ((.slice Ao74 t1499.length co74) : Value).ownBlock) (.slice Ao11 t1453.length co11) t1453) ∧ Aside0 (Kd.R (Kd.int .i64) 3 w' w.heap.size (fun k_ => some k_ ≠ ((.slice Ao9 t1450.length co9) : Value).ownBlock ∧ some k_ ≠ ((.slice Ao11 t1453.length co11) : Value).ownBlock ∧ some k_ ≠ ((.slice Ao15 t1460.length co15) : Value).ownBlock ∧ some k_ ≠ ((.slice Ao18 t1463.length co18) : Value).ownBlock ∧ some k_ ≠ ((.slice Ao19 t1466.length co19) : Value).ownBlock ∧ some k_ ≠ ((.slice Ao20 t1469.length co20) : Value).ownBlock ∧ some k_ ≠ ((.slice Ao67 t1490.length co67) : Value).ownBlock ∧ some k_ ≠ ((.slice Ao72 t1493.length co72) : Value).ownBlock ∧ some k_ ≠ ((.slice Ao73 t1496.length co73) : Value).ownBlock ∧ some k_ ≠ ((.slice Ao74 t1499.length co74) : Value).ownBlock) (.slice Ao12 t1456.length co12) t1456) ∧ Aside0 (Kd.R (Kd.int .i64) 3 w' w.heap.size (fun k_ => some k_ ≠ ((.slice Ao9 t1450.length co9) : Value).ownBlock ∧ some k_ ≠ ((.slice Ao11 t1453.length co11) : Value).ownBlock ∧ some k_ ≠ ((.slice Ao12 t1456.length co12) : Value).ownBlock ∧ some k_ ≠ ((.slice Ao18 t1463.length co18) : Value).ownBlock ∧ some k_ ≠ ((.slice Ao19 t1466.length co19) : Value).ownBlock ∧ some k_ ≠ ((.slice Ao20 t1469.length co20) : Value).ownBlock ∧ some k_ ≠ ((.slice Ao67 t1490.length co67) : Value).ownBlock ∧ some k_ ≠ ((.slice Ao72 t1493.length co72) : Value).ownBlock ∧ some k_ ≠ ((.slice Ao73 t1496.length co73) : Value).ownBlock ∧ some k_ ≠ ((.slice Ao74 t1499.length co74) : Value).ownBlock) (.slice Ao15 t1460.length co15) t1460) ∧ Aside0 (Kd.R (Kd.int .i64) 3 w' w.heap.size (fun k_ => some k_ ≠ ((.slice Ao9 t1450.length co9) : Value).ownBlock ∧ some k_ ≠ ((.slice Ao11 t1453.length co11) : Value).ownBlock ∧ some k_ ≠ ((.slice Ao12 t1456.length co12) : Value).ownBlock ∧ some k_ ≠ ((.slice Ao15 t1460.length co15) : Value).ownBlock ∧ some k_ ≠ ((.slice Ao19 t1466.length co19) : Value).ownBlock ∧ some k_ ≠ ((.slice Ao20 t1469.length co20) : Value).ownBlock ∧ some k_ ≠ ((.slice Ao67 t1490.length co67) : Value).ownBlock ∧ some k_ ≠ ((.slice Ao72 t1493.length co72) : Value).ownBlock ∧ some k_ ≠ ((.slice Ao73 t1496.length co73) : Value).ownBlock ∧ some k_ ≠ ((.slice Ao74 t1499.length co74) : Value).ownBlock) (.slice Ao18 t1463.length co18) t1463) ∧ Aside0 (Kd.R (Kd.int .i64) 3 w' w.heap.size (fun k_ => some k_ ≠ ((.slice Ao9 t1450.length co9) : Value).ownBlock ∧ some k_ ≠ ((.slice Ao11 t1453.length co11) : Value).ownBlock ∧ some k_ ≠ ((.slice Ao12 t1456.length co12) : Value).ownBlock ∧ some k_ ≠ ((.slice Ao15 t1460.length co15) : Value).ownBlock ∧ some k_ ≠ ((.slice Ao18 t1463.length co18) : Value).ownBlock ∧ some k_ ≠ ((.slice Ao20 t1469.length co20) : Value).ownBlock ∧ some k_ ≠ ((.slice Ao67 t1490.length co67) : Value).ownBlock ∧ some k_ ≠ ((.slice Ao72 t1493.length co72) : Value).ownBlock ∧ some k_ ≠ ((.slice Ao73 t1496.length co73) : Value).ownBlock ∧ some k_ ≠ ((.slice Ao74 t1499.length co74) : Value).ownBlock) (.slice Ao19 t1466.length co19) t1466) ∧ Aside0 (Kd.R (Kd.int .i64) 3 w' w.heap.size (fun k_ => some k_ ≠ ((.slice Ao9 t1450.length co9) : Value).ownBlock ∧ some k_ ≠ ((.slice Ao11 t1453.length co11) : Value).ownBlock ∧ some k_ ≠ ((.slice Ao12 t1456.length co12) : Value).ownBlock ∧ some k_ ≠ ((.slice Ao15 t1460.length co15) : Value).ownBlock ∧ some k_ ≠ ((.slice Ao18 t1463.length co18) : Value).ownBlock ∧ some k_ ≠ ((.slice Ao19 t1466.length co19) : Value).ownBlock ∧ some k_ ≠ ((.slice Ao67 t1490.length co67) : Value).ownBlock ∧ some k_ ≠ ((.slice Ao72 t1493.length co72) : Value).ownBlock ∧ some k_ ≠ ((.slice Ao73 t1496.length co73) : Value).ownBlock ∧ some k_ ≠ ((.slice Ao74 t1499.length co74) : Value).ownBlock) (.slice Ao20 t1469.length co20) t1469) ∧ Aside0 (Kd.R (Kd.int .i64) 3 w' w.heap.size (fun k_ => some k_ ≠ ((.slice Ao9 t1450.length co9) : Value).ownBlock ∧ some k_ ≠ ((.slice Ao11 t1453.length co11) : Value).ownBlock ∧ some k_ ≠ ((.slice Ao12 t1456.length co12) : Value).ownBlock ∧ some k_ ≠ ((.slice Ao15 t1460.length co15) : Value).ownBlock ∧ some k_ ≠ ((.slice Ao18 t1463.length co18) : Value).ownBlock ∧ some k_ ≠ ((.slice Ao19 t1466.length co19) : Value).ownBlock ∧ some k_ ≠ ((.slice Ao20 t1469.length co20) : Value).ownBlock ∧ some k_ ≠ ((.slice Ao72 t1493.length co72) : Value).ownBlock ∧ some k_ ≠ ((.slice Ao73 t1496.length co73) : Value).ownBlock ∧ some k_ ≠ ((.slice Ao74 t1499.length co74) : Value).ownBlock) (.slice Ao67 t1490.length co67) t1490) ∧ Aside0 (Kd.R (Kd.int .i64) 3 w' w.heap.size (fun k_ => some k_ ≠ ((.slice Ao9 t1450.length co9) : Value).ownBlock ∧ some k_ ≠ ((.slice Ao11 t1453.length co11) : Value).ownBlock ∧ some k_ ≠ ((.slice Ao12 t1456.length co12) : Value).ownBlock ∧ some k_ ≠ ((.slice Ao15 t1460.length co15) : Value).ownBlock ∧ some k_ ≠ ((.slice Ao18 t1463.length co18) : Value).ownBlock ∧ some k_ ≠ ((.slice Ao19 t1466.length co19) : Value).ownBlock ∧ some k_ ≠ ((.slice Ao20 t1469.length co20) : Value).ownBlock ∧ some k_ ≠ ((.slice Ao67 t1490.length co67) : Value).ownBlock ∧ some k_ ≠ ((.slice Ao73 t1496.length co73) : Value).ownBlock ∧ some k_ ≠ ((.slice Ao74 t1499.length co74) : Value).ownBlock) (.slice Ao72 t1493.length co72) t1493) ∧ Aside0 (Kd.R (Kd.int .i64) 3 w' w.heap.size (fun k_ => some k_ ≠ ((.slice Ao9 t1450.length co9) : Value).ownBlock ∧ some k_ ≠ ((.slice Ao11 t1453.length co11) : Value).ownBlock ∧ some k_ ≠ ((.slice Ao12 t1456.length co12) : Value).ownBlock ∧ some k_ ≠ ((.slice Ao15 t1460.length co15) : Value).ownBlock ∧ some k_ ≠ ((.slice Ao18 t1463.length co18) : Value).ownBlock ∧ some k_ ≠ ((.slice Ao19 t1466.length co19) : Value).ownBlock ∧ some k_ ≠ ((.slice Ao20 t1469.length co20) : Value).ownBlock ∧ some k_ ≠ ((.slice Ao67 t1490.length co67) : Value).ownBlock ∧ some k_ ≠ ((.slice Ao72 t1493.length co72) : Value).ownBlock ∧ some k_ ≠ ((.slice Ao74 t1499.length co74) : Value).ownBlock) (.slice Ao73 t1496.length co73) t1496) ∧ Aside0 (Kd.R (Kd.int .i64) 3 w' w.heap.size (fun k_ => some k_ ≠ ((.slice Ao9 t1450.length co9) : Value).ownBlock ∧ some k_ ≠ ((.slice Ao11 t1453.length co11) : Value).ownBlock ∧ some k_ ≠ ((.slice Ao12 t1456.length co12) : Value).ownBlock ∧ some k_ ≠ ((.slice Ao15 t1460.length co15) : Value).ownBlock ∧ some k_ ≠ ((.slice Ao18 t1463.length co18) : Value).ownBlock ∧ some k_ ≠ ((.slice Ao19 t1466.length co19) : Value).ownBlock ∧ some k_ ≠ ((.slice Ao20 t1469.length co20) : Value).ownBlock ∧ some k_ ≠ ((.slice Ao67 t1490.length co67) : Value).ownBlock ∧ some k_ ≠ ((.slice Ao72 t1493.length co72) : Value).ownBlock ∧ some k_ ≠ ((.slice Ao73 t1496.length co73) : Value).ownBlock) (.slice Ao74 t1499.length co74) t1499) ∧ Aside0 (w'.heap[gb1459]? = some (.cells #[(.slice Ao9 t1450.length co9), (.slice Ao11 t1453.length co11), (.slice Ao12 t1456.length co12)] 28 (0, 0))) ∧ Aside0 (w'.heap[gb1473]? = some (.cells #[(.slice Ao15 t1460.length co15), (.slice Ao18 t1463.length co18), (.slice Ao19 t1466.length co19), (.slice Ao20 t1469.length co20)] 30 (0, 0))) ∧ Aside0 (w'.heap[gb1503]? = some (.cells #[(.slice Ao67 t1490.length co67), (.slice Ao72 t1493.length co72), (.slice Ao73 t1496.length co73), (.slice Ao74 t1499.length co74)] 30 (0, 0))) ∧ Aside0 (Below w.heap.size w w'))
     case atStart => exact ⟨(0), (0), (by first | rfl | (simp; done) | (simp [*]; done)), (by first | rfl | (simp; done) | (simp [*]; done)), H', ⟨Nat.le_refl _⟩, ⟨rl (Kd.R_mono (Kd.R_far (p := ⟨gb1503, 3, none⟩) (Kd.R_far (p := ⟨gb1503, 2, none⟩) (Kd.R_far (p := ⟨gb1503, 1, none⟩) (Kd.R_far (p := ⟨gb1503, 0, none⟩) (Kd.R_types HO_1460000.out BK1503.out (by decide)) (fun _ hk => hk.2) (.slice Ao67 t1490.length co67)) (fun _ hk => hk.2) (.slice Ao72 t1493.length co72)) (fun _ hk => hk.2) (.slice Ao73 t1496.length co73)) (fun _ hk => hk.2) (.slice Ao74 t1499.length co74)) (fun _ hk => by simp only [ne_eq] at hk ⊢; simp only [hk, not_false_eq_true, and_self]))⟩, ⟨rl (Kd.R_mono (Kd.R_far (p := ⟨gb1503, 3, none⟩) (Kd.R_far (p := ⟨gb1503, 2, none⟩) (Kd.R_far (p := ⟨gb1503, 1, none⟩) (Kd.R_far (p := ⟨gb1503, 0, none⟩) (Kd.R_types HO_1460001.out BK1503.out (by decide)) (fun _ hk => hk.2) (.slice Ao67 t1490.length co67)) (fun _ hk => hk.2) (.slice Ao72 t1493.length co72)) (fun _ hk => hk.2) (.slice Ao73 t1496.length co73)) (fun _ hk => hk.2) (.slice Ao74 t1499.length co74)) (fun _ hk => by simp only [ne_eq] at hk ⊢; simp only [hk, not_false_eq_true, and_self]))⟩, ⟨rl (Kd.R_mono (Kd.R_far (p := ⟨gb1503, 3, none⟩) (Kd.R_far (p := ⟨gb1503, 2, none⟩) (Kd.R_far (p := ⟨gb1503, 1, none⟩) (Kd.R_far (p := ⟨gb1503, 0, none⟩) (Kd.R_types HO_1460002.out BK1503.out (by decide)) (fun _ hk => hk.2) (.slice Ao67 t1490.length co67)) (fun _ hk => hk.2) (.slice Ao72 t1493.length co72)) (fun _ hk => hk.2) (.slice Ao73 t1496.length co73)) (fun _ hk => hk.2) (.slice Ao74 t1499.length co74)) (fun _ hk => by simp only [ne_eq] at hk ⊢; simp only [hk, not_false_eq_true, and_self]))⟩, ⟨rl (Kd.R_mono (Kd.R_far (p := ⟨gb1503, 3, none⟩) (Kd.R_far (p := ⟨gb1503, 2, none⟩) (Kd.R_far (p := ⟨gb1503, 1, none⟩) (Kd.R_far (p := ⟨gb1503, 0, none⟩) (Kd.R_types HO_1474000.out BK1503.out (by decide)) (fun _ hk => hk.2) (.slice Ao67 t1490.length co67)) (fun _ hk => hk.2) (.slice Ao72 t1493.length co72)) (fun _ hk => hk.2) (.slice Ao73 t1496.length co73)) (fun _ hk => hk.2) (.slice Ao74 t1499.length co74)) (fun _ hk => by simp only [ne_eq] at hk ⊢; simp only [hk, not_false_eq_true, and_self]))⟩, ⟨rl (Kd.R_mono (Kd.R_far (p := ⟨gb1503, 3, none⟩) (Kd.R_far (p := ⟨gb1503, 2, none⟩) (Kd.R_far (p := ⟨gb1503, 1, none⟩) (Kd.R_far (p := ⟨gb1503, 0, none⟩) (Kd.R_types HO_1474001.out BK1503.out (by decide)) (fun _ hk => hk.2) (.slice Ao67 t1490.length co67)) (fun _ hk => hk.2) (.slice Ao72 t1493.length co72)) (fun _ hk => hk.2) (.slice Ao73 t1496.length co73)) (fun _ hk => hk.2) (.slice Ao74 t1499.length co74)) (fun _ hk => by simp only [ne_eq] at hk ⊢; simp only [hk, not_false_eq_true, and_self]))⟩, ⟨rl (Kd.R_mono (Kd.R_far (p := ⟨gb1503, 3, none⟩) (Kd.R_far (p := ⟨gb1503, 2, none⟩) (Kd.R_far (p := ⟨gb1503, 1, none⟩) (Kd.R_far (p := ⟨gb1503, 0, none⟩) (Kd.R_types HO_1474002.out BK1503.out (by decide)) (fun _ hk => hk.2) (.slice Ao67 t1490.length co67)) (fun _ hk => hk.2) (.slice Ao72 t1493.length co72)) (fun _ hk => hk.2) (.slice Ao73 t1496.length co73)) (fun _ hk => hk.2) (.slice Ao74 t1499.length co74)) (fun _ hk => by simp only [ne_eq] at hk ⊢; simp only [hk, not_false_eq_true, and_self]))⟩, ⟨rl (Kd.R_mono (Kd.R_far (p := ⟨gb1503, 3, none⟩) (Kd.R_far (p := ⟨gb1503, 2, none⟩) (Kd.R_far (p := ⟨gb1503, 1, none⟩) (Kd.R_far (p := ⟨gb1503, 0, none⟩) (Kd.R_types HO_1474003.out BK1503.out (by decide)) (fun _ hk => hk.2) (.slice Ao67 t1490.length co67)) (fun _ hk => hk.2) (.slice Ao72 t1493.length co72)) (fun _ hk => hk.2) (.slice Ao73 t1496.length co73)) (fun _ hk => hk.2) (.slice Ao74 t1499.length co74)) (fun _ hk => by simp only [ne_eq] at hk ⊢; simp only [hk, not_false_eq_true, and_self]))⟩, ⟨rl (Kd.R_mono (Kd.R_far (p := ⟨gb1503, 3, none⟩) (Kd.R_far (p := ⟨gb1503, 2, none⟩) (Kd.R_far (p := ⟨gb1503, 1, none⟩) (Kd.R_far (p := ⟨gb1503, 0, none⟩) (Kd.R_types HO1492.out BK1503.out (by decide)) (fun _ hk => hk.2) (.slice Ao67 t1490.length co67)) (fun _ hk => hk.2) (.slice Ao72 t1493.length co72)) (fun _ hk => hk.2) (.slice Ao73 t1496.length co73)) (fun _ hk => hk.2) (.slice Ao74 t1499.length co74)) (fun _ hk => by simp only [ne_eq] at hk ⊢; simp only [hk, not_false_eq_true, and_self]))⟩, ⟨rl (Kd.R_mono (Kd.R_far (p := ⟨gb1503, 3, none⟩) (Kd.R_far (p := ⟨gb1503, 2, none⟩) (Kd.R_far (p := ⟨gb1503, 1, none⟩) (Kd.R_far (p := ⟨gb1503, 0, none⟩) (Kd.R_types HO1495.out BK1503.out (by decide)) (fun _ hk => hk.2) (.slice Ao67 t1490.length co67)) (fun _ hk => hk.2) (.slice Ao72 t1493.length co72)) (fun _ hk => hk.2) (.slice Ao73 t1496.length co73)) (fun _ hk => hk.2) (.slice Ao74 t1499.length co74)) (fun _ hk => by simp only [ne_eq] at hk ⊢; simp only [hk, not_false_eq_true, and_self]))⟩, ⟨rl (Kd.R_mono (Kd.R_far (p := ⟨gb1503, 3, none⟩) (Kd.R_far (p := ⟨gb1503, 2, none⟩) (Kd.R_far (p := ⟨gb1503, 1, none⟩) (Kd.R_far (p := ⟨gb1503, 0, none⟩) (Kd.R_types HO1498.out BK1503.out (by decide)) (fun _ hk => hk.2) (.slice Ao67 t1490.length co67)) (fun _ hk => hk.2) (.slice Ao72 t1493.length co72)) (fun _ hk => hk.2) (.slice Ao73 t1496.length co73)) (fun _ hk => hk.2) (.slice Ao74 t1499.length co74)) (fun _ hk => by simp only [ne_eq] at hk ⊢; simp only [hk, not_false_eq_true, and_self]))⟩, ⟨rl (Kd.R_mono (Kd.R_far (p := ⟨gb1503, 3, none⟩) (Kd.R_far (p := ⟨gb1503, 2, none⟩) (Kd.R_far (p := ⟨gb1503, 1, none⟩) (Kd.R_far (p := ⟨gb1503, 0, none⟩) (Kd.R_types HO1501.out BK1503.out (by decide)) (fun _ hk => hk.2) (.slice Ao67 t1490.length co67)) (fun _ hk => hk.2) (.slice Ao72 t1493.length co72)) (fun _ hk => hk.2) (.slice Ao73 t1496.length co73)) (fun _ hk => hk.2) (.slice Ao74 t1499.length co74)) (fun _ hk => by simp only [ne_eq] at hk ⊢; simp only [hk, not_false_eq_true, and_self]))⟩, ⟨kf1 NB1459_1503.out BK1459.out⟩, ⟨kf1 NB1473_1503.out BK1473.out⟩, ⟨kp4 (kf0 BK1503.out)⟩, ⟨by exact bs4 GE1459.out GE1473.out GE1487.out GE1503.out HB.out⟩⟩
     case round =>
      clear H'
      try clear c1
      try clear c2
      try clear c2b0
      try clear c2b1
      try clear p2
      try clear c3
      try clear c4
      try clear c5
      try clear c6
      try clear c7
      try clear c14
      try clear c16
      try clear c25
      try clear c26
      try clear c32
      try clear c33
      try clear c33b0
      try clear c33b1
      try clear c33b2
      try clear c34
      try clear c35
      try clear c37
      try clear c40
      try clear c41
      try clear c43
      try clear c44
      try clear c45
      try clear c46
      try clear c47
      try clear c49
      try clear c52
      try clear c54
      try clear c55
      try clear c56
      try clear c58
      try clear c62
      try clear c63
      try clear c68
      try clear c69
      try clear c70
      try clear p2
      obtain ⟨x10_2, x11_2, rfl, rfl, HA, HK2, HO_1460000, HO_1460001, HO_1460002, HO_1474000, HO_1474001, HO_1474002, HO_1474003, HO_1504000, HO_1504001, HO_1504002, HO_1504003, BK1459, BK1473, BK1503, HB⟩ := hrel
      cases gk with
      | zero => exact absurd HA.out (by simp [laws_FnRootsGray.l0])
      | succ k2 =>
       have H := HA.out
       clear HA
       simp only [laws_FnRootsGray.l0] at H
       by_cases c75 : x11_2 < (t1450.length : Int)
       ·rw [if_pos c75] at H
        have c75b0 : decide (x11_2 < (t1450.length : Int)) = true := decide_eq_true c75
        clear c75
        replace H := Option.bind_eq_some_iff.mp H
        obtain ⟨⟨t1504, t1505⟩, A760, H⟩ := H
        replace H : (if t1505 = true then (if t1504 = 1 then (laws_FnRootsGray.l0 k2 t1502 (wrap64 (x10_2 + 1)) (wrap64 (x11_2 + 1)) t1450 t1453 t1456 t1460 t1463 t1466 t1469 t1490 t1493 t1496 t1499) else (laws_FnRootsGray.l0 k2 t1502 x10_2 (wrap64 (x11_2 + 1)) t1450 t1453 t1456 t1460 t1463 t1466 t1469 t1490 t1493 t1496 t1499)) else (laws_FnRootsGray.l0 k2 t1502 x10_2 (wrap64 (x11_2 + 1)) t1450 t1453 t1456 t1460 t1463 t1466 t1469 t1490 t1493 t1496 t1499)) = some r := H
        have A76 := am A760
        clear A760
        by_cases c77 : t1505 = true
        ·subst c77
         have H1 : (if t1504 = 1 then (laws_FnRootsGray.l0 k2 t1502 (wrap64 (x10_2 + 1)) (wrap64 (x11_2 + 1)) t1450 t1453 t1456 t1460 t1463 t1466 t1469 t1490 t1493 t1496 t1499) else (laws_FnRootsGray.l0 k2 t1502 x10_2 (wrap64 (x11_2 + 1)) t1450 t1453 t1456 t1460 t1463 t1466 t1469 t1490 t1493 t1496 t1499)) = some r := by rw [if_pos rfl] at H; exact H
         clear H
         have H := H1
         clear H1
         by_cases c78 : t1504 = 1
         ·rw [if_pos c78] at H
          have c78b0 : (t1504 == 1) = true := beq_iff_eq.mpr c78
          have c78b1 : (t1504 != 1) = false := bne_eq_false_iff_eq.mpr c78
          clear c78
          have H' := am H
          clear H
          have hnb79 := NB1459_1473.out
          have hnc79 := NB1473_1459.out
          have hnb80 := NB1459_1503.out
          have hnc80 := NB1503_1459.out
          obtain ⟨hcz81_0, hcz81_1, hcz81_2, hfz81_0, hfz81_1, hfz81_2⟩ := cf3 BK1459
          go_wp2_with (first | ((with_reducible refine gate_callee (f := 46) rfl ?_); refine gL (some 65) rfl rfl Try.func46 (by kernel_rfl) rfl #[.agg #[.slice Ao9 t1450.length co9, .slice Ao11 t1453.length co11, .slice Ao12 t1456.length co12], .int .i64 x11_2] rfl ?_; (with_reducible refine (impl_DistanceOf.calls k2 _ _ t1450 _ _ t1453 _ _ t1456 x11_2 t1504 true _ ?side1 ?side2 ?side3 ?side4 ?side5 ?side6 A76.out).mono ?_); (case side1 => exact cl ((Kd.R_reads' HO_1460000.out).2.2)); (case side2 => exact sc HO_1460000); (case side3 => exact cl ((Kd.R_reads' HO_1460001.out).2.2)); (case side4 => exact sc HO_1460001); (case side5 => exact cl ((Kd.R_reads' HO_1460002.out).2.2)); (case side6 => exact sc HO_1460002); rintro e w82 ⟨rfl, hb⟩; refine ⟨_, rfl, ?_⟩; replace HO_1460000 := rb HO_1460000 hb; replace HO_1460001 := rb HO_1460001 hb; replace HO_1460002 := rb HO_1460002 hb; replace HO_1474000 := rb HO_1474000 hb; replace HO_1474001 := rb HO_1474001 hb; replace HO_1474002 := rb HO_1474002 hb; replace HO_1474003 := rb HO_1474003 hb; replace HO_1504000 := rb HO_1504000 hb; replace HO_1504001 := rb HO_1504001 hb; replace HO_1504002 := rb HO_1504002 hb; replace HO_1504003 := rb HO_1504003 hb; replace BK1459 := bb BK1459 hb; replace BK1473 := bb BK1473 hb; replace BK1503 := bb BK1503 hb; replace HB := am (below_step (bs3 GE1459.out GE1473.out GE1503.out HB.out) hb); (try clear hb)))
          go_roundg k2
          case measure => have := HJ5.out; have := HK2.out; omega
          case rel => exact ⟨(wrap64 (x10_2 + 1)), (wrap64 (x11_2 + 1)), (by first | rfl | (simp; done) | (simp [*]; done)), (by first | rfl | (simp; done) | (simp [*]; done)), H', ⟨by have := HJ5.out; have := HK2.out; omega⟩, ⟨rl HO_1460000.out⟩, ⟨rl HO_1460001.out⟩, ⟨rl HO_1460002.out⟩, ⟨rl HO_1474000.out⟩, ⟨rl HO_1474001.out⟩, ⟨rl HO_1474002.out⟩, ⟨rl HO_1474003.out⟩, ⟨rl HO_1504000.out⟩, ⟨rl HO_1504001.out⟩, ⟨rl HO_1504002.out⟩, ⟨rl HO_1504003.out⟩, ⟨kl BK1459.out⟩, ⟨kl BK1473.out⟩, ⟨kl BK1503.out⟩, ⟨by exact bs3 GE1459.out GE1473.out GE1503.out HB.out⟩⟩
         ·rw [if_neg c78] at H
          have c78b0 : (t1504 == 1) = false := beq_eq_false_iff_ne.mpr c78
          have c78b1 : (t1504 != 1) = true := bne_iff_ne.mpr c78
          have H' := am H
          clear H
          have hnb83 := NB1459_1473.out
          have hnc83 := NB1473_1459.out
          have hnb84 := NB1459_1503.out
          have hnc84 := NB1503_1459.out
          obtain ⟨hcz85_0, hcz85_1, hcz85_2, hfz85_0, hfz85_1, hfz85_2⟩ := cf3 BK1459
          go_wp2_with (first | ((with_reducible refine gate_callee (f := 46) rfl ?_); refine gL (some 65) rfl rfl Try.func46 (by kernel_rfl) rfl #[.agg #[.slice Ao9 t1450.length co9, .slice Ao11 t1453.length co11, .slice Ao12 t1456.length co12], .int .i64 x11_2] rfl ?_; (with_reducible refine (impl_DistanceOf.calls k2 _ _ t1450 _ _ t1453 _ _ t1456 x11_2 t1504 true _ ?side1 ?side2 ?side3 ?side4 ?side5 ?side6 A76.out).mono ?_); (case side1 => exact cl ((Kd.R_reads' HO_1460000.out).2.2)); (case side2 => exact sc HO_1460000); (case side3 => exact cl ((Kd.R_reads' HO_1460001.out).2.2)); (case side4 => exact sc HO_1460001); (case side5 => exact cl ((Kd.R_reads' HO_1460002.out).2.2)); (case side6 => exact sc HO_1460002); rintro e w86 ⟨rfl, hb⟩; refine ⟨_, rfl, ?_⟩; replace HO_1460000 := rb HO_1460000 hb; replace HO_1460001 := rb HO_1460001 hb; replace HO_1460002 := rb HO_1460002 hb; replace HO_1474000 := rb HO_1474000 hb; replace HO_1474001 := rb HO_1474001 hb; replace HO_1474002 := rb HO_1474002 hb; replace HO_1474003 := rb HO_1474003 hb; replace HO_1504000 := rb HO_1504000 hb; replace HO_1504001 := rb HO_1504001 hb; replace HO_1504002 := rb HO_1504002 hb; replace HO_1504003 := rb HO_1504003 hb; replace BK1459 := bb BK1459 hb; replace BK1473 := bb BK1473 hb; replace BK1503 := bb BK1503 hb; replace HB := am (below_step (bs3 GE1459.out GE1473.out GE1503.out HB.out) hb); (try clear hb)))
          go_roundg k2
          case measure => have := HJ5.out; have := HK2.out; omega
          case rel => exact ⟨(x10_2), (wrap64 (x11_2 + 1)), (by first | rfl | (simp; done) | (simp [*]; done)), (by first | rfl | (simp; done) | (simp [*]; done)), H', ⟨by have := HJ5.out; have := HK2.out; omega⟩, ⟨rl HO_1460000.out⟩, ⟨rl HO_1460001.out⟩, ⟨rl HO_1460002.out⟩, ⟨rl HO_1474000.out⟩, ⟨rl HO_1474001.out⟩, ⟨rl HO_1474002.out⟩, ⟨rl HO_1474003.out⟩, ⟨rl HO_1504000.out⟩, ⟨rl HO_1504001.out⟩, ⟨rl HO_1504002.out⟩, ⟨rl HO_1504003.out⟩, ⟨kl BK1459.out⟩, ⟨kl BK1473.out⟩, ⟨kl BK1503.out⟩, ⟨by exact bs3 GE1459.out GE1473.out GE1503.out HB.out⟩⟩
        ·replace c77 := Bool.eq_false_iff.mpr c77
         subst c77
         have H1 : (laws_FnRootsGray.l0 k2 t1502 x10_2 (wrap64 (x11_2 + 1)) t1450 t1453 t1456 t1460 t1463 t1466 t1469 t1490 t1493 t1496 t1499) = some r := by rw [if_neg (show ¬ (false = true) by decide)] at H; exact H
         clear H
         have H := H1
         clear H1
         have H' := am H
         clear H
         have hnb87 := NB1459_1473.out
         have hnc87 := NB1473_1459.out
         have hnb88 := NB1459_1503.out
         have hnc88 := NB1503_1459.out
         obtain ⟨hcz89_0, hcz89_1, hcz89_2, hfz89_0, hfz89_1, hfz89_2⟩ := cf3 BK1459
         go_wp2_with (first | ((with_reducible refine gate_callee (f := 46) rfl ?_); refine gL (some 65) rfl rfl Try.func46 (by kernel_rfl) rfl #[.agg #[.slice Ao9 t1450.length co9, .slice Ao11 t1453.length co11, .slice Ao12 t1456.length co12], .int .i64 x11_2] rfl ?_; (with_reducible refine (impl_DistanceOf.calls k2 _ _ t1450 _ _ t1453 _ _ t1456 x11_2 t1504 false _ ?side1 ?side2 ?side3 ?side4 ?side5 ?side6 A76.out).mono ?_); (case side1 => exact cl ((Kd.R_reads' HO_1460000.out).2.2)); (case side2 => exact sc HO_1460000); (case side3 => exact cl ((Kd.R_reads' HO_1460001.out).2.2)); (case side4 => exact sc HO_1460001); (case side5 => exact cl ((Kd.R_reads' HO_1460002.out).2.2)); (case side6 => exact sc HO_1460002); rintro e w90 ⟨rfl, hb⟩; refine ⟨_, rfl, ?_⟩; replace HO_1460000 := rb HO_1460000 hb; replace HO_1460001 := rb HO_1460001 hb; replace HO_1460002 := rb HO_1460002 hb; replace HO_1474000 := rb HO_1474000 hb; replace HO_1474001 := rb HO_1474001 hb; replace HO_1474002 := rb HO_1474002 hb; replace HO_1474003 := rb HO_1474003 hb; replace HO_1504000 := rb HO_1504000 hb; replace HO_1504001 := rb HO_1504001 hb; replace HO_1504002 := rb HO_1504002 hb; replace HO_1504003 := rb HO_1504003 hb; replace BK1459 := bb BK1459 hb; replace BK1473 := bb BK1473 hb; replace BK1503 := bb BK1503 hb; replace HB := am (below_step (bs3 GE1459.out GE1473.out GE1503.out HB.out) hb); (try clear hb)))
         go_roundg k2
         case measure => have := HJ5.out; have := HK2.out; omega
         case rel => exact ⟨(x10_2), (wrap64 (x11_2 + 1)), (by first | rfl | (simp; done) | (simp [*]; done)), (by first | rfl | (simp; done) | (simp [*]; done)), H', ⟨by have := HJ5.out; have := HK2.out; omega⟩, ⟨rl HO_1460000.out⟩, ⟨rl HO_1460001.out⟩, ⟨rl HO_1460002.out⟩, ⟨rl HO_1474000.out⟩, ⟨rl HO_1474001.out⟩, ⟨rl HO_1474002.out⟩, ⟨rl HO_1474003.out⟩, ⟨rl HO_1504000.out⟩, ⟨rl HO_1504001.out⟩, ⟨rl HO_1504002.out⟩, ⟨rl HO_1504003.out⟩, ⟨kl BK1459.out⟩, ⟨kl BK1473.out⟩, ⟨kl BK1503.out⟩, ⟨by exact bs3 GE1459.out GE1473.out GE1503.out HB.out⟩⟩
       ·rw [if_neg c75] at H
        have c75b0 : decide (x11_2 < (t1450.length : Int)) = false := decide_eq_false c75
        clear c75
        by_cases c91 : t1502 = true
        ·subst c91
         have H1 : ((impl_CountColor.f k2 t1490 t1493 t1496 t1499 1).bind fun t1506 => (if t1506 = x10_2 then ((impl_CountColor.f k2 t1460 t1463 t1466 t1469 0).bind fun t1507 => (some (t1507 == (t1450.length : Int)))) else (none))) = some r := by rw [if_pos rfl] at H; exact H
         clear H
         have H := H1
         clear H1
         replace H := Option.bind_eq_some_iff.mp H
         obtain ⟨t1506, A920, H⟩ := H
         replace H : (if t1506 = x10_2 then ((impl_CountColor.f k2 t1460 t1463 t1466 t1469 0).bind fun t1507 => (some (t1507 == (t1450.length : Int)))) else (none)) = some r := H
         have A92 := am A920
         clear A920
         by_cases c93 : t1506 = x10_2
         ·rw [if_pos c93] at H
          have c93b0 : (t1506 == x10_2) = true := beq_iff_eq.mpr c93
          have c93b1 : (t1506 != x10_2) = false := bne_eq_false_iff_eq.mpr c93
          clear c93
          replace H := Option.bind_eq_some_iff.mp H
          obtain ⟨t1507, A940, H⟩ := H
          replace H : (some (t1507 == (t1450.length : Int))) = some r := H
          have A94 := am A940
          clear A940
          obtain rfl := Option.some.inj H
          have hnb95 := NB1459_1473.out
          have hnc95 := NB1473_1459.out
          have hnb96 := NB1459_1503.out
          have hnc96 := NB1503_1459.out
          obtain ⟨hcz97_0, hcz97_1, hcz97_2, hfz97_0, hfz97_1, hfz97_2⟩ := cf3 BK1459
          try go_wp2
          replace HO_1460000 := am (Kd.R_drew HO_1460000.out)
          replace HO_1460001 := am (Kd.R_drew HO_1460001.out)
          replace HO_1460002 := am (Kd.R_drew HO_1460002.out)
          replace HO_1474000 := am (Kd.R_drew HO_1474000.out)
          replace HO_1474001 := am (Kd.R_drew HO_1474001.out)
          replace HO_1474002 := am (Kd.R_drew HO_1474002.out)
          replace HO_1474003 := am (Kd.R_drew HO_1474003.out)
          replace HO_1504000 := am (Kd.R_drew HO_1504000.out)
          replace HO_1504001 := am (Kd.R_drew HO_1504001.out)
          replace HO_1504002 := am (Kd.R_drew HO_1504002.out)
          replace HO_1504003 := am (Kd.R_drew HO_1504003.out)
          replace BK1459 := am (blk_drew BK1459.out)
          replace BK1473 := am (blk_drew BK1473.out)
          replace BK1503 := am (blk_drew BK1503.out)
          replace HB := am (below_drew1 HB.out)
          refine start_ (n := 16) (S := fun w' => w'.cell? ⟨gb1503, 0, none⟩ = some (.slice Ao67 t1490.length co67) ∧ w'.cell? ⟨gb1503, 1, none⟩ = some (.slice Ao72 t1493.length co72) ∧ w'.cell? ⟨gb1503, 2, none⟩ = some (.slice Ao73 t1496.length co73) ∧ w'.cell? ⟨gb1503, 3, none⟩ = some (.slice Ao74 t1499.length co74) ∧ w'.cell? ⟨gb1473, 0, none⟩ = some (.slice Ao15 t1460.length co15) ∧ w'.cell? ⟨gb1473, 1, none⟩ = some (.slice Ao18 t1463.length co18) ∧ w'.cell? ⟨gb1473, 2, none⟩ = some (.slice Ao19 t1466.length co19) ∧ w'.cell? ⟨gb1473, 3, none⟩ = some (.slice Ao20 t1469.length co20) ∧ w'.cell? ⟨gb1459, 0, none⟩ = some (.slice Ao9 t1450.length co9) ∧ w'.cell? ⟨gb1459, 1, none⟩ = some (.slice Ao11 t1453.length co11) ∧ w'.cell? ⟨gb1459, 2, none⟩ = some (.slice Ao12 t1456.length co12)) (ds := []) #[false, false, false, false, false, false, false, false, false, false, false, false, false, false, false, false] (by kernel_rfl) rfl rfl ⟨(blk_cell BK1503.out 0).trans rfl, (blk_cell BK1503.out 1).trans rfl, (blk_cell BK1503.out 2).trans rfl, (blk_cell BK1503.out 3).trans rfl, (blk_cell BK1473.out 0).trans rfl, (blk_cell BK1473.out 1).trans rfl, (blk_cell BK1473.out 2).trans rfl, (blk_cell BK1473.out 3).trans rfl, (blk_cell BK1459.out 0).trans rfl, (blk_cell BK1459.out 1).trans rfl, (blk_cell BK1459.out 2).trans rfl⟩ (fun hHeld => ?_); refine with_tabW laws_FnRootsGray.tab16 laws_FnRootsGray.bits16 (fun HT_ HW_ => ?_)
          generalize wr.drew = w98 at HO_1460000 HO_1460001 HO_1460002 HO_1474000 HO_1474001 HO_1474002 HO_1474003 HO_1504000 HO_1504001 HO_1504002 HO_1504003 BK1459 BK1473 BK1503 HB hHeld ⊢
          refine pure_ (i := 0) (N := some 75) (v := ?_) (a' := ?_) #[true, false, false, false, false, false, false, false, false, false, false, false, false, false, false, false] rfl rfl (any_of HT_.out (by kernel_rfl)) (fun _ _ _ h => h) (Or.inl ⟨by rfl, ?_⟩) ?_ ?_
          rotate_left
          ·intro w'
           go_simp
           with_reducible rfl
          rotate_left
          ·simp only [Act.put, List.setIfInBounds_toArray, List.set_cons_zero, List.set_cons_succ, i64_w, i32_w]
           rfl
          refine pure_ (i := 1) (N := some 76) (v := ?_) (a' := ?_) #[true, true, false, false, false, false, false, false, false, false, false, false, false, false, false, false] rfl rfl (any_of HT_.out (by kernel_rfl)) (fun _ _ _ h => h) (Or.inl ⟨by rfl, ?_⟩) ?_ ?_
          rotate_left
          ·intro w'
           go_simp
           with_reducible rfl
          rotate_left
          ·simp only [Act.put, List.setIfInBounds_toArray, List.set_cons_zero, List.set_cons_succ, i64_w, i32_w]
           rfl
          refine pure_ (i := 4) (N := some 79) (v := ?_) (a' := ?_) #[true, true, false, false, true, false, false, false, false, false, false, false, false, false, false, false] rfl rfl (any_of HT_.out (by kernel_rfl)) (fun _ _ _ h => h) (Or.inl ⟨by rfl, ?_⟩) ?_ ?_
          rotate_left
          ·intro w'
           go_simp
           with_reducible rfl
          rotate_left
          ·simp only [Act.put, List.setIfInBounds_toArray, List.set_cons_zero, List.set_cons_succ, i64_w, i32_w]
           rfl
          refine take_ (i := 2) (N := some 77) (v := ?_) (a' := ?_) #[true, true, true, false, true, false, false, false, false, false, false, false, false, false, false, false] rfl rfl (take_ofW HT_.out HW_.out (by kernel_rfl)) (fun _ _ _ h => h) (Or.inl ⟨by rfl, ?_⟩) hHeld ?_ ?_
          rotate_left
          ·rintro w' ⟨s0, s1, s2, s3, s4, s5, s6, s7, s8, s9, s10⟩
           go_simp
           with_reducible rfl
          rotate_left
          ·simp only [Act.put, List.setIfInBounds_toArray, List.set_cons_zero, List.set_cons_succ, i64_w, i32_w]
           rfl
          refine one_ (i := 3) (N := some 78) #[true, true, true, true, true, false, false, false, false, false, false, false, false, false, false, false] rfl rfl (one_of HT_.out (by kernel_rfl)) (by decide) (fun K hK => ?_)
          refine goes_ Try.func27 (by kernel_rfl) rfl #[.agg #[.slice Ao67 t1490.length co67, .slice Ao72 t1493.length co72, .slice Ao73 t1496.length co73, .slice Ao74 t1499.length co74], .int .i64 1] (by rfl) rfl rfl (by (try simp only [List.map_toArray, List.map_cons, List.map_nil]); first | done | rfl | (simp only [List.length_drop, List.length_take]; rfl)) ?_
          with_reducible refine (impl_CountColor.calls k2 _ _ t1490 _ _ t1493 _ _ t1496 _ _ t1499 1 t1506 _ ?side1 ?side2 ?side3 ?side4 ?side5 ?side6 ?side7 ?side8 A92.out).mono ?_
          (case side1 => exact cl ((Kd.R_reads' HO_1504000.out).2.2))
          (case side2 => exact sc HO_1504000)
          (case side3 => exact cl ((Kd.R_reads' HO_1504001.out).2.2))
          (case side4 => exact sc HO_1504001)
          (case side5 => exact cl ((Kd.R_reads' HO_1504002.out).2.2))
          (case side6 => exact sc HO_1504002)
          (case side7 => exact cl ((Kd.R_reads' HO_1504003.out).2.2))
          (case side8 => exact sc HO_1504003)
          rintro e w99 ⟨rfl, hb⟩
          refine ⟨_, rfl, ?_⟩
          replace HO_1460000 := rb HO_1460000 hb
          replace HO_1460001 := rb HO_1460001 hb
          replace HO_1460002 := rb HO_1460002 hb
          replace HO_1474000 := rb HO_1474000 hb
          replace HO_1474001 := rb HO_1474001 hb
          replace HO_1474002 := rb HO_1474002 hb
          replace HO_1474003 := rb HO_1474003 hb
          replace HO_1504000 := rb HO_1504000 hb
          replace HO_1504001 := rb HO_1504001 hb
          replace HO_1504002 := rb HO_1504002 hb
          replace HO_1504003 := rb HO_1504003 hb
          replace BK1459 := bb BK1459 hb
          replace BK1473 := bb BK1473 hb
          replace BK1503 := bb BK1503 hb
          replace HB := am (below_step (bs3 GE1459.out GE1473.out GE1503.out HB.out) hb)
          (try clear hb)
          refine hK.out _ _ ⟨(blk_cell BK1503.out 0).trans rfl, (blk_cell BK1503.out 1).trans rfl, (blk_cell BK1503.out 2).trans rfl, (blk_cell BK1503.out 3).trans rfl, (blk_cell BK1473.out 0).trans rfl, (blk_cell BK1473.out 1).trans rfl, (blk_cell BK1473.out 2).trans rfl, (blk_cell BK1473.out 3).trans rfl, (blk_cell BK1459.out 0).trans rfl, (blk_cell BK1459.out 1).trans rfl, (blk_cell BK1459.out 2).trans rfl⟩ (fun hHeld => ?_)
          clear hK K
          refine norm_ (a' := ?_) ?_ ?_
          rotate_left
          ·show Act.put _ (some 78) _ = _
           simp only [Act.put, List.setIfInBounds_toArray, List.set_cons_zero, List.set_cons_succ, i64_w, i32_w]
           rfl
          refine pure_ (i := 5) (N := some 80) (v := ?_) (a' := ?_) #[true, true, true, true, true, true, false, false, false, false, false, false, false, false, false, false] rfl rfl (any_of HT_.out (by kernel_rfl)) (fun _ _ _ h => h) (Or.inl ⟨by rfl, ?_⟩) ?_ ?_
          rotate_left
          ·intro w'
           go_simp
           with_reducible rfl
          rotate_left
          ·simp only [Act.put, List.setIfInBounds_toArray, List.set_cons_zero, List.set_cons_succ, i64_w, i32_w]
           rfl
          refine pure_ (i := 6) (N := some 81) (v := ?_) (a' := ?_) #[true, true, true, true, true, true, true, false, false, false, false, false, false, false, false, false] rfl rfl (any_of HT_.out (by kernel_rfl)) (fun _ _ _ h => h) (Or.inl ⟨by rfl, ?_⟩) ?_ ?_
          rotate_left
          ·intro w'
           go_simp
           with_reducible rfl
          rotate_left
          ·simp only [Act.put, List.setIfInBounds_toArray, List.set_cons_zero, List.set_cons_succ, i64_w, i32_w]
           rfl
          refine pure_ (i := 7) (N := some 82) (v := ?_) (a' := ?_) #[true, true, true, true, true, true, true, true, false, false, false, false, false, false, false, false] rfl rfl (any_of HT_.out (by kernel_rfl)) (fun _ _ _ h => h) (Or.inl ⟨by rfl, ?_⟩) ?_ ?_
          rotate_left
          ·intro w'
           go_simp
           with_reducible rfl
          rotate_left
          ·simp only [Act.put, List.setIfInBounds_toArray, List.set_cons_zero, List.set_cons_succ, i64_w, i32_w]
           rfl
          refine pure_ (i := 10) (N := some 85) (v := ?_) (a' := ?_) #[true, true, true, true, true, true, true, true, false, false, true, false, false, false, false, false] rfl rfl (any_of HT_.out (by kernel_rfl)) (fun _ _ _ h => h) (Or.inl ⟨by rfl, ?_⟩) ?_ ?_
          rotate_left
          ·intro w'
           go_simp
           with_reducible rfl
          rotate_left
          ·simp only [Act.put, List.setIfInBounds_toArray, List.set_cons_zero, List.set_cons_succ, i64_w, i32_w]
           rfl
          refine take_ (i := 8) (N := some 83) (v := ?_) (a' := ?_) #[true, true, true, true, true, true, true, true, true, false, true, false, false, false, false, false] rfl rfl (take_ofW HT_.out HW_.out (by kernel_rfl)) (fun _ _ _ h => h) (Or.inl ⟨by rfl, ?_⟩) hHeld ?_ ?_
          rotate_left
          ·rintro w' ⟨s0, s1, s2, s3, s4, s5, s6, s7, s8, s9, s10⟩
           go_simp
           with_reducible rfl
          rotate_left
          ·simp only [Act.put, List.setIfInBounds_toArray, List.set_cons_zero, List.set_cons_succ, i64_w, i32_w]
           rfl
          refine take_ (i := 11) (N := some 86) (v := ?_) (a' := ?_) #[true, true, true, true, true, true, true, true, true, false, true, true, false, false, false, false] rfl rfl (take_ofW HT_.out HW_.out (by kernel_rfl)) (fun _ _ _ h => h) (Or.inl ⟨by rfl, ?_⟩) hHeld ?_ ?_
          rotate_left
          ·rintro w' ⟨s0, s1, s2, s3, s4, s5, s6, s7, s8, s9, s10⟩
           go_simp
           with_reducible rfl
          rotate_left
          ·simp only [Act.put, List.setIfInBounds_toArray, List.set_cons_zero, List.set_cons_succ, i64_w, i32_w]
           rfl
          refine pure_ (i := 12) (N := some 87) (v := ?_) (a' := ?_) #[true, true, true, true, true, true, true, true, true, false, true, true, true, false, false, false] rfl rfl (any_of HT_.out (by kernel_rfl)) (fun _ _ _ h => h) (Or.inl ⟨by rfl, ?_⟩) ?_ ?_
          rotate_left
          ·intro w'
           go_simp
           with_reducible rfl
          rotate_left
          ·simp only [Act.put, List.setIfInBounds_toArray, List.set_cons_zero, List.set_cons_succ, i64_w, i32_w]
           rfl
          refine one_ (i := 9) (N := some 84) #[true, true, true, true, true, true, true, true, true, true, true, true, true, false, false, false] rfl rfl (one_of HT_.out (by kernel_rfl)) (by decide) (fun K hK => ?_)
          refine goes_ Try.func27 (by kernel_rfl) rfl #[.agg #[.slice Ao15 t1460.length co15, .slice Ao18 t1463.length co18, .slice Ao19 t1466.length co19, .slice Ao20 t1469.length co20], .int .i64 0] (by rfl) rfl rfl (by (try simp only [List.map_toArray, List.map_cons, List.map_nil]); first | done | rfl | (simp only [List.length_drop, List.length_take]; rfl)) ?_
          with_reducible refine (impl_CountColor.calls k2 _ _ t1460 _ _ t1463 _ _ t1466 _ _ t1469 0 t1507 _ ?side1 ?side2 ?side3 ?side4 ?side5 ?side6 ?side7 ?side8 A94.out).mono ?_
          (case side1 => exact cl ((Kd.R_reads' HO_1474000.out).2.2))
          (case side2 => exact sc HO_1474000)
          (case side3 => exact cl ((Kd.R_reads' HO_1474001.out).2.2))
          (case side4 => exact sc HO_1474001)
          (case side5 => exact cl ((Kd.R_reads' HO_1474002.out).2.2))
          (case side6 => exact sc HO_1474002)
          (case side7 => exact cl ((Kd.R_reads' HO_1474003.out).2.2))
          (case side8 => exact sc HO_1474003)
          rintro e w100 ⟨rfl, hb⟩
          refine ⟨_, rfl, ?_⟩
          replace HO_1460000 := rb HO_1460000 hb
          replace HO_1460001 := rb HO_1460001 hb
          replace HO_1460002 := rb HO_1460002 hb
          replace HO_1474000 := rb HO_1474000 hb
          replace HO_1474001 := rb HO_1474001 hb
          replace HO_1474002 := rb HO_1474002 hb
          replace HO_1474003 := rb HO_1474003 hb
          replace HO_1504000 := rb HO_1504000 hb
          replace HO_1504001 := rb HO_1504001 hb
          replace HO_1504002 := rb HO_1504002 hb
          replace HO_1504003 := rb HO_1504003 hb
          replace BK1459 := bb BK1459 hb
          replace BK1473 := bb BK1473 hb
          replace BK1503 := bb BK1503 hb
          replace HB := am (below_step (bs3 GE1459.out GE1473.out GE1503.out HB.out) hb)
          (try clear hb)
          refine hK.out _ _ ⟨(blk_cell BK1503.out 0).trans rfl, (blk_cell BK1503.out 1).trans rfl, (blk_cell BK1503.out 2).trans rfl, (blk_cell BK1503.out 3).trans rfl, (blk_cell BK1473.out 0).trans rfl, (blk_cell BK1473.out 1).trans rfl, (blk_cell BK1473.out 2).trans rfl, (blk_cell BK1473.out 3).trans rfl, (blk_cell BK1459.out 0).trans rfl, (blk_cell BK1459.out 1).trans rfl, (blk_cell BK1459.out 2).trans rfl⟩ (fun hHeld => ?_)
          clear hK K
          refine norm_ (a' := ?_) ?_ ?_
          rotate_left
          ·show Act.put _ (some 84) _ = _
           simp only [Act.put, List.setIfInBounds_toArray, List.set_cons_zero, List.set_cons_succ, i64_w, i32_w]
           rfl
          refine pure_ (i := 13) (N := some 88) (v := ?_) (a' := ?_) #[true, true, true, true, true, true, true, true, true, true, true, true, true, true, false, false] rfl rfl (any_of HT_.out (by kernel_rfl)) (fun _ _ _ h => h) (Or.inl ⟨by rfl, ?_⟩) ?_ ?_
          rotate_left
          ·intro w'
           go_simp
           with_reducible rfl
          rotate_left
          ·simp only [Act.put, List.setIfInBounds_toArray, List.set_cons_zero, List.set_cons_succ, i64_w, i32_w]
           rfl
          refine pure_ (i := 14) (N := some 89) (v := ?_) (a' := ?_) #[true, true, true, true, true, true, true, true, true, true, true, true, true, true, true, false] rfl rfl (any_of HT_.out (by kernel_rfl)) (fun _ _ _ h => h) (Or.inl ⟨by rfl, ?_⟩) ?_ ?_
          rotate_left
          ·intro w'
           go_simp
           with_reducible rfl
          rotate_left
          ·simp only [Act.put, List.setIfInBounds_toArray, List.set_cons_zero, List.set_cons_succ, i64_w, i32_w]
           rfl
          refine pure_ (i := 15) (N := some 2) (v := ?_) (a' := ?_) #[true, true, true, true, true, true, true, true, true, true, true, true, true, true, true, true] rfl rfl (any_of HT_.out (by kernel_rfl)) (fun _ _ _ h => h) (Or.inl ⟨by rfl, ?_⟩) ?_ ?_
          rotate_left
          ·intro w'
           go_simp
           with_reducible rfl
          rotate_left
          ·simp only [Act.put, List.setIfInBounds_toArray, List.set_cons_zero, List.set_cons_succ, i64_w, i32_w]
           rfl
          refine done_ (done_of HT_.out (by kernel_rfl)) ?_
          try go_wp2
          go_ret
          exact ⟨by first | rfl | (simp [errW_none, errW_some] <;> rfl) | (simp [*, errW_none, errW_some] <;> rfl), by exact bs3 GE1459.out GE1473.out GE1503.out HB.out⟩
         ·rw [if_neg c93] at H
          have c93b0 : (t1506 == x10_2) = false := beq_eq_false_iff_ne.mpr c93
          have c93b1 : (t1506 != x10_2) = true := bne_iff_ne.mpr c93
          exact absurd H (by simp)
        ·replace c91 := Bool.eq_false_iff.mpr c91
         subst c91
         have H1 : (none) = some r := by rw [if_neg (show ¬ (false = true) by decide)] at H; exact H
         clear H
         have H := H1
         clear H1
         exact absurd H (by simp)

/-- THE ONE PURE STATEMENT of laws_FnRootsGray: yours. -/
def laws_FnRootsGray.Pure : Prop := ∀ (l0 : List Int), l0.length ≤ maxLen → l0.length * 1 ≤ 140737488351232 → (∀ x ∈ l0, (Lit.int .u8 x).wf = true) → ∃ k, laws_FnRootsGray.f k l0 = some true
theorem laws_FnRootsGray.walk (P : laws_FnRootsGray.Pure) (a0 : Option Addr) (len0 cap0 : Nat) (z0 : List Int) (w : World) (w0 : (a0 = none ∧ len0 = 0 ∧ cap0 = 0 ∧ z0 = []) ∨ ∃ x, a0 = some x ∧ len0 ≤ cap0 ∧ cap0 ≤ maxLen ∧ z0.length = cap0 ∧ (∀ i, i < z0.length → w.cell? (x.add i) = some (.int .u8 (z0.getD i 0))) ∧ ∀ n ∈ z0, (Lit.int .u8 n).wf = true) (y0 : len0 * 1 ≤ 140737488351232) :
  Calls Try.prog 14 #[.slice a0 len0 cap0] w fun e w' => e = .returned (.bool true) ∧ Below w.heap.size w w' := by
 obtain ⟨l0, rfl, hr0, hm0, hw0, hc0⟩ := ReadsInt.ofRowC w0
 obtain ⟨k, h⟩ := P l0 hm0 y0 hw0
 refine (laws_FnRootsGray.calls k _ _ l0 true w (Kd.C_of_reads (d := (0 : Int)) (h1 := fun _ => rfl) hr0) hc0 h).mono ?_
 rintro e w' ⟨rfl, hd⟩
 exact ⟨rfl, hd⟩

end Go.Proofs.Ytkbaggfkidalfaa.A
