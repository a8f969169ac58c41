/- Contracts of functions of the given program (CLawsFnExactShadeCell). No conditions beyond those stated. -/
import Derived.Test.YtkbaggfkidalfaaA0
import Derived.Test.YtkbaggfkidalfaaAImplShadeCell
import Derived.Test.YtkbaggfkidalfaaALawsEqColored
import Derived.Test.YtkbaggfkidalfaaALawsHeldColored
import Derived.Test.YtkbaggfkidalfaaALawsMarkColored
import Derived.Test.YtkbaggfkidalfaaALawsSzColored
import Derived.Test.YtkbaggfkidalfaaALawsToColored
import Derived.Test.YtkbaggfkidalfaaASpecShadeCell
import Derived.Test.YtkbaggfkidalfaaA0
namespace Go.Proofs.Ytkbaggfkidalfaa.A
open Go.RowKit Go.Proofs.YtkbaggfkidalfaaW.PrintWords Go.Proofs.YtkbaggfkidalfaaW.PrintLast Go.Proofs.YtkbaggfkidalfaaW.PrintMore
attribute [local go_sem] max2_int min2_int max_two min_two max_three min_three max_four min_four   -- for this text's walks alone
set_option linter.unusedVariables false
set_option linter.unusedSimpArgs false

/-! ### laws_FnExactShadeCell -/
mutual
def laws_FnExactShadeCell.j0 : Nat → Int → Bool → Bool → Bool → List Int → List Int → List Int → List Int → List Int → List Int → List Int → List Int → List Int → List Int → List Int → List Int → List Int → List Int → List Int → List Int → Option (Bool)
 | 0, _, _, _, _, _, _, _, _, _, _, _, _, _, _, _, _, _, _, _, _ => none
 | k + 1, x1, x7, x10, x44, x307000, x307001, x307002, x307003, x334000, x334001, x334002, x334003, x347000, x347001, x347002, x347003, x361000, x361001, x361002, x361003 => if x44 = true then (none) else ((laws_toColored.f k x307000 x307001 x307002 x307003).bind fun bt362 => ((laws_eqColored.f k x347000 x347001 x347002 x347003 bt362.1 bt362.2.1 bt362.2.2.1 bt362.2.2.2).bind fun t374 => (if t374 = true then ((laws_markColored.f k x347000 x347001 x347002 x347003 1).bind fun bt375 => (if bt375.1 < 0 then (laws_FnExactShadeCell.j1 k x1 x7 true x307000 x307001 x307002 x307003 x334000 x334001 x334002 x334003 x361000 x361001 x361002 x361003) else ((laws_eqColored.f k x361000 x361001 x361002 x361003 x334000 x334001 x334002 x334003).bind fun t380 => (if t380 = true then (laws_FnExactShadeCell.j1 k x1 x7 (x10 != x7) x307000 x307001 x307002 x307003 x334000 x334001 x334002 x334003 x361000 x361001 x361002 x361003) else (laws_FnExactShadeCell.j1 k x1 x7 true x307000 x307001 x307002 x307003 x334000 x334001 x334002 x334003 x361000 x361001 x361002 x361003))))) else (none))))
def laws_FnExactShadeCell.j1 : Nat → Int → Bool → Bool → List Int → List Int → List Int → List Int → List Int → List Int → List Int → List Int → List Int → List Int → List Int → List Int → Option (Bool)
 | 0, _, _, _, _, _, _, _, _, _, _, _, _, _, _, _ => none
 | k + 1, x1, x7, x65, x307000, x307001, x307002, x307003, x334000, x334001, x334002, x334003, x361000, x361001, x361002, x361003 => if x65 = true then (none) else ((laws_markColored.f k x361000 x361001 x361002 x361003 1).bind fun bt381 => ((laws_heldColored.f k bt381.2.1 bt381.2.2.1 bt381.2.2.2.1 bt381.2.2.2.2 1).bind fun t386 => (if t386 < 0 then (none) else (if t386 = bt381.1 then ((laws_toColored.f k x307000 x307001 x307002 x307003).bind fun bt387 => ((impl_ShadeCell.f k bt387.1 bt387.2.1 bt387.2.2.1 bt387.2.2.2 x1).bind fun bt399 => ((laws_eqColored.f k bt399.1 bt399.2.1 bt399.2.2.1 bt399.2.2.2.1 x334000 x334001 x334002 x334003).bind fun t413 => (if t413 = true then (laws_FnExactShadeCell.j2 k bt381.1 (bt399.2.2.2.2 != x7) bt381.2.1 bt381.2.2.1 bt381.2.2.2.1 bt381.2.2.2.2) else (laws_FnExactShadeCell.j2 k bt381.1 true bt381.2.1 bt381.2.2.1 bt381.2.2.2.1 bt381.2.2.2.2))))) else (none)))))
def laws_FnExactShadeCell.j2 : Nat → Int → Bool → List Int → List Int → List Int → List Int → Option (Bool)
 | 0, _, _, _, _, _, _ => none
 | k + 1, x12, x92, x361000, x361001, x361002, x361003 => if x92 = true then (none) else ((laws_heldColored.f k x361000 x361001 x361002 x361003 1).bind fun t414 => (if t414 < 0 then (none) else (if t414 = x12 then (some true) else (none))))
end
def laws_FnExactShadeCell.f (k : Nat) (l0_0 : List Int) (l0_1 : List Int) (l0_2 : List Int) (l0_3 : List Int) (a1 : Int) : Option (Bool) := (laws_szColored.f l0_0 l0_1 l0_2 l0_3 1048576).bind fun t307 => (if t307 < 0 then (some true) else ((laws_toColored.f k l0_0 l0_1 l0_2 l0_3).bind fun bt308 => ((spec_ShadeCell.f k bt308.1 bt308.2.1 bt308.2.2.1 bt308.2.2.2 a1).bind fun bt320 => ((laws_toColored.f k l0_0 l0_1 l0_2 l0_3).bind fun bt334 => ((impl_ShadeCell.f k bt334.1 bt334.2.1 bt334.2.2.1 bt334.2.2.2 a1).bind fun bt347 => ((laws_eqColored.f k bt347.1 bt347.2.1 bt347.2.2.1 bt347.2.2.2.1 bt320.1 bt320.2.1 bt320.2.2.1 bt320.2.2.2.1).bind fun t361 => (if t361 = true then (laws_FnExactShadeCell.j0 k a1 bt320.2.2.2.2 bt347.2.2.2.2 (bt347.2.2.2.2 != bt320.2.2.2.2) l0_0 l0_1 l0_2 l0_3 bt320.1 bt320.2.1 bt320.2.2.1 bt320.2.2.2.1 bt334.1 bt334.2.1 bt334.2.2.1 bt334.2.2.2 bt347.1 bt347.2.1 bt347.2.2.1 bt347.2.2.2.1) else (laws_FnExactShadeCell.j0 k a1 bt320.2.2.2.2 bt347.2.2.2.2 true l0_0 l0_1 l0_2 l0_3 bt320.1 bt320.2.1 bt320.2.2.1 bt320.2.2.2.1 bt334.1 bt334.2.1 bt334.2.2.1 bt334.2.2.2 bt347.1 bt347.2.1 bt347.2.2.1 bt347.2.2.2.1))))))))
theorem laws_FnExactShadeCell.mono_l : ∀ k, (∀ y0 y1 y2 y3 y4 y5 y6 y7 y8 y9 y10 y11 y12 y13 y14 y15 y16 y17 y18 y19, LeO (laws_FnExactShadeCell.j0 k y0 y1 y2 y3 y4 y5 y6 y7 y8 y9 y10 y11 y12 y13 y14 y15 y16 y17 y18 y19) (laws_FnExactShadeCell.j0 (k + 1) y0 y1 y2 y3 y4 y5 y6 y7 y8 y9 y10 y11 y12 y13 y14 y15 y16 y17 y18 y19)) ∧ (∀ y0 y1 y2 y3 y4 y5 y6 y7 y8 y9 y10 y11 y12 y13 y14, LeO (laws_FnExactShadeCell.j1 k y0 y1 y2 y3 y4 y5 y6 y7 y8 y9 y10 y11 y12 y13 y14) (laws_FnExactShadeCell.j1 (k + 1) y0 y1 y2 y3 y4 y5 y6 y7 y8 y9 y10 y11 y12 y13 y14)) ∧ (∀ y0 y1 y2 y3 y4 y5, LeO (laws_FnExactShadeCell.j2 k y0 y1 y2 y3 y4 y5) (laws_FnExactShadeCell.j2 (k + 1) y0 y1 y2 y3 y4 y5))
 | 0 => ⟨fun _ _ _ _ _ _ _ _ _ _ _ _ _ _ _ _ _ _ _ _ r h => by simp [laws_FnExactShadeCell.j0] at h, fun _ _ _ _ _ _ _ _ _ _ _ _ _ _ _ r h => by simp [laws_FnExactShadeCell.j1] at h, fun _ _ _ _ _ _ r h => by simp [laws_FnExactShadeCell.j2] at h⟩
 | k + 1 => by
  obtain ⟨ih0, ih1, ih2⟩ := laws_FnExactShadeCell.mono_l k
  refine ⟨?_, ?_, ?_⟩
  ·intro y0 y1 y2 y3 y4 y5 y6 y7 y8 y9 y10 y11 y12 y13 y14 y15 y16 y17 y18 y19
   unfold laws_FnExactShadeCell.j0
   repeat' first
   | (with_reducible exact ih0 _ _ _ _ _ _ _ _ _ _ _ _ _ _ _ _ _ _ _ _)
   | (with_reducible exact ih1 _ _ _ _ _ _ _ _ _ _ _ _ _ _ _)
   | (with_reducible exact ih2 _ _ _ _ _ _)
   | (with_reducible exact impl_ShadeCell.mono _ _ _ _ _ _)
   | (with_reducible exact laws_eqColored.mono _ _ _ _ _ _ _ _ _)
   | (with_reducible exact laws_heldColored.mono _ _ _ _ _ _)
   | (with_reducible exact laws_markColored.mono _ _ _ _ _ _)
   | (with_reducible exact laws_toColored.mono _ _ _ _ _)
   | (with_reducible exact spec_ShadeCell.mono _ _ _ _ _ _)
   | (with_reducible exact LeO.refl _)
   | (with_reducible exact LeO.none _)
   | (with_reducible refine LeO.ite ?_ ?_)
   | (with_reducible refine LeO.bind ?_ (fun _ => ?_))
   | exact ih0 _ _ _ _ _ _ _ _ _ _ _ _ _ _ _ _ _ _ _ _
   | exact ih1 _ _ _ _ _ _ _ _ _ _ _ _ _ _ _
   | exact ih2 _ _ _ _ _ _
   | exact impl_ShadeCell.mono _ _ _ _ _ _
   | exact laws_eqColored.mono _ _ _ _ _ _ _ _ _
   | exact laws_heldColored.mono _ _ _ _ _ _
   | exact laws_markColored.mono _ _ _ _ _ _
   | exact laws_toColored.mono _ _ _ _ _
   | exact spec_ShadeCell.mono _ _ _ _ _ _
   | exact LeO.none _
   | refine LeO.ite ?_ ?_
   | refine LeO.bind ?_ (fun _ => ?_)
  ·intro y0 y1 y2 y3 y4 y5 y6 y7 y8 y9 y10 y11 y12 y13 y14
   unfold laws_FnExactShadeCell.j1
   repeat' first
   | (with_reducible exact ih0 _ _ _ _ _ _ _ _ _ _ _ _ _ _ _ _ _ _ _ _)
   | (with_reducible exact ih1 _ _ _ _ _ _ _ _ _ _ _ _ _ _ _)
   | (with_reducible exact ih2 _ _ _ _ _ _)
   | (with_reducible exact impl_ShadeCell.mono _ _ _ _ _ _)
   | (with_reducible exact laws_eqColored.mono _ _ _ _ _ _ _ _ _)
   | (with_reducible exact laws_heldColored.mono _ _ _ _ _ _)
   | (with_reducible exact laws_markColored.mono _ _ _ _ _ _)
   | (with_reducible exact laws_toColored.mono _ _ _ _ _)
   | (with_reducible exact spec_ShadeCell.mono _ _ _ _ _ _)
   | (with_reducible exact LeO.refl _)
   | (with_reducible exact LeO.none _)
   | (with_reducible refine LeO.ite ?_ ?_)
   | (with_reducible refine LeO.bind ?_ (fun _ => ?_))
   | exact ih0 _ _ _ _ _ _ _ _ _ _ _ _ _ _ _ _ _ _ _ _
   | exact ih1 _ _ _ _ _ _ _ _ _ _ _ _ _ _ _
   | exact ih2 _ _ _ _ _ _
   | exact impl_ShadeCell.mono _ _ _ _ _ _
   | exact laws_eqColored.mono _ _ _ _ _ _ _ _ _
   | exact laws_heldColored.mono _ _ _ _ _ _
   | exact laws_markColored.mono _ _ _ _ _ _
   | exact laws_toColored.mono _ _ _ _ _
   | exact spec_ShadeCell.mono _ _ _ _ _ _
   | exact LeO.none _
   | refine LeO.ite ?_ ?_
   | refine LeO.bind ?_ (fun _ => ?_)
  ·intro y0 y1 y2 y3 y4 y5
   unfold laws_FnExactShadeCell.j2
   repeat' first
   | (with_reducible exact ih0 _ _ _ _ _ _ _ _ _ _ _ _ _ _ _ _ _ _ _ _)
   | (with_reducible exact ih1 _ _ _ _ _ _ _ _ _ _ _ _ _ _ _)
   | (with_reducible exact ih2 _ _ _ _ _ _)
   | (with_reducible exact impl_ShadeCell.mono _ _ _ _ _ _)
   | (with_reducible exact laws_eqColored.mono _ _ _ _ _ _ _ _ _)
   | (with_reducible exact laws_heldColored.mono _ _ _ _ _ _)
   | (with_reducible exact laws_markColored.mono _ _ _ _ _ _)
   | (with_reducible exact laws_toColored.mono _ _ _ _ _)
   | (with_reducible exact spec_ShadeCell.mono _ _ _ _ _ _)
   | (with_reducible exact LeO.refl _)
   | (with_reducible exact LeO.none _)
   | (with_reducible refine LeO.ite ?_ ?_)
   | (with_reducible refine LeO.bind ?_ (fun _ => ?_))
   | exact ih0 _ _ _ _ _ _ _ _ _ _ _ _ _ _ _ _ _ _ _ _
   | exact ih1 _ _ _ _ _ _ _ _ _ _ _ _ _ _ _
   | exact ih2 _ _ _ _ _ _
   | exact impl_ShadeCell.mono _ _ _ _ _ _
   | exact laws_eqColored.mono _ _ _ _ _ _ _ _ _
   | exact laws_heldColored.mono _ _ _ _ _ _
   | exact laws_markColored.mono _ _ _ _ _ _
   | exact laws_toColored.mono _ _ _ _ _
   | exact spec_ShadeCell.mono _ _ _ _ _ _
   | exact LeO.none _
   | refine LeO.ite ?_ ?_
   | refine LeO.bind ?_ (fun _ => ?_)
theorem laws_FnExactShadeCell.mono : ∀ a0 a1 a2 a3 a4 k, LeO (laws_FnExactShadeCell.f k a0 a1 a2 a3 a4) (laws_FnExactShadeCell.f (k + 1) a0 a1 a2 a3 a4) := by
 intro a0 a1 a2 a3 a4 k
 obtain ⟨ih0, ih1, ih2⟩ := laws_FnExactShadeCell.mono_l k
 unfold laws_FnExactShadeCell.f
 repeat' first
   | (with_reducible exact ih0 _ _ _ _ _ _ _ _ _ _ _ _ _ _ _ _ _ _ _ _)
   | (with_reducible exact ih1 _ _ _ _ _ _ _ _ _ _ _ _ _ _ _)
   | (with_reducible exact ih2 _ _ _ _ _ _)
   | (with_reducible exact impl_ShadeCell.mono _ _ _ _ _ _)
   | (with_reducible exact laws_eqColored.mono _ _ _ _ _ _ _ _ _)
   | (with_reducible exact laws_heldColored.mono _ _ _ _ _ _)
   | (with_reducible exact laws_markColored.mono _ _ _ _ _ _)
   | (with_reducible exact laws_toColored.mono _ _ _ _ _)
   | (with_reducible exact spec_ShadeCell.mono _ _ _ _ _ _)
   | (with_reducible exact LeO.refl _)
   | (with_reducible exact LeO.none _)
   | (with_reducible refine LeO.ite ?_ ?_)
   | (with_reducible refine LeO.bind ?_ (fun _ => ?_))
   | exact ih0 _ _ _ _ _ _ _ _ _ _ _ _ _ _ _ _ _ _ _ _
   | exact ih1 _ _ _ _ _ _ _ _ _ _ _ _ _ _ _
   | exact ih2 _ _ _ _ _ _
   | exact impl_ShadeCell.mono _ _ _ _ _ _
   | exact laws_eqColored.mono _ _ _ _ _ _ _ _ _
   | exact laws_heldColored.mono _ _ _ _ _ _
   | exact laws_markColored.mono _ _ _ _ _ _
   | exact laws_toColored.mono _ _ _ _ _
   | exact spec_ShadeCell.mono _ _ _ _ _ _
   | exact LeO.none _
   | refine LeO.ite ?_ ?_
   | refine LeO.bind ?_ (fun _ => ?_)
set_option maxHeartbeats 8000000 in
set_option maxRecDepth 100000 in
theorem laws_FnExactShadeCell.calls (k : Nat) (A0_0 : Option Addr) (c0_0 : Nat) (l0_0 : List Int) (A0_1 : Option Addr) (c0_1 : Nat) (l0_1 : List Int) (A0_2 : Option Addr) (c0_2 : Nat) (l0_2 : List Int) (A0_3 : Option Addr) (c0_3 : Nat) (l0_3 : List Int) (a1 : Int) (r : Bool) (w : World) (hr0_0 : Kd.C (Kd.int .i64) w A0_0 l0_0.length l0_0) (hc0_0 : l0_0.length ≤ c0_0) (hr0_1 : Kd.C (Kd.int .i64) w A0_1 l0_1.length l0_1) (hc0_1 : l0_1.length ≤ c0_1) (hr0_2 : Kd.C (Kd.int .i64) w A0_2 l0_2.length l0_2) (hc0_2 : l0_2.length ≤ c0_2) (hr0_3 : Kd.C (Kd.int .i64) w A0_3 l0_3.length l0_3) (hc0_3 : l0_3.length ≤ c0_3) (h : laws_FnExactShadeCell.f k l0_0 l0_1 l0_2 l0_3 a1 = some r) :
  Calls Try.prog 3 #[.agg #[.slice A0_0 l0_0.length c0_0, .slice A0_1 l0_1.length c0_1, .slice A0_2 l0_2.length c0_2, .slice A0_3 l0_3.length c0_3], .int .i64 a1] w fun e w' => e = .returned (.bool r) ∧ Below w.heap.size w w' := by
 have hu26 := Try.underlying26
 have hu30 := Try.underlying30
 have HR0_0 := am hr0_0
 have HC0_0 := am hc0_0
 clear hr0_0 hc0_0
 have HR0_1 := am hr0_1
 have HC0_1 := am hc0_1
 clear hr0_1 hc0_1
 have HR0_2 := am hr0_2
 have HC0_2 := am hc0_2
 clear hr0_2 hc0_2
 have HR0_3 := am hr0_3
 have HC0_3 := am hc0_3
 clear hr0_3 hc0_3
 have HB := am (Below.refl w.heap.size w)
 have H : ((laws_szColored.f l0_0 l0_1 l0_2 l0_3 1048576).bind fun t307 => (if t307 < 0 then (some true) else ((laws_toColored.f k l0_0 l0_1 l0_2 l0_3).bind fun bt308 => ((spec_ShadeCell.f k bt308.1 bt308.2.1 bt308.2.2.1 bt308.2.2.2 a1).bind fun bt320 => ((laws_toColored.f k l0_0 l0_1 l0_2 l0_3).bind fun bt334 => ((impl_ShadeCell.f k bt334.1 bt334.2.1 bt334.2.2.1 bt334.2.2.2 a1).bind fun bt347 => ((laws_eqColored.f k bt347.1 bt347.2.1 bt347.2.2.1 bt347.2.2.2.1 bt320.1 bt320.2.1 bt320.2.2.1 bt320.2.2.2.1).bind fun t361 => (if t361 = true then (laws_FnExactShadeCell.j0 k a1 bt320.2.2.2.2 bt347.2.2.2.2 (bt347.2.2.2.2 != bt320.2.2.2.2) l0_0 l0_1 l0_2 l0_3 bt320.1 bt320.2.1 bt320.2.2.1 bt320.2.2.2.1 bt334.1 bt334.2.1 bt334.2.2.1 bt334.2.2.2 bt347.1 bt347.2.1 bt347.2.2.1 bt347.2.2.2.1) else (laws_FnExactShadeCell.j0 k a1 bt320.2.2.2.2 bt347.2.2.2.2 true l0_0 l0_1 l0_2 l0_3 bt320.1 bt320.2.1 bt320.2.2.1 bt320.2.2.2.1 bt334.1 bt334.2.1 bt334.2.2.1 bt334.2.2.2 bt347.1 bt347.2.1 bt347.2.2.1 bt347.2.2.2.1))))))))) = some r := h
 clear h
 replace H := Option.bind_eq_some_iff.mp H
 obtain ⟨t307, A30, H⟩ := H
 replace H : (if t307 < 0 then (some true) else ((laws_toColored.f k l0_0 l0_1 l0_2 l0_3).bind fun bt308 => ((spec_ShadeCell.f k bt308.1 bt308.2.1 bt308.2.2.1 bt308.2.2.2 a1).bind fun bt320 => ((laws_toColored.f k l0_0 l0_1 l0_2 l0_3).bind fun bt334 => ((impl_ShadeCell.f k bt334.1 bt334.2.1 bt334.2.2.1 bt334.2.2.2 a1).bind fun bt347 => ((laws_eqColored.f k bt347.1 bt347.2.1 bt347.2.2.1 bt347.2.2.2.1 bt320.1 bt320.2.1 bt320.2.2.1 bt320.2.2.2.1).bind fun t361 => (if t361 = true then (laws_FnExactShadeCell.j0 k a1 bt320.2.2.2.2 bt347.2.2.2.2 (bt347.2.2.2.2 != bt320.2.2.2.2) l0_0 l0_1 l0_2 l0_3 bt320.1 bt320.2.1 bt320.2.2.1 bt320.2.2.2.1 bt334.1 bt334.2.1 bt334.2.2.1 bt334.2.2.2 bt347.1 bt347.2.1 bt347.2.2.1 bt347.2.2.2.1) else (laws_FnExactShadeCell.j0 k a1 bt320.2.2.2.2 bt347.2.2.2.2 true l0_0 l0_1 l0_2 l0_3 bt320.1 bt320.2.1 bt320.2.2.1 bt320.2.2.2.1 bt334.1 bt334.2.1 bt334.2.2.1 bt334.2.2.2 bt347.1 bt347.2.1 bt347.2.2.1 bt347.2.2.2.1)))))))) = some r := H
 have A3 := am A30
 clear A30
 by_cases c4 : t307 < 0
 ·rw [if_pos c4] at H
  have c4b0 : decide (t307 < 0) = true := decide_eq_true c4
  clear c4
  obtain rfl := Option.some.inj H
  go_enter Try.func3, Try.ntmps3
  go_wp2_with (first | ((with_reducible refine gate_dst (N := 2) rfl ?_); refine box_event ?hg (N := 2) ?hd (cs := #[.slice A0_0 l0_0.length c0_0, .slice A0_1 l0_1.length c0_1, .slice A0_2 l0_2.length c0_2, .slice A0_3 l0_3.length c0_3]) (t := 26) ?hr ?_; (case hd => rfl); (case hg => rfl); (case hr => first | (go_simp; done) | (go_simp; rfl)); intro gb306 hg w5 hbox hb; have BK306 := am (hbox); have GW306 := am ((by rw [hg]; exact (below_size (bl HB.out)) : w.heap.size ≤ gb306)); have GE306 := am ((by rw [hg]; exact (below_size (bl HB.out)) : w.heap.size ≤ gb306)); replace HB := am (below_step (bl HB.out) hb); clear hb hbox hg; have hcz6_0 : w5.cell? ⟨gb306, 0, none⟩ = some (.slice A0_0 l0_0.length c0_0) := (blk_cell BK306.out 0).trans rfl; have hcz6_1 : w5.cell? ⟨gb306, 1, none⟩ = some (.slice A0_1 l0_1.length c0_1) := (blk_cell BK306.out 1).trans rfl; have hcz6_2 : w5.cell? ⟨gb306, 2, none⟩ = some (.slice A0_2 l0_2.length c0_2) := (blk_cell BK306.out 2).trans rfl; have hcz6_3 : w5.cell? ⟨gb306, 3, none⟩ = some (.slice A0_3 l0_3.length c0_3) := (blk_cell BK306.out 3).trans rfl; have hfz6_0 := blk_frozen BK306.out 0; have hfz6_1 := blk_frozen BK306.out 1; have hfz6_2 := blk_frozen BK306.out 2; have hfz6_3 := blk_frozen BK306.out 3) | ((with_reducible refine gate_callee (f := 17) rfl ?_); refine goesL_ (some 18) rfl rfl Try.func17 (by kernel_rfl) rfl #[.agg #[.slice A0_0 l0_0.length c0_0, .slice A0_1 l0_1.length c0_1, .slice A0_2 l0_2.length c0_2, .slice A0_3 l0_3.length c0_3], .int .i64 1048576] rfl (by (try simp only [List.map_toArray, List.map_cons, List.map_nil]); first | done | rfl | (simp only [List.length_drop, List.length_take]; rfl)) ?_; (with_reducible refine (laws_szColored.calls _ _ l0_0 _ _ l0_1 _ _ l0_2 _ _ l0_3 1048576 t307 _ ?side1 ?side2 ?side3 ?side4 ?side5 ?side6 ?side7 ?side8 A3.out).mono ?_); (case side1 => exact cl (Kd.C_below HR0_0.out HB.out)); (case side2 => exact HC0_0.out); (case side3 => exact cl (Kd.C_below HR0_1.out HB.out)); (case side4 => exact HC0_1.out); (case side5 => exact cl (Kd.C_below HR0_2.out HB.out)); (case side6 => exact HC0_2.out); (case side7 => exact cl (Kd.C_below HR0_3.out HB.out)); (case side8 => exact HC0_3.out); rintro e w7 ⟨rfl, hb⟩; refine ⟨_, rfl, ?_⟩; replace BK306 := am (blk_below (g := gb306) (o := .cells #[.slice A0_0 l0_0.length c0_0, .slice A0_1 l0_1.length c0_1, .slice A0_2 l0_2.length c0_2, .slice A0_3 l0_3.length c0_3] 26 (0, 0)) (kl BK306.out) hb); replace HB := am (below_step (bs1 GE306.out HB.out) hb); (try clear hb); (try clear hb2); (try clear hk); (try clear hi)))
  go_ret
  exact ⟨by first | rfl | (simp [errW_none, errW_some] <;> rfl) | (simp [*, errW_none, errW_some] <;> rfl), by exact bs1 GE306.out HB.out⟩
 ·rw [if_neg c4] at H
  have c4b0 : decide (t307 < 0) = false := decide_eq_false c4
  clear c4
  replace H := Option.bind_eq_some_iff.mp H
  obtain ⟨⟨t308, t311, t314, t317⟩, A80, H⟩ := H
  replace H : ((spec_ShadeCell.f k t308 t311 t314 t317 a1).bind fun bt320 => ((laws_toColored.f k l0_0 l0_1 l0_2 l0_3).bind fun bt334 => ((impl_ShadeCell.f k bt334.1 bt334.2.1 bt334.2.2.1 bt334.2.2.2 a1).bind fun bt347 => ((laws_eqColored.f k bt347.1 bt347.2.1 bt347.2.2.1 bt347.2.2.2.1 bt320.1 bt320.2.1 bt320.2.2.1 bt320.2.2.2.1).bind fun t361 => (if t361 = true then (laws_FnExactShadeCell.j0 k a1 bt320.2.2.2.2 bt347.2.2.2.2 (bt347.2.2.2.2 != bt320.2.2.2.2) l0_0 l0_1 l0_2 l0_3 bt320.1 bt320.2.1 bt320.2.2.1 bt320.2.2.2.1 bt334.1 bt334.2.1 bt334.2.2.1 bt334.2.2.2 bt347.1 bt347.2.1 bt347.2.2.1 bt347.2.2.2.1) else (laws_FnExactShadeCell.j0 k a1 bt320.2.2.2.2 bt347.2.2.2.2 true l0_0 l0_1 l0_2 l0_3 bt320.1 bt320.2.1 bt320.2.2.1 bt320.2.2.2.1 bt334.1 bt334.2.1 bt334.2.2.1 bt334.2.2.2 bt347.1 bt347.2.1 bt347.2.2.1 bt347.2.2.2.1)))))) = some r := H
  have A8 := am A80
  clear A80
  replace H := Option.bind_eq_some_iff.mp H
  obtain ⟨⟨t320, t323, t326, t329, t332⟩, A90, H⟩ := H
  replace H : ((laws_toColored.f k l0_0 l0_1 l0_2 l0_3).bind fun bt334 => ((impl_ShadeCell.f k bt334.1 bt334.2.1 bt334.2.2.1 bt334.2.2.2 a1).bind fun bt347 => ((laws_eqColored.f k bt347.1 bt347.2.1 bt347.2.2.1 bt347.2.2.2.1 t320 t323 t326 t329).bind fun t361 => (if t361 = true then (laws_FnExactShadeCell.j0 k a1 t332 bt347.2.2.2.2 (bt347.2.2.2.2 != t332) l0_0 l0_1 l0_2 l0_3 t320 t323 t326 t329 bt334.1 bt334.2.1 bt334.2.2.1 bt334.2.2.2 bt347.1 bt347.2.1 bt347.2.2.1 bt347.2.2.2.1) else (laws_FnExactShadeCell.j0 k a1 t332 bt347.2.2.2.2 true l0_0 l0_1 l0_2 l0_3 t320 t323 t326 t329 bt334.1 bt334.2.1 bt334.2.2.1 bt334.2.2.2 bt347.1 bt347.2.1 bt347.2.2.1 bt347.2.2.2.1))))) = some r := H
  have A9 := am A90
  clear A90
  replace H := Option.bind_eq_some_iff.mp H
  obtain ⟨⟨t334, t337, t340, t343⟩, A100, H⟩ := H
  replace H : ((impl_ShadeCell.f k t334 t337 t340 t343 a1).bind fun bt347 => ((laws_eqColored.f k bt347.1 bt347.2.1 bt347.2.2.1 bt347.2.2.2.1 t320 t323 t326 t329).bind fun t361 => (if t361 = true then (laws_FnExactShadeCell.j0 k a1 t332 bt347.2.2.2.2 (bt347.2.2.2.2 != t332) l0_0 l0_1 l0_2 l0_3 t320 t323 t326 t329 t334 t337 t340 t343 bt347.1 bt347.2.1 bt347.2.2.1 bt347.2.2.2.1) else (laws_FnExactShadeCell.j0 k a1 t332 bt347.2.2.2.2 true l0_0 l0_1 l0_2 l0_3 t320 t323 t326 t329 t334 t337 t340 t343 bt347.1 bt347.2.1 bt347.2.2.1 bt347.2.2.2.1)))) = some r := H
  have A10 := am A100
  clear A100
  replace H := Option.bind_eq_some_iff.mp H
  obtain ⟨⟨t347, t350, t353, t356, t359⟩, A110, H⟩ := H
  replace H : ((laws_eqColored.f k t347 t350 t353 t356 t320 t323 t326 t329).bind fun t361 => (if t361 = true then (laws_FnExactShadeCell.j0 k a1 t332 t359 (t359 != t332) l0_0 l0_1 l0_2 l0_3 t320 t323 t326 t329 t334 t337 t340 t343 t347 t350 t353 t356) else (laws_FnExactShadeCell.j0 k a1 t332 t359 true l0_0 l0_1 l0_2 l0_3 t320 t323 t326 t329 t334 t337 t340 t343 t347 t350 t353 t356))) = some r := H
  have A11 := am A110
  clear A110
  have HC12 := am H
  clear H
  go_enter Try.func3, Try.ntmps3
  go_upto_region 8 with (first | ((with_reducible refine gate_dst (N := 2) rfl ?_); refine box_event ?hg (N := 2) ?hd (cs := #[.slice A0_0 l0_0.length c0_0, .slice A0_1 l0_1.length c0_1, .slice A0_2 l0_2.length c0_2, .slice A0_3 l0_3.length c0_3]) (t := 26) ?hr ?_; (case hd => rfl); (case hg => rfl); (case hr => first | (go_simp; done) | (go_simp; rfl)); intro gb306 hg w13 hbox hb; have BK306 := am (hbox); have GW306 := am ((by rw [hg]; exact (below_size (bl HB.out)) : w.heap.size ≤ gb306)); have GE306 := am ((by rw [hg]; exact (below_size (bl HB.out)) : w.heap.size ≤ gb306)); replace HB := am (below_step (bl HB.out) hb); clear hb hbox hg; have hcz14_0 : w13.cell? ⟨gb306, 0, none⟩ = some (.slice A0_0 l0_0.length c0_0) := (blk_cell BK306.out 0).trans rfl; have hcz14_1 : w13.cell? ⟨gb306, 1, none⟩ = some (.slice A0_1 l0_1.length c0_1) := (blk_cell BK306.out 1).trans rfl; have hcz14_2 : w13.cell? ⟨gb306, 2, none⟩ = some (.slice A0_2 l0_2.length c0_2) := (blk_cell BK306.out 2).trans rfl; have hcz14_3 : w13.cell? ⟨gb306, 3, none⟩ = some (.slice A0_3 l0_3.length c0_3) := (blk_cell BK306.out 3).trans rfl; have hfz14_0 := blk_frozen BK306.out 0; have hfz14_1 := blk_frozen BK306.out 1; have hfz14_2 := blk_frozen BK306.out 2; have hfz14_3 := blk_frozen BK306.out 3) | ((with_reducible refine gate_callee (f := 17) rfl ?_); refine goesL_ (some 18) rfl rfl Try.func17 (by kernel_rfl) rfl #[.agg #[.slice A0_0 l0_0.length c0_0, .slice A0_1 l0_1.length c0_1, .slice A0_2 l0_2.length c0_2, .slice A0_3 l0_3.length c0_3], .int .i64 1048576] rfl (by (try simp only [List.map_toArray, List.map_cons, List.map_nil]); first | done | rfl | (simp only [List.length_drop, List.length_take]; rfl)) ?_; (with_reducible refine (laws_szColored.calls _ _ l0_0 _ _ l0_1 _ _ l0_2 _ _ l0_3 1048576 t307 _ ?side1 ?side2 ?side3 ?side4 ?side5 ?side6 ?side7 ?side8 A3.out).mono ?_); (case side1 => exact cl (Kd.C_below HR0_0.out HB.out)); (case side2 => exact HC0_0.out); (case side3 => exact cl (Kd.C_below HR0_1.out HB.out)); (case side4 => exact HC0_1.out); (case side5 => exact cl (Kd.C_below HR0_2.out HB.out)); (case side6 => exact HC0_2.out); (case side7 => exact cl (Kd.C_below HR0_3.out HB.out)); (case side8 => exact HC0_3.out); rintro e w15 ⟨rfl, hb⟩; refine ⟨_, rfl, ?_⟩; replace BK306 := am (blk_below (g := gb306) (o := .cells #[.slice A0_0 l0_0.length c0_0, .slice A0_1 l0_1.length c0_1, .slice A0_2 l0_2.length c0_2, .slice A0_3 l0_3.length c0_3] 26 (0, 0)) (kl BK306.out) hb); replace HB := am (below_step (bs1 GE306.out HB.out) hb); (try clear hb); (try clear hb2); (try clear hk); (try clear hi); have hcz16_0 : w15.cell? ⟨gb306, 0, none⟩ = some (.slice A0_0 l0_0.length c0_0) := (blk_cell BK306.out 0).trans rfl; have hcz16_1 : w15.cell? ⟨gb306, 1, none⟩ = some (.slice A0_1 l0_1.length c0_1) := (blk_cell BK306.out 1).trans rfl; have hcz16_2 : w15.cell? ⟨gb306, 2, none⟩ = some (.slice A0_2 l0_2.length c0_2) := (blk_cell BK306.out 2).trans rfl; have hcz16_3 : w15.cell? ⟨gb306, 3, none⟩ = some (.slice A0_3 l0_3.length c0_3) := (blk_cell BK306.out 3).trans rfl; have hfz16_0 := blk_frozen BK306.out 0; have hfz16_1 := blk_frozen BK306.out 1; have hfz16_2 := blk_frozen BK306.out 2; have hfz16_3 := blk_frozen BK306.out 3) | ((with_reducible refine gate_callee (f := 19) rfl ?_); refine goesL_ (some 23) rfl rfl Try.func19 (by kernel_rfl) rfl #[.agg #[.slice A0_0 l0_0.length c0_0, .slice A0_1 l0_1.length c0_1, .slice A0_2 l0_2.length c0_2, .slice A0_3 l0_3.length c0_3]] rfl (by (try simp only [List.map_toArray, List.map_cons, List.map_nil]); first | done | rfl | (simp only [List.length_drop, List.length_take]; rfl)) ?_; (with_reducible refine (laws_toColored.calls k _ _ l0_0 _ _ l0_1 _ _ l0_2 _ _ l0_3 t308 t311 t314 t317 _ ?side1 ?side2 ?side3 ?side4 ?side5 ?side6 ?side7 ?side8 A8.out).mono ?_); (case side1 => exact cl (Kd.C_below HR0_0.out HB.out)); (case side2 => exact HC0_0.out); (case side3 => exact cl (Kd.C_below HR0_1.out HB.out)); (case side4 => exact HC0_1.out); (case side5 => exact cl (Kd.C_below HR0_2.out HB.out)); (case side6 => exact HC0_2.out); (case side7 => exact cl (Kd.C_below HR0_3.out HB.out)); (case side8 => exact HC0_3.out); rintro e w17 ⟨v309, v312, v315, v318, rfl, ho0, ho1, ho2, ho3, hb⟩; refine ⟨_, rfl, ?_⟩; have HO310 := am (Kd.R_lower ho0 (below_size (bs1 GE306.out HB.out))); have HO313 := am (Kd.R_lower ho1 (below_size (bs1 GE306.out HB.out))); have HO316 := am (Kd.R_lower ho2 (below_size (bs1 GE306.out HB.out))); have HO319 := am (Kd.R_lower ho3 (below_size (bs1 GE306.out HB.out))); replace BK306 := am (blk_below (g := gb306) (o := .cells #[.slice A0_0 l0_0.length c0_0, .slice A0_1 l0_1.length c0_1, .slice A0_2 l0_2.length c0_2, .slice A0_3 l0_3.length c0_3] 26 (0, 0)) (kl BK306.out) hb); replace HB := am (below_step (bs1 GE306.out HB.out) hb); (try clear hb); (try clear hb2); (try clear hk); (try clear hi); (try clear ho0); (try clear ho1); (try clear ho2); (try clear ho3); obtain ⟨Ao18, co18, eo18⟩ := Kd.R_slice HO310.out; subst eo18; obtain ⟨Ao19, co19, eo19⟩ := Kd.R_slice HO313.out; subst eo19; obtain ⟨Ao20, co20, eo20⟩ := Kd.R_slice HO316.out; subst eo20; obtain ⟨Ao21, co21, eo21⟩ := Kd.R_slice HO319.out; subst eo21) | ((with_reducible refine gate_callee (f := 18) rfl ?_); refine goesL_ (some 25) rfl rfl Try.func18 (by kernel_rfl) rfl #[.agg #[.slice Ao18 t308.length co18, .slice Ao19 t311.length co19, .slice Ao20 t314.length co20, .slice Ao21 t317.length co21], .int .i64 a1] rfl (by (try simp only [List.map_toArray, List.map_cons, List.map_nil]); first | done | rfl | (simp only [List.length_drop, List.length_take]; rfl)) ?_; (with_reducible refine (spec_ShadeCell.calls k _ _ t308 _ _ t311 _ _ t314 _ _ t317 a1 t320 t323 t326 t329 t332 _ ?side1 ?side2 ?side3 ?side4 ?side5 ?side6 ?side7 ?side8 A9.out).mono ?_); (case side1 => exact cl ((Kd.R_reads' HO310.out).2.2)); (case side2 => exact (Kd.R_reads' HO310.out).2.1); (case side3 => exact cl ((Kd.R_reads' HO313.out).2.2)); (case side4 => exact (Kd.R_reads' HO313.out).2.1); (case side5 => exact cl ((Kd.R_reads' HO316.out).2.2)); (case side6 => exact (Kd.R_reads' HO316.out).2.1); (case side7 => exact cl ((Kd.R_reads' HO319.out).2.2)); (case side8 => exact (Kd.R_reads' HO319.out).2.1); rintro e w22 ⟨v321, v324, v327, v330, rfl, ho0, ho1, ho2, ho3, hb⟩; refine ⟨_, rfl, ?_⟩; have HO322 := am (Kd.R_lower (Kd.R_new' (Kd.R_new' (Kd.R_new' (Kd.R_new' ho0 (Kd.R_lt (rl HO310.out))) (Kd.R_lt (rl HO313.out))) (Kd.R_lt (rl HO316.out))) (Kd.R_lt (rl HO319.out))) (below_size (bs1 GE306.out HB.out))); have HO325 := am (Kd.R_lower (Kd.R_new' (Kd.R_new' (Kd.R_new' (Kd.R_new' ho1 (Kd.R_lt (rl HO310.out))) (Kd.R_lt (rl HO313.out))) (Kd.R_lt (rl HO316.out))) (Kd.R_lt (rl HO319.out))) (below_size (bs1 GE306.out HB.out))); have HO328 := am (Kd.R_lower (Kd.R_new' (Kd.R_new' (Kd.R_new' (Kd.R_new' ho2 (Kd.R_lt (rl HO310.out))) (Kd.R_lt (rl HO313.out))) (Kd.R_lt (rl HO316.out))) (Kd.R_lt (rl HO319.out))) (below_size (bs1 GE306.out HB.out))); have HO331 := am (Kd.R_lower (Kd.R_new' (Kd.R_new' (Kd.R_new' (Kd.R_new' ho3 (Kd.R_lt (rl HO310.out))) (Kd.R_lt (rl HO313.out))) (Kd.R_lt (rl HO316.out))) (Kd.R_lt (rl HO319.out))) (below_size (bs1 GE306.out HB.out))); replace HO310 := am (Kd.R_mono (Kd.R_told (Kd.R_told (Kd.R_told (Kd.R_told (Kd.R_old (rl HO310.out) hb) (Kd.R_base ho0)) (Kd.R_base ho1)) (Kd.R_base ho2)) (Kd.R_base ho3)) (fun _ h_ => h_.1)); replace HO313 := am (Kd.R_mono (Kd.R_told (Kd.R_told (Kd.R_told (Kd.R_told (Kd.R_old (rl HO313.out) hb) (Kd.R_base ho0)) (Kd.R_base ho1)) (Kd.R_base ho2)) (Kd.R_base ho3)) (fun _ h_ => h_.1)); replace HO316 := am (Kd.R_mono (Kd.R_told (Kd.R_told (Kd.R_told (Kd.R_told (Kd.R_old (rl HO316.out) hb) (Kd.R_base ho0)) (Kd.R_base ho1)) (Kd.R_base ho2)) (Kd.R_base ho3)) (fun _ h_ => h_.1)); replace HO319 := am (Kd.R_mono (Kd.R_told (Kd.R_told (Kd.R_told (Kd.R_told (Kd.R_old (rl HO319.out) hb) (Kd.R_base ho0)) (Kd.R_base ho1)) (Kd.R_base ho2)) (Kd.R_base ho3)) (fun _ h_ => h_.1)); replace BK306 := am (blk_below (g := gb306) (o := .cells #[.slice A0_0 l0_0.length c0_0, .slice A0_1 l0_1.length c0_1, .slice A0_2 l0_2.length c0_2, .slice A0_3 l0_3.length c0_3] 26 (0, 0)) (kl BK306.out) hb); replace HB := am (below_step (bs1 GE306.out HB.out) hb); (try clear hb); (try clear hb2); (try clear hk); (try clear hi); (try clear ho0); (try clear ho1); (try clear ho2); (try clear ho3)) | ((with_reducible refine gate_dst (N := 6) rfl ?_); refine box_event ?hg (N := 6) ?hd (cs := #[.slice none 0 0, .slice none 0 0, .slice none 0 0, .slice none 0 0]) (t := 30) ?hr ?_; (case hd => rfl); (case hg => rfl); (case hr => first | (go_simp; done) | (go_simp; rfl)); intro gb333 hg w23 hbox hb; replace HO310 := am (Kd.R_below (rl HO310.out) hb); replace HO313 := am (Kd.R_below (rl HO313.out) hb); replace HO316 := am (Kd.R_below (rl HO316.out) hb); replace HO319 := am (Kd.R_below (rl HO319.out) hb); replace HO322 := am (Kd.R_below (rl HO322.out) hb); replace HO325 := am (Kd.R_below (rl HO325.out) hb); replace HO328 := am (Kd.R_below (rl HO328.out) hb); replace HO331 := am (Kd.R_below (rl HO331.out) hb); have BK333 := am (hbox); have GW333 := am ((by rw [hg]; exact (below_size (bs1 GE306.out HB.out)) : w.heap.size ≤ gb333)); have GE333 := am ((by rw [hg]; exact (below_size (bs1 GE306.out HB.out)) : w.heap.size ≤ gb333)); replace HB := am (below_step (bs1 GE306.out HB.out) hb); have NB306_333 := am ((by rw [hg]; exact Nat.ne_of_lt (blk_lt (g := gb306) (o := .cells #[.slice A0_0 l0_0.length c0_0, .slice A0_1 l0_1.length c0_1, .slice A0_2 l0_2.length c0_2, .slice A0_3 l0_3.length c0_3] 26 (0, 0)) (kl BK306.out)) : gb306 ≠ gb333)); have NB333_306 := am ((by rw [hg]; exact Nat.ne_of_gt (blk_lt (g := gb306) (o := .cells #[.slice A0_0 l0_0.length c0_0, .slice A0_1 l0_1.length c0_1, .slice A0_2 l0_2.length c0_2, .slice A0_3 l0_3.length c0_3] 26 (0, 0)) (kl BK306.out)) : gb333 ≠ gb306)); replace BK306 := am (blk_below (g := gb306) (o := .cells #[.slice A0_0 l0_0.length c0_0, .slice A0_1 l0_1.length c0_1, .slice A0_2 l0_2.length c0_2, .slice A0_3 l0_3.length c0_3] 26 (0, 0)) (kl BK306.out) hb); clear hb hbox hg; obtain ⟨Ao24, co24, eo24⟩ := Kd.R_slice HO322.out; subst eo24; have hnb25 := NB333_306.out; have hnc25 := NB306_333.out; have hcz26_0 : w23.cell? ⟨gb333, 0, none⟩ = some (.slice none 0 0) := (blk_cell BK333.out 0).trans rfl; have hcz26_1 : w23.cell? ⟨gb333, 1, none⟩ = some (.slice none 0 0) := (blk_cell BK333.out 1).trans rfl; have hcz26_2 : w23.cell? ⟨gb333, 2, none⟩ = some (.slice none 0 0) := (blk_cell BK333.out 2).trans rfl; have hcz26_3 : w23.cell? ⟨gb333, 3, none⟩ = some (.slice none 0 0) := (blk_cell BK333.out 3).trans rfl; have hfz26_0 := blk_frozen BK333.out 0; have hfz26_1 := blk_frozen BK333.out 1; have hfz26_2 := blk_frozen BK333.out 2; have hfz26_3 := blk_frozen BK333.out 3; obtain ⟨Ao27, co27, eo27⟩ := Kd.R_slice HO325.out; subst eo27; obtain ⟨Ao28, co28, eo28⟩ := Kd.R_slice HO328.out; subst eo28; obtain ⟨Ao29, co29, eo29⟩ := Kd.R_slice HO331.out; subst eo29; have hcz30_0 : w23.cell? ⟨gb306, 0, none⟩ = some (.slice A0_0 l0_0.length c0_0) := (blk_cell BK306.out 0).trans rfl; have hcz30_1 : w23.cell? ⟨gb306, 1, none⟩ = some (.slice A0_1 l0_1.length c0_1) := (blk_cell BK306.out 1).trans rfl; have hcz30_2 : w23.cell? ⟨gb306, 2, none⟩ = some (.slice A0_2 l0_2.length c0_2) := (blk_cell BK306.out 2).trans rfl; have hcz30_3 : w23.cell? ⟨gb306, 3, none⟩ = some (.slice A0_3 l0_3.length c0_3) := (blk_cell BK306.out 3).trans rfl; have hfz30_0 := blk_frozen BK306.out 0; have hfz30_1 := blk_frozen BK306.out 1; have hfz30_2 := blk_frozen BK306.out 2; have hfz30_3 := blk_frozen BK306.out 3) | ((with_reducible refine gate_callee (f := 19) rfl ?_); refine goesL_ (some 29) rfl rfl Try.func19 (by kernel_rfl) rfl #[.agg #[.slice A0_0 l0_0.length c0_0, .slice A0_1 l0_1.length c0_1, .slice A0_2 l0_2.length c0_2, .slice A0_3 l0_3.length c0_3]] rfl (by (try simp only [List.map_toArray, List.map_cons, List.map_nil]); first | done | rfl | (simp only [List.length_drop, List.length_take]; rfl)) ?_; (with_reducible refine (laws_toColored.calls k _ _ l0_0 _ _ l0_1 _ _ l0_2 _ _ l0_3 t334 t337 t340 t343 _ ?side1 ?side2 ?side3 ?side4 ?side5 ?side6 ?side7 ?side8 A10.out).mono ?_); (case side1 => exact Kd.C_below HR0_0.out (bs2 GE306.out GE333.out HB.out)); (case side2 => exact HC0_0.out); (case side3 => exact Kd.C_below HR0_1.out (bs2 GE306.out GE333.out HB.out)); (case side4 => exact HC0_1.out); (case side5 => exact Kd.C_below HR0_2.out (bs2 GE306.out GE333.out HB.out)); (case side6 => exact HC0_2.out); (case side7 => exact Kd.C_below HR0_3.out (bs2 GE306.out GE333.out HB.out)); (case side8 => exact HC0_3.out); rintro e w31 ⟨v335, v338, v341, v344, rfl, ho0, ho1, ho2, ho3, hb⟩; refine ⟨_, rfl, ?_⟩; have HO336 := am (Kd.R_lower (Kd.R_new' (Kd.R_new' (Kd.R_new' (Kd.R_new' (Kd.R_new' (Kd.R_new' (Kd.R_new' (Kd.R_new' ho0 (Kd.R_lt (rf1 BK333.out HO310.out))) (Kd.R_lt (rf1 BK333.out HO313.out))) (Kd.R_lt (rf1 BK333.out HO316.out))) (Kd.R_lt (rf1 BK333.out HO319.out))) (Kd.R_lt (rf1 BK333.out HO322.out))) (Kd.R_lt (rf1 BK333.out HO325.out))) (Kd.R_lt (rf1 BK333.out HO328.out))) (Kd.R_lt (rf1 BK333.out HO331.out))) (below_size (bs2 GE306.out GE333.out HB.out))); have HO339 := am (Kd.R_lower (Kd.R_new' (Kd.R_new' (Kd.R_new' (Kd.R_new' (Kd.R_new' (Kd.R_new' (Kd.R_new' (Kd.R_new' ho1 (Kd.R_lt (rf1 BK333.out HO310.out))) (Kd.R_lt (rf1 BK333.out HO313.out))) (Kd.R_lt (rf1 BK333.out HO316.out))) (Kd.R_lt (rf1 BK333.out HO319.out))) (Kd.R_lt (rf1 BK333.out HO322.out))) (Kd.R_lt (rf1 BK333.out HO325.out))) (Kd.R_lt (rf1 BK333.out HO328.out))) (Kd.R_lt (rf1 BK333.out HO331.out))) (below_size (bs2 GE306.out GE333.out HB.out))); have HO342 := am (Kd.R_lower (Kd.R_new' (Kd.R_new' (Kd.R_new' (Kd.R_new' (Kd.R_new' (Kd.R_new' (Kd.R_new' (Kd.R_new' ho2 (Kd.R_lt (rf1 BK333.out HO310.out))) (Kd.R_lt (rf1 BK333.out HO313.out))) (Kd.R_lt (rf1 BK333.out HO316.out))) (Kd.R_lt (rf1 BK333.out HO319.out))) (Kd.R_lt (rf1 BK333.out HO322.out))) (Kd.R_lt (rf1 BK333.out HO325.out))) (Kd.R_lt (rf1 BK333.out HO328.out))) (Kd.R_lt (rf1 BK333.out HO331.out))) (below_size (bs2 GE306.out GE333.out HB.out))); have HO345 := am (Kd.R_lower (Kd.R_new' (Kd.R_new' (Kd.R_new' (Kd.R_new' (Kd.R_new' (Kd.R_new' (Kd.R_new' (Kd.R_new' ho3 (Kd.R_lt (rf1 BK333.out HO310.out))) (Kd.R_lt (rf1 BK333.out HO313.out))) (Kd.R_lt (rf1 BK333.out HO316.out))) (Kd.R_lt (rf1 BK333.out HO319.out))) (Kd.R_lt (rf1 BK333.out HO322.out))) (Kd.R_lt (rf1 BK333.out HO325.out))) (Kd.R_lt (rf1 BK333.out HO328.out))) (Kd.R_lt (rf1 BK333.out HO331.out))) (below_size (bs2 GE306.out GE333.out HB.out))); replace HO310 := am (Kd.R_mono (Kd.R_told (Kd.R_told (Kd.R_told (Kd.R_told (Kd.R_old (rf1 BK333.out HO310.out) hb) (Kd.R_base ho0)) (Kd.R_base ho1)) (Kd.R_base ho2)) (Kd.R_base ho3)) (fun _ h_ => h_.1)); replace HO313 := am (Kd.R_mono (Kd.R_told (Kd.R_told (Kd.R_told (Kd.R_told (Kd.R_old (rf1 BK333.out HO313.out) hb) (Kd.R_base ho0)) (Kd.R_base ho1)) (Kd.R_base ho2)) (Kd.R_base ho3)) (fun _ h_ => h_.1)); replace HO316 := am (Kd.R_mono (Kd.R_told (Kd.R_told (Kd.R_told (Kd.R_told (Kd.R_old (rf1 BK333.out HO316.out) hb) (Kd.R_base ho0)) (Kd.R_base ho1)) (Kd.R_base ho2)) (Kd.R_base ho3)) (fun _ h_ => h_.1)); replace HO319 := am (Kd.R_mono (Kd.R_told (Kd.R_told (Kd.R_told (Kd.R_told (Kd.R_old (rf1 BK333.out HO319.out) hb) (Kd.R_base ho0)) (Kd.R_base ho1)) (Kd.R_base ho2)) (Kd.R_base ho3)) (fun _ h_ => h_.1)); replace HO322 := am (Kd.R_mono (Kd.R_told (Kd.R_told (Kd.R_told (Kd.R_told (Kd.R_old (rf1 BK333.out HO322.out) hb) (Kd.R_base ho0)) (Kd.R_base ho1)) (Kd.R_base ho2)) (Kd.R_base ho3)) (fun _ h_ => h_.1)); replace HO325 := am (Kd.R_mono (Kd.R_told (Kd.R_told (Kd.R_told (Kd.R_told (Kd.R_old (rf1 BK333.out HO325.out) hb) (Kd.R_base ho0)) (Kd.R_base ho1)) (Kd.R_base ho2)) (Kd.R_base ho3)) (fun _ h_ => h_.1)); replace HO328 := am (Kd.R_mono (Kd.R_told (Kd.R_told (Kd.R_told (Kd.R_told (Kd.R_old (rf1 BK333.out HO328.out) hb) (Kd.R_base ho0)) (Kd.R_base ho1)) (Kd.R_base ho2)) (Kd.R_base ho3)) (fun _ h_ => h_.1)); replace HO331 := am (Kd.R_mono (Kd.R_told (Kd.R_told (Kd.R_told (Kd.R_told (Kd.R_old (rf1 BK333.out HO331.out) hb) (Kd.R_base ho0)) (Kd.R_base ho1)) (Kd.R_base ho2)) (Kd.R_base ho3)) (fun _ h_ => h_.1)); replace BK306 := am (blk_below (g := gb306) (o := .cells #[.slice A0_0 l0_0.length c0_0, .slice A0_1 l0_1.length c0_1, .slice A0_2 l0_2.length c0_2, .slice A0_3 l0_3.length c0_3] 26 (0, 0)) (kf1 NB306_333.out BK306.out) hb); replace BK333 := am (blk_below (g := gb333) (o := .cells #[.slice Ao24 t320.length co24, .slice Ao27 t323.length co27, .slice Ao28 t326.length co28, .slice Ao29 t329.length co29] 30 (0, 0)) (kp4 (kf0 BK333.out)) hb); replace HB := am (below_step (bs2 GE306.out GE333.out HB.out) hb); (try clear hb); (try clear hb2); (try clear hk); (try clear hi); (try clear ho0); (try clear ho1); (try clear ho2); (try clear ho3)) | ((with_reducible refine gate_dst (N := 8) rfl ?_); refine box_event ?hg (N := 8) ?hd (cs := #[.slice none 0 0, .slice none 0 0, .slice none 0 0, .slice none 0 0]) (t := 30) ?hr ?_; (case hd => rfl); (case hg => rfl); (case hr => first | (go_simp; done) | (go_simp; rfl)); intro gb346 hg w32 hbox hb; replace HO310 := am (Kd.R_below (rl HO310.out) hb); replace HO313 := am (Kd.R_below (rl HO313.out) hb); replace HO316 := am (Kd.R_below (rl HO316.out) hb); replace HO319 := am (Kd.R_below (rl HO319.out) hb); replace HO322 := am (Kd.R_below (rl HO322.out) hb); replace HO325 := am (Kd.R_below (rl HO325.out) hb); replace HO328 := am (Kd.R_below (rl HO328.out) hb); replace HO331 := am (Kd.R_below (rl HO331.out) hb); replace HO336 := am (Kd.R_below (rl HO336.out) hb); replace HO339 := am (Kd.R_below (rl HO339.out) hb); replace HO342 := am (Kd.R_below (rl HO342.out) hb); replace HO345 := am (Kd.R_below (rl HO345.out) hb); have BK346 := am (hbox); have GW346 := am ((by rw [hg]; exact (below_size (bs2 GE306.out GE333.out HB.out)) : w.heap.size ≤ gb346)); have GE346 := am ((by rw [hg]; exact (below_size (bs2 GE306.out GE333.out HB.out)) : w.heap.size ≤ gb346)); replace HB := am (below_step (bs2 GE306.out GE333.out HB.out) hb); have NB306_346 := am ((by rw [hg]; exact Nat.ne_of_lt (blk_lt (g := gb306) (o := .cells #[.slice A0_0 l0_0.length c0_0, .slice A0_1 l0_1.length c0_1, .slice A0_2 l0_2.length c0_2, .slice A0_3 l0_3.length c0_3] 26 (0, 0)) (kl BK306.out)) : gb306 ≠ gb346)); have NB346_306 := am ((by rw [hg]; exact Nat.ne_of_gt (blk_lt (g := gb306) (o := .cells #[.slice A0_0 l0_0.length c0_0, .slice A0_1 l0_1.length c0_1, .slice A0_2 l0_2.length c0_2, .slice A0_3 l0_3.length c0_3] 26 (0, 0)) (kl BK306.out)) : gb346 ≠ gb306)); replace BK306 := am (blk_below (g := gb306) (o := .cells #[.slice A0_0 l0_0.length c0_0, .slice A0_1 l0_1.length c0_1, .slice A0_2 l0_2.length c0_2, .slice A0_3 l0_3.length c0_3] 26 (0, 0)) (kl BK306.out) hb); have NB333_346 := am ((by rw [hg]; exact Nat.ne_of_lt (blk_lt (g := gb333) (o := .cells #[.slice Ao24 t320.length co24, .slice Ao27 t323.length co27, .slice Ao28 t326.length co28, .slice Ao29 t329.length co29] 30 (0, 0)) (kl BK333.out)) : gb333 ≠ gb346)); have NB346_333 := am ((by rw [hg]; exact Nat.ne_of_gt (blk_lt (g := gb333) (o := .cells #[.slice Ao24 t320.length co24, .slice Ao27 t323.length co27, .slice Ao28 t326.length co28, .slice Ao29 t329.length co29] 30 (0, 0)) (kl BK333.out)) : gb346 ≠ gb333)); replace BK333 := am (blk_below (g := gb333) (o := .cells #[.slice Ao24 t320.length co24, .slice Ao27 t323.length co27, .slice Ao28 t326.length co28, .slice Ao29 t329.length co29] 30 (0, 0)) (kl BK333.out) hb); clear hb hbox hg; obtain ⟨Ao33, co33, eo33⟩ := Kd.R_slice HO336.out; subst eo33; have hnb34 := NB346_306.out; have hnc34 := NB306_346.out; have hnb35 := NB346_333.out; have hnc35 := NB333_346.out; have hcz36_0 : w32.cell? ⟨gb346, 0, none⟩ = some (.slice none 0 0) := (blk_cell BK346.out 0).trans rfl; have hcz36_1 : w32.cell? ⟨gb346, 1, none⟩ = some (.slice none 0 0) := (blk_cell BK346.out 1).trans rfl; have hcz36_2 : w32.cell? ⟨gb346, 2, none⟩ = some (.slice none 0 0) := (blk_cell BK346.out 2).trans rfl; have hcz36_3 : w32.cell? ⟨gb346, 3, none⟩ = some (.slice none 0 0) := (blk_cell BK346.out 3).trans rfl; have hfz36_0 := blk_frozen BK346.out 0; have hfz36_1 := blk_frozen BK346.out 1; have hfz36_2 := blk_frozen BK346.out 2; have hfz36_3 := blk_frozen BK346.out 3; obtain ⟨Ao37, co37, eo37⟩ := Kd.R_slice HO339.out; subst eo37; obtain ⟨Ao38, co38, eo38⟩ := Kd.R_slice HO342.out; subst eo38; obtain ⟨Ao39, co39, eo39⟩ := Kd.R_slice HO345.out; subst eo39) | ((with_reducible refine gate_callee (f := 20) rfl ?_); refine goesL_ (some 33) rfl rfl Try.func20 (by kernel_rfl) rfl #[.agg #[.slice Ao33 t334.length co33, .slice Ao37 t337.length co37, .slice Ao38 t340.length co38, .slice Ao39 t343.length co39], .int .i64 a1] rfl (by (try simp only [List.map_toArray, List.map_cons, List.map_nil]); first | done | rfl | (simp only [List.length_drop, List.length_take]; rfl)) ?_; (with_reducible refine (impl_ShadeCell.calls k _ _ t334 _ _ t337 _ _ t340 _ _ t343 a1 t347 t350 t353 t356 t359 _ ?side1 ?side2 ?side3 ?side4 ?side5 ?side6 ?side7 ?side8 A11.out).mono ?_); (case side1 => exact (Kd.R_reads' (rf1 BK346.out HO336.out)).2.2); (case side2 => exact (Kd.R_reads' HO336.out).2.1); (case side3 => exact (Kd.R_reads' (rf1 BK346.out HO339.out)).2.2); (case side4 => exact (Kd.R_reads' HO339.out).2.1); (case side5 => exact (Kd.R_reads' (rf1 BK346.out HO342.out)).2.2); (case side6 => exact (Kd.R_reads' HO342.out).2.1); (case side7 => exact (Kd.R_reads' (rf1 BK346.out HO345.out)).2.2); (case side8 => exact (Kd.R_reads' HO345.out).2.1); rintro e w40 ⟨v348, v351, v354, v357, rfl, ho0, ho1, ho2, ho3, hb⟩; refine ⟨_, rfl, ?_⟩; have HO349 := am (Kd.R_lower (Kd.R_new' (Kd.R_new' (Kd.R_new' (Kd.R_new' (Kd.R_new' (Kd.R_new' (Kd.R_new' (Kd.R_new' (Kd.R_new' (Kd.R_new' (Kd.R_new' (Kd.R_new' ho0 (Kd.R_lt (rf1 BK346.out HO310.out))) (Kd.R_lt (rf1 BK346.out HO313.out))) (Kd.R_lt (rf1 BK346.out HO316.out))) (Kd.R_lt (rf1 BK346.out HO319.out))) (Kd.R_lt (rf1 BK346.out HO322.out))) (Kd.R_lt (rf1 BK346.out HO325.out))) (Kd.R_lt (rf1 BK346.out HO328.out))) (Kd.R_lt (rf1 BK346.out HO331.out))) (Kd.R_lt (rf1 BK346.out HO336.out))) (Kd.R_lt (rf1 BK346.out HO339.out))) (Kd.R_lt (rf1 BK346.out HO342.out))) (Kd.R_lt (rf1 BK346.out HO345.out))) (below_size (bs3 GE306.out GE333.out GE346.out HB.out))); have HO352 := am (Kd.R_lower (Kd.R_new' (Kd.R_new' (Kd.R_new' (Kd.R_new' (Kd.R_new' (Kd.R_new' (Kd.R_new' (Kd.R_new' (Kd.R_new' (Kd.R_new' (Kd.R_new' (Kd.R_new' ho1 (Kd.R_lt (rf1 BK346.out HO310.out))) (Kd.R_lt (rf1 BK346.out HO313.out))) (Kd.R_lt (rf1 BK346.out HO316.out))) (Kd.R_lt (rf1 BK346.out HO319.out))) (Kd.R_lt (rf1 BK346.out HO322.out))) (Kd.R_lt (rf1 BK346.out HO325.out))) (Kd.R_lt (rf1 BK346.out HO328.out))) (Kd.R_lt (rf1 BK346.out HO331.out))) (Kd.R_lt (rf1 BK346.out HO336.out))) (Kd.R_lt (rf1 BK346.out HO339.out))) (Kd.R_lt (rf1 BK346.out HO342.out))) (Kd.R_lt (rf1 BK346.out HO345.out))) (below_size (bs3 GE306.out GE333.out GE346.out HB.out))); have HO355 := am (Kd.R_lower (Kd.R_new' (Kd.R_new' (Kd.R_new' (Kd.R_new' (Kd.R_new' (Kd.R_new' (Kd.R_new' (Kd.R_new' (Kd.R_new' (Kd.R_new' (Kd.R_new' (Kd.R_new' ho2 (Kd.R_lt (rf1 BK346.out HO310.out))) (Kd.R_lt (rf1 BK346.out HO313.out))) (Kd.R_lt (rf1 BK346.out HO316.out))) (Kd.R_lt (rf1 BK346.out HO319.out))) (Kd.R_lt (rf1 BK346.out HO322.out))) (Kd.R_lt (rf1 BK346.out HO325.out))) (Kd.R_lt (rf1 BK346.out HO328.out))) (Kd.R_lt (rf1 BK346.out HO331.out))) (Kd.R_lt (rf1 BK346.out HO336.out))) (Kd.R_lt (rf1 BK346.out HO339.out))) (Kd.R_lt (rf1 BK346.out HO342.out))) (Kd.R_lt (rf1 BK346.out HO345.out))) (below_size (bs3 GE306.out GE333.out GE346.out HB.out))); have HO358 := am (Kd.R_lower (Kd.R_new' (Kd.R_new' (Kd.R_new' (Kd.R_new' (Kd.R_new' (Kd.R_new' (Kd.R_new' (Kd.R_new' (Kd.R_new' (Kd.R_new' (Kd.R_new' (Kd.R_new' ho3 (Kd.R_lt (rf1 BK346.out HO310.out))) (Kd.R_lt (rf1 BK346.out HO313.out))) (Kd.R_lt (rf1 BK346.out HO316.out))) (Kd.R_lt (rf1 BK346.out HO319.out))) (Kd.R_lt (rf1 BK346.out HO322.out))) (Kd.R_lt (rf1 BK346.out HO325.out))) (Kd.R_lt (rf1 BK346.out HO328.out))) (Kd.R_lt (rf1 BK346.out HO331.out))) (Kd.R_lt (rf1 BK346.out HO336.out))) (Kd.R_lt (rf1 BK346.out HO339.out))) (Kd.R_lt (rf1 BK346.out HO342.out))) (Kd.R_lt (rf1 BK346.out HO345.out))) (below_size (bs3 GE306.out GE333.out GE346.out HB.out))); replace HO310 := am (Kd.R_mono (Kd.R_told (Kd.R_told (Kd.R_told (Kd.R_told (Kd.R_old (rf1 BK346.out HO310.out) hb) (Kd.R_base ho0)) (Kd.R_base ho1)) (Kd.R_base ho2)) (Kd.R_base ho3)) (fun _ h_ => h_.1)); replace HO313 := am (Kd.R_mono (Kd.R_told (Kd.R_told (Kd.R_told (Kd.R_told (Kd.R_old (rf1 BK346.out HO313.out) hb) (Kd.R_base ho0)) (Kd.R_base ho1)) (Kd.R_base ho2)) (Kd.R_base ho3)) (fun _ h_ => h_.1)); replace HO316 := am (Kd.R_mono (Kd.R_told (Kd.R_told (Kd.R_told (Kd.R_told (Kd.R_old (rf1 BK346.out HO316.out) hb) (Kd.R_base ho0)) (Kd.R_base ho1)) (Kd.R_base ho2)) (Kd.R_base ho3)) (fun _ h_ => h_.1)); replace HO319 := am (Kd.R_mono (Kd.R_told (Kd.R_told (Kd.R_told (Kd.R_told (Kd.R_old (rf1 BK346.out HO319.out) hb) (Kd.R_base ho0)) (Kd.R_base ho1)) (Kd.R_base ho2)) (Kd.R_base ho3)) (fun _ h_ => h_.1)); replace HO322 := am (Kd.R_mono (Kd.R_told (Kd.R_told (Kd.R_told (Kd.R_told (Kd.R_old (rf1 BK346.out HO322.out) hb) (Kd.R_base ho0)) (Kd.R_base ho1)) (Kd.R_base ho2)) (Kd.R_base ho3)) (fun _ h_ => h_.1)); replace HO325 := am (Kd.R_mono (Kd.R_told (Kd.R_told (Kd.R_told (Kd.R_told (Kd.R_old (rf1 BK346.out HO325.out) hb) (Kd.R_base ho0)) (Kd.R_base ho1)) (Kd.R_base ho2)) (Kd.R_base ho3)) (fun _ h_ => h_.1)); replace HO328 := am (Kd.R_mono (Kd.R_told (Kd.R_told (Kd.R_told (Kd.R_told (Kd.R_old (rf1 BK346.out HO328.out) hb) (Kd.R_base ho0)) (Kd.R_base ho1)) (Kd.R_base ho2)) (Kd.R_base ho3)) (fun _ h_ => h_.1)); replace HO331 := am (Kd.R_mono (Kd.R_told (Kd.R_told (Kd.R_told (Kd.R_told (Kd.R_old (rf1 BK346.out HO331.out) hb) (Kd.R_base ho0)) (Kd.R_base ho1)) (Kd.R_base ho2)) (Kd.R_base ho3)) (fun _ h_ => h_.1)); replace HO336 := am (Kd.R_mono (Kd.R_told (Kd.R_told (Kd.R_told (Kd.R_told (Kd.R_old (rf1 BK346.out HO336.out) hb) (Kd.R_base ho0)) (Kd.R_base ho1)) (Kd.R_base ho2)) (Kd.R_base ho3)) (fun _ h_ => h_.1)); replace HO339 := am (Kd.R_mono (Kd.R_told (Kd.R_told (Kd.R_told (Kd.R_told (Kd.R_old (rf1 BK346.out HO339.out) hb) (Kd.R_base ho0)) (Kd.R_base ho1)) (Kd.R_base ho2)) (Kd.R_base ho3)) (fun _ h_ => h_.1)); replace HO342 := am (Kd.R_mono (Kd.R_told (Kd.R_told (Kd.R_told (Kd.R_told (Kd.R_old (rf1 BK346.out HO342.out) hb) (Kd.R_base ho0)) (Kd.R_base ho1)) (Kd.R_base ho2)) (Kd.R_base ho3)) (fun _ h_ => h_.1)); replace HO345 := am (Kd.R_mono (Kd.R_told (Kd.R_told (Kd.R_told (Kd.R_told (Kd.R_old (rf1 BK346.out HO345.out) hb) (Kd.R_base ho0)) (Kd.R_base ho1)) (Kd.R_base ho2)) (Kd.R_base ho3)) (fun _ h_ => h_.1)); replace BK306 := am (blk_below (g := gb306) (o := .cells #[.slice A0_0 l0_0.length c0_0, .slice A0_1 l0_1.length c0_1, .slice A0_2 l0_2.length c0_2, .slice A0_3 l0_3.length c0_3] 26 (0, 0)) (kf1 NB306_346.out BK306.out) hb); replace BK333 := am (blk_below (g := gb333) (o := .cells #[.slice Ao24 t320.length co24, .slice Ao27 t323.length co27, .slice Ao28 t326.length co28, .slice Ao29 t329.length co29] 30 (0, 0)) (kf1 NB333_346.out BK333.out) hb); replace BK346 := am (blk_below (g := gb346) (o := .cells #[.slice Ao33 t334.length co33, .slice Ao37 t337.length co37, .slice Ao38 t340.length co38, .slice Ao39 t343.length co39] 30 (0, 0)) (kp4 (kf0 BK346.out)) hb); replace HB := am (below_step (bs3 GE306.out GE333.out GE346.out HB.out) hb); (try clear hb); (try clear hb2); (try clear hk); (try clear hi); (try clear ho0); (try clear ho1); (try clear ho2); (try clear ho3)) | ((with_reducible refine gate_dst (N := 9) rfl ?_); refine box_event ?hg (N := 9) ?hd (cs := #[.slice none 0 0, .slice none 0 0, .slice none 0 0, .slice none 0 0]) (t := 30) ?hr ?_; (case hd => rfl); (case hg => rfl); (case hr => first | (go_simp; done) | (go_simp; rfl)); intro gb360 hg w41 hbox hb; replace HO310 := am (Kd.R_below (rl HO310.out) hb); replace HO313 := am (Kd.R_below (rl HO313.out) hb); replace HO316 := am (Kd.R_below (rl HO316.out) hb); replace HO319 := am (Kd.R_below (rl HO319.out) hb); replace HO322 := am (Kd.R_below (rl HO322.out) hb); replace HO325 := am (Kd.R_below (rl HO325.out) hb); replace HO328 := am (Kd.R_below (rl HO328.out) hb); replace HO331 := am (Kd.R_below (rl HO331.out) hb); replace HO336 := am (Kd.R_below (rl HO336.out) hb); replace HO339 := am (Kd.R_below (rl HO339.out) hb); replace HO342 := am (Kd.R_below (rl HO342.out) hb); replace HO345 := am (Kd.R_below (rl HO345.out) hb); replace HO349 := am (Kd.R_below (rl HO349.out) hb); replace HO352 := am (Kd.R_below (rl HO352.out) hb); replace HO355 := am (Kd.R_below (rl HO355.out) hb); replace HO358 := am (Kd.R_below (rl HO358.out) hb); have BK360 := am (hbox); have GW360 := am ((by rw [hg]; exact (below_size (bs3 GE306.out GE333.out GE346.out HB.out)) : w.heap.size ≤ gb360)); have GE360 := am ((by rw [hg]; exact (below_size (bs3 GE306.out GE333.out GE346.out HB.out)) : w.heap.size ≤ gb360)); replace HB := am (below_step (bs3 GE306.out GE333.out GE346.out HB.out) hb); have NB306_360 := am ((by rw [hg]; exact Nat.ne_of_lt (blk_lt (g := gb306) (o := .cells #[.slice A0_0 l0_0.length c0_0, .slice A0_1 l0_1.length c0_1, .slice A0_2 l0_2.length c0_2, .slice A0_3 l0_3.length c0_3] 26 (0, 0)) (kl BK306.out)) : gb306 ≠ gb360)); have NB360_306 := am ((by rw [hg]; exact Nat.ne_of_gt (blk_lt (g := gb306) (o := .cells #[.slice A0_0 l0_0.length c0_0, .slice A0_1 l0_1.length c0_1, .slice A0_2 l0_2.length c0_2, .slice A0_3 l0_3.length c0_3] 26 (0, 0)) (kl BK306.out)) : gb360 ≠ gb306)); replace BK306 := am (blk_below (g := gb306) (o := .cells #[.slice A0_0 l0_0.length c0_0, .slice A0_1 l0_1.length c0_1, .slice A0_2 l0_2.length c0_2, .slice A0_3 l0_3.length c0_3] 26 (0, 0)) (kl BK306.out) hb); have NB333_360 := am ((by rw [hg]; exact Nat.ne_of_lt (blk_lt (g := gb333) (o := .cells #[.slice Ao24 t320.length co24, .slice Ao27 t323.length co27, .slice Ao28 t326.length co28, .slice Ao29 t329.length co29] 30 (0, 0)) (kl BK333.out)) : gb333 ≠ gb360)); have NB360_333 := am ((by rw [hg]; exact Nat.ne_of_gt (blk_lt (g := gb333) (o := .cells #[.slice Ao24 t320.length co24, .slice Ao27 t323.length co27, .slice Ao28 t326.length co28, .slice Ao29 t329.length co29] 30 (0, 0)) (kl BK333.out)) : gb360 ≠ gb333)); replace BK333 := am (blk_below (g := gb333) (o := .cells #[.slice Ao24 t320.length co24, .slice Ao27 t323.length co27, .slice Ao28 t326.length co28, .slice Ao29 t329.length co29] 30 (0, 0)) (kl BK333.out) hb); have NB346_360 := am ((by rw [hg]; exact Nat.ne_of_lt (blk_lt (g := gb346) (o := .cells #[.slice Ao33 t334.length co33, .slice Ao37 t337.length co37, .slice Ao38 t340.length co38, .slice Ao39 t343.length co39] 30 (0, 0)) (kl BK346.out)) : gb346 ≠ gb360)); have NB360_346 := am ((by rw [hg]; exact Nat.ne_of_gt (blk_lt (g := gb346) (o := .cells #[.slice Ao33 t334.length co33, .slice Ao37 t337.length co37, .slice Ao38 t340.length co38, .slice Ao39 t343.length co39] 30 (0, 0)) (kl BK346.out)) : gb360 ≠ gb346)); replace BK346 := am (blk_below (g := gb346) (o := .cells #[.slice Ao33 t334.length co33, .slice Ao37 t337.length co37, .slice Ao38 t340.length co38, .slice Ao39 t343.length co39] 30 (0, 0)) (kl BK346.out) hb); clear hb hbox hg; obtain ⟨Ao42, co42, eo42⟩ := Kd.R_slice HO349.out; subst eo42; have hnb43 := NB360_306.out; have hnc43 := NB306_360.out; have hnb44 := NB360_333.out; have hnc44 := NB333_360.out; have hnb45 := NB360_346.out; have hnc45 := NB346_360.out; have hcz46_0 : w41.cell? ⟨gb360, 0, none⟩ = some (.slice none 0 0) := (blk_cell BK360.out 0).trans rfl; have hcz46_1 : w41.cell? ⟨gb360, 1, none⟩ = some (.slice none 0 0) := (blk_cell BK360.out 1).trans rfl; have hcz46_2 : w41.cell? ⟨gb360, 2, none⟩ = some (.slice none 0 0) := (blk_cell BK360.out 2).trans rfl; have hcz46_3 : w41.cell? ⟨gb360, 3, none⟩ = some (.slice none 0 0) := (blk_cell BK360.out 3).trans rfl; have hfz46_0 := blk_frozen BK360.out 0; have hfz46_1 := blk_frozen BK360.out 1; have hfz46_2 := blk_frozen BK360.out 2; have hfz46_3 := blk_frozen BK360.out 3; obtain ⟨Ao47, co47, eo47⟩ := Kd.R_slice HO352.out; subst eo47; obtain ⟨Ao48, co48, eo48⟩ := Kd.R_slice HO355.out; subst eo48; obtain ⟨Ao49, co49, eo49⟩ := Kd.R_slice HO358.out; subst eo49))
  (try simp only [Act.put, List.setIfInBounds_toArray, List.set_cons_zero, List.set_cons_succ])
  go_cut [44] (fun v44 wc => ∃ (kq : Nat) (x44_11 : Bool), v44 = .bool x44_11 ∧ Aside0 (laws_FnExactShadeCell.j0 kq a1 t332 t359 x44_11 l0_0 l0_1 l0_2 l0_3 t320 t323 t326 t329 t334 t337 t340 t343 t347 t350 t353 t356 = some r) ∧ Aside0 (kq ≤ k) ∧ Aside0 (Kd.R (Kd.int .i64) 3 wc w.heap.size (fun k_ => some k_ ≠ ((.slice Ao27 t323.length co27) : Value).ownBlock ∧ some k_ ≠ ((.slice Ao28 t326.length co28) : Value).ownBlock ∧ some k_ ≠ ((.slice Ao29 t329.length co29) : Value).ownBlock ∧ some k_ ≠ ((.slice Ao33 t334.length co33) : Value).ownBlock ∧ some k_ ≠ ((.slice Ao37 t337.length co37) : Value).ownBlock ∧ some k_ ≠ ((.slice Ao38 t340.length co38) : Value).ownBlock ∧ some k_ ≠ ((.slice Ao39 t343.length co39) : Value).ownBlock ∧ some k_ ≠ ((.slice Ao42 t347.length co42) : Value).ownBlock ∧ some k_ ≠ ((.slice Ao47 t350.length co47) : Value).ownBlock ∧ some k_ ≠ ((.slice Ao48 t353.length co48) : Value).ownBlock ∧ some k_ ≠ ((.slice Ao49 t356.length co49) : Value).ownBlock) (.slice Ao24 t320.length co24) t320) ∧ Aside0 (Kd.R (Kd.int .i64) 3 wc w.heap.size (fun k_ => some k_ ≠ ((.slice Ao24 t320.length co24) : Value).ownBlock ∧ some k_ ≠ ((.slice Ao28 t326.length co28) : Value).ownBlock ∧ some k_ ≠ ((.slice Ao29 t329.length co29) : Value).ownBlock ∧ some k_ ≠ ((.slice Ao33 t334.length co33) : Value).ownBlock ∧ some k_ ≠ ((.slice Ao37 t337.length co37) : Value).ownBlock ∧ some k_ ≠ ((.slice Ao38 t340.length co38) : Value).ownBlock ∧ some k_ ≠ ((.slice Ao39 t343.length co39) : Value).ownBlock ∧ some k_ ≠ ((.slice Ao42 t347.length co42) : Value).ownBlock ∧ some k_ ≠ ((.slice Ao47 t350.length co47) : Value).ownBlock ∧ some k_ ≠ ((.slice Ao48 t353.length co48) : Value).ownBlock ∧ some k_ ≠ ((.slice Ao49 t356.length co49) : Value).ownBlock) (.slice Ao27 t323.length co27) t323) ∧ Aside0 (Kd.R (Kd.int .i64) 3 wc w.heap.size (fun k_ => some k_ ≠ ((.slice Ao24 t320.length co24) : Value).ownBlock ∧ some k_ ≠ ((.slice Ao27 t323.length co27) : Value).ownBlock ∧ some k_ ≠ ((.slice Ao29 t329.length co29) : Value).ownBlock ∧ some k_ ≠ ((.slice Ao33 t334.length co33) : Value).ownBlock ∧ some k_ ≠ ((.slice Ao37 t337.length co37) : Value).ownBlock ∧ some k_ ≠ ((.slice Ao38 t340.length co38) : Value).ownBlock ∧ some k_ ≠ ((.slice Ao39 t343.length co39) : Value).ownBlock ∧ some k_ ≠ ((.slice Ao42 t347.length co42) : Value).ownBlock ∧ some k_ ≠ ((.slice Ao47 t350.length co47) : Value).ownBlock ∧ some k_ ≠ ((.slice Ao48 t353.length co48) : Value).ownBlock ∧ some k_ ≠ ((.slice Ao49 t356.length co49) : Value).ownBlock) (.slice Ao28 t326.length co28) t326) ∧ Aside0 (Kd.R (Kd.int .i64) 3 wc w.heap.size (fun k_ => some k_ ≠ ((.slice Ao24 t320.length co24) : Value).ownBlock ∧ some k_ ≠ ((.slice Ao27 t323.length co27) : Value).ownBlock ∧ some k_ ≠ ((.slice Ao28 t326.length co28) : Value).ownBlock ∧ some k_ ≠ ((.slice Ao33 t334.length co33) : Value).ownBlock ∧ some k_ ≠ ((.slice Ao37 t337.length co37) : Value).ownBlock ∧ some k_ ≠ ((.slice Ao38 t340.length co38) : Value).ownBlock ∧ some k_ ≠ ((.slice Ao39 t343.length co39) : Value).ownBlock ∧ some k_ ≠ ((.slice Ao42 t347.length co42) : Value).ownBlock ∧ some k_ ≠ ((.slice Ao47 t350.length co47) : Value).ownBlock ∧ some k_ ≠ ((.slice Ao48 t353.length co48) : Value).ownBlock ∧ some k_ ≠ ((.slice Ao49 t356.length co49) : Value).ownBlock) (.slice Ao29 t329.length co29) t329) ∧ Aside0 (Kd.R (Kd.int .i64) 3 wc w.heap.size (fun k_ => some k_ ≠ ((.slice Ao24 t320.length co24) : Value).ownBlock ∧ some k_ ≠ ((.slice Ao27 t323.length co27) : Value).ownBlock ∧ some k_ ≠ ((.slice Ao28 t326.length co28) : Value).ownBlock ∧ some k_ ≠ ((.slice Ao29 t329.length co29) : Value).ownBlock ∧ some k_ ≠ ((.slice Ao37 t337.length co37) : Value).ownBlock ∧ some k_ ≠ ((.slice Ao38 t340.length co38) : Value).ownBlock ∧ some k_ ≠ ((.slice Ao39 t343.length co39) : Value).ownBlock ∧ some k_ ≠ ((.slice Ao42 t347.length co42) : Value).ownBlock ∧ some k_ ≠ ((.slice Ao47 t350.length co47) : Value).ownBlock ∧ some k_ ≠ ((.slice Ao48 t353.length co48) : Value).ownBlock ∧ some k_ ≠ ((.slice Ao49 t356.length co49) : Value).ownBlock) (.slice Ao33 t334.length co33) t334) ∧ Aside0 (Kd.R (Kd.int .i64) 3 wc w.heap.size (fun k_ => some k_ ≠ ((.slice Ao24 t320.length co24) : Value).ownBlock ∧ some k_ ≠ ((.slice Ao27 t323.length co27) : Value).ownBlock ∧ some k_ ≠ ((.slice Ao28 t326.length co28) : Value).ownBlock ∧ some k_ ≠ ((.slice Ao29 t329.length co29) : Value).ownBlock ∧ some k_ ≠ ((.slice Ao33 t334.length co33) : Value).ownBlock ∧ some k_ ≠ ((.slice Ao38 t340.length co38) : Value).ownBlock ∧ some k_ ≠ ((.slice Ao39 t343.length co39) : Value).ownBlock ∧ some k_ ≠ ((.slice Ao42 t347.length co42) : Value).ownBlock ∧ some k_ ≠ ((.slice Ao47 t350.length co47) : Value).ownBlock ∧ some k_ ≠ ((.slice Ao48 t353.length co48) : Value).ownBlock ∧ some k_ ≠ ((.slice Ao49 t356.length co49) : Value).ownBlock) (.slice Ao37 t337.length co37) t337) ∧ Aside0 (Kd.R (Kd.int .i64) 3 wc w.heap.size (fun k_ => some k_ ≠ ((.slice Ao24 t320.length co24) : Value).ownBlock ∧ some k_ ≠ ((.slice Ao27 t323.length co27) : Value).ownBlock ∧ some k_ ≠ ((.slice Ao28 t326.length co28) : Value).ownBlock ∧ some k_ ≠ ((.slice Ao29 t329.length co29) : Value).ownBlock ∧ some k_ ≠ ((.slice Ao33 t334.length co33) : Value).ownBlock ∧ some k_ ≠ ((.slice Ao37 t337.length co37) : Value).ownBlock ∧ some k_ ≠ ((.slice Ao39 t343.length co39) : Value).ownBlock ∧ some k_ ≠ ((.slice Ao42 t347.length co42) : Value).ownBlock ∧ some k_ ≠ ((.slice Ao47 t350.length co47) : Value).ownBlock ∧ some k_ ≠ ((.slice Ao48 t353.length co48) : Value).ownBlock ∧ some k_ ≠ ((.slice Ao49 t356.length co49) : Value).ownBlock) (.slice Ao38 t340.length co38) t340) ∧ Aside0 (Kd.R (Kd.int .i64) 3 wc w.heap.size (fun k_ => some k_ ≠ ((.slice Ao24 t320.length co24) : Value).ownBlock ∧ some k_ ≠ ((.slice Ao27 t323.length co27) : Value).ownBlock ∧ some k_ ≠ ((.slice Ao28 t326.length co28) : Value).ownBlock ∧ some k_ ≠ ((.slice Ao29 t329.length co29) : Value).ownBlock ∧ some k_ ≠ ((.slice Ao33 t334.length co33) : Value).ownBlock ∧ some k_ ≠ ((.slice Ao37 t337.length co37) : Value).ownBlock ∧ some k_ ≠ ((.slice Ao38 t340.length co38) : Value).ownBlock ∧ some k_ ≠ ((.slice Ao42 t347.length co42) : Value).ownBlock ∧ some k_ ≠ ((.slice Ao47 t350.length co47) : Value).ownBlock ∧ some k_ ≠ ((.slice Ao48 t353.length co48) : Value).ownBlock ∧ some k_ ≠ ((.slice Ao49 t356.length co49) : Value).ownBlock) (.slice Ao39 t343.length co39) t343) ∧ Aside0 (Kd.R (Kd.int .i64) 3 wc w.heap.size (fun k_ => some k_ ≠ ((.slice Ao24 t320.length co24) : Value).ownBlock ∧ some k_ ≠ ((.slice Ao27 t323.length co27) : Value).ownBlock ∧ some k_ ≠ ((.slice Ao28 t326.length co28) : Value).ownBlock ∧ some k_ ≠ ((.slice Ao29 t329.length co29) : Value).ownBlock ∧ some k_ ≠ ((.slice Ao33 t334.length co33) : Value).ownBlock ∧ some k_ ≠ ((.slice Ao37 t337.length co37) : Value).ownBlock ∧ some k_ ≠ ((.slice Ao38 t340.length co38) : Value).ownBlock ∧ some k_ ≠ ((.slice Ao39 t343.length co39) : Value).ownBlock ∧ some k_ ≠ ((.slice Ao47 t350.length co47) : Value).ownBlock ∧ some k_ ≠ ((.slice Ao48 t353.length co48) : Value).ownBlock ∧ some k_ ≠ ((.slice Ao49 t356.length co49) : Value).ownBlock) (.slice Ao42 t347.length co42) t347) ∧ Aside0 (Kd.R (Kd.int .i64) 3 wc w.heap.size (fun k_ => some k_ ≠ ((.slice Ao24 t320.length co24) : Value).ownBlock ∧ some k_ ≠ ((.slice Ao27 t323.length co27) : Value).ownBlock ∧ some k_ ≠ ((.slice Ao28 t326.length co28) : Value).ownBlock ∧ some k_ ≠ ((.slice Ao29 t329.length co29) : Value).ownBlock ∧ some k_ ≠ ((.slice Ao33 t334.length co33) : Value).ownBlock ∧ some k_ ≠ ((.slice Ao37 t337.length co37) : Value).ownBlock ∧ some k_ ≠ ((.slice Ao38 t340.length co38) : Value).ownBlock ∧ some k_ ≠ ((.slice Ao39 t343.length co39) : Value).ownBlock ∧ some k_ ≠ ((.slice Ao42 t347.length co42) : Value).ownBlock ∧ some k_ ≠ ((.slice Ao48 t353.length co48) : Value).ownBlock ∧ some k_ ≠ ((.slice Ao49 t356.length co49) : Value).ownBlock) (.slice Ao47 t350.length co47) t350) ∧ Aside0 (Kd.R (Kd.int .i64) 3 wc w.heap.size (fun k_ => some k_ ≠ ((.slice Ao24 t320.length co24) : Value).ownBlock ∧ some k_ ≠ ((.slice Ao27 t323.length co27) : Value).ownBlock ∧ some k_ ≠ ((.slice Ao28 t326.length co28) : Value).ownBlock ∧ some k_ ≠ ((.slice Ao29 t329.length co29) : Value).ownBlock ∧ some k_ ≠ ((.slice Ao33 t334.length co33) : Value).ownBlock ∧ some k_ ≠ ((.slice Ao37 t337.length co37) : Value).ownBlock ∧ some k_ ≠ ((.slice Ao38 t340.length co38) : Value).ownBlock ∧ some k_ ≠ ((.slice Ao39 t343.length co39) : Value).ownBlock ∧ some k_ ≠ ((.slice Ao42 t347.length co42) : Value).ownBlock ∧ some k_ ≠ ((.slice Ao47 t350.length co47) : Value).ownBlock ∧ some k_ ≠ ((.slice Ao49 t356.length co49) : Value).ownBlock) (.slice Ao48 t353.length co48) t353) ∧ Aside0 (Kd.R (Kd.int .i64) 3 wc w.heap.size (fun k_ => some k_ ≠ ((.slice Ao24 t320.length co24) : Value).ownBlock ∧ some k_ ≠ ((.slice Ao27 t323.length co27) : Value).ownBlock ∧ some k_ ≠ ((.slice Ao28 t326.length co28) : Value).ownBlock ∧ some k_ ≠ ((.slice Ao29 t329.length co29) : Value).ownBlock ∧ some k_ ≠ ((.slice Ao33 t334.length co33) : Value).ownBlock ∧ some k_ ≠ ((.slice Ao37 t337.length co37) : Value).ownBlock ∧ some k_ ≠ ((.slice Ao38 t340.length co38) : Value).ownBlock ∧ some k_ ≠ ((.slice Ao39 t343.length co39) : Value).ownBlock ∧ some k_ ≠ ((.slice Ao42 t347.length co42) : Value).ownBlock ∧ some k_ ≠ ((.slice Ao47 t350.length co47) : Value).ownBlock ∧ some k_ ≠ ((.slice Ao48 t353.length co48) : Value).ownBlock) (.slice Ao49 t356.length co49) t356) ∧ Aside0 (wc.heap[gb306]? = some (.cells #[(.slice A0_0 l0_0.length c0_0), (.slice A0_1 l0_1.length c0_1), (.slice A0_2 l0_2.length c0_2), (.slice A0_3 l0_3.length c0_3)] 26 (0, 0))) ∧ Aside0 (wc.heap[gb333]? = some (.cells #[(.slice Ao24 t320.length co24), (.slice Ao27 t323.length co27), (.slice Ao28 t326.length co28), (.slice Ao29 t329.length co29)] 30 (0, 0))) ∧ Aside0 (wc.heap[gb346]? = some (.cells #[(.slice Ao33 t334.length co33), (.slice Ao37 t337.length co37), (.slice Ao38 t340.length co38), (.slice Ao39 t343.length co39)] 30 (0, 0))) ∧ Aside0 (wc.heap[gb360]? = some (.cells #[(.slice Ao42 t347.length co42), (.slice Ao47 t350.length co47), (.slice Ao48 t353.length co48), (.slice Ao49 t356.length co49)] 30 (0, 0))) ∧ Aside0 (Below w.heap.size w wc))
  case first =>
   have H := HC12.out
   clear HC12
   replace H := Option.bind_eq_some_iff.mp H
   obtain ⟨t361, A500, H⟩ := H
   replace H : (if t361 = true then (laws_FnExactShadeCell.j0 k a1 t332 t359 (t359 != t332) l0_0 l0_1 l0_2 l0_3 t320 t323 t326 t329 t334 t337 t340 t343 t347 t350 t353 t356) else (laws_FnExactShadeCell.j0 k a1 t332 t359 true l0_0 l0_1 l0_2 l0_3 t320 t323 t326 t329 t334 t337 t340 t343 t347 t350 t353 t356)) = some r := H
   have A50 := am A500
   clear A500
   by_cases c51 : t361 = true
   ·subst c51
    have H1 : (laws_FnExactShadeCell.j0 k a1 t332 t359 (t359 != t332) l0_0 l0_1 l0_2 l0_3 t320 t323 t326 t329 t334 t337 t340 t343 t347 t350 t353 t356) = some r := by rw [if_pos rfl] at H; exact H
    clear H
    have H := H1
    clear H1
    have H' := am H
    clear H
    have hnb52 := NB360_306.out
    have hnc52 := NB306_360.out
    have hnb53 := NB360_333.out
    have hnc53 := NB333_360.out
    have hnb54 := NB360_346.out
    have hnc54 := NB346_360.out
    have hcz55_0 : w41.cell? ⟨gb360, 0, none⟩ = some (.slice none 0 0) := (blk_cell BK360.out 0).trans rfl
    have hcz55_1 : w41.cell? ⟨gb360, 1, none⟩ = some (.slice none 0 0) := (blk_cell BK360.out 1).trans rfl
    have hcz55_2 : w41.cell? ⟨gb360, 2, none⟩ = some (.slice none 0 0) := (blk_cell BK360.out 2).trans rfl
    have hcz55_3 : w41.cell? ⟨gb360, 3, none⟩ = some (.slice none 0 0) := (blk_cell BK360.out 3).trans rfl
    have hfz55_0 := blk_frozen BK360.out 0
    have hfz55_1 := blk_frozen BK360.out 1
    have hfz55_2 := blk_frozen BK360.out 2
    have hfz55_3 := blk_frozen BK360.out 3
    have hnb56 := NB333_306.out
    have hnc56 := NB306_333.out
    have hnb57 := NB333_346.out
    have hnc57 := NB346_333.out
    have hcz58_0 : w41.cell? ⟨gb333, 0, none⟩ = some (.slice Ao24 t320.length co24) := (blk_cell BK333.out 0).trans rfl
    have hcz58_1 : w41.cell? ⟨gb333, 1, none⟩ = some (.slice Ao27 t323.length co27) := (blk_cell BK333.out 1).trans rfl
    have hcz58_2 : w41.cell? ⟨gb333, 2, none⟩ = some (.slice Ao28 t326.length co28) := (blk_cell BK333.out 2).trans rfl
    have hcz58_3 : w41.cell? ⟨gb333, 3, none⟩ = some (.slice Ao29 t329.length co29) := (blk_cell BK333.out 3).trans rfl
    have hfz58_0 := blk_frozen BK333.out 0
    have hfz58_1 := blk_frozen BK333.out 1
    have hfz58_2 := blk_frozen BK333.out 2
    have hfz58_3 := blk_frozen BK333.out 3
    go_wp2_with (first | ((with_reducible refine gate_callee (f := 21) rfl ?_); refine goesL_ (some 38) rfl rfl Try.func21 (by kernel_rfl) rfl #[.agg #[.slice Ao42 t347.length co42, .slice Ao47 t350.length co47, .slice Ao48 t353.length co48, .slice Ao49 t356.length co49], .agg #[.slice Ao24 t320.length co24, .slice Ao27 t323.length co27, .slice Ao28 t326.length co28, .slice Ao29 t329.length co29]] rfl (by (try simp only [List.map_toArray, List.map_cons, List.map_nil]); first | done | rfl | (simp only [List.length_drop, List.length_take]; rfl)) ?_; (with_reducible refine (laws_eqColored.calls k _ _ t347 _ _ t350 _ _ t353 _ _ t356 _ _ t320 _ _ t323 _ _ t326 _ _ t329 true _ ?side1 ?side2 ?side3 ?side4 ?side5 ?side6 ?side7 ?side8 ?side9 ?side10 ?side11 ?side12 ?side13 ?side14 ?side15 ?side16 A50.out).mono ?_); (case side1 => exact (Kd.R_reads' (rf1 BK360.out HO349.out)).2.2); (case side2 => exact (Kd.R_reads' HO349.out).2.1); (case side3 => exact (Kd.R_reads' (rf1 BK360.out HO352.out)).2.2); (case side4 => exact (Kd.R_reads' HO352.out).2.1); (case side5 => exact (Kd.R_reads' (rf1 BK360.out HO355.out)).2.2); (case side6 => exact (Kd.R_reads' HO355.out).2.1); (case side7 => exact (Kd.R_reads' (rf1 BK360.out HO358.out)).2.2); (case side8 => exact (Kd.R_reads' HO358.out).2.1); (case side9 => exact (Kd.R_reads' (rf1 BK360.out HO322.out)).2.2); (case side10 => exact (Kd.R_reads' HO322.out).2.1); (case side11 => exact (Kd.R_reads' (rf1 BK360.out HO325.out)).2.2); (case side12 => exact (Kd.R_reads' HO325.out).2.1); (case side13 => exact (Kd.R_reads' (rf1 BK360.out HO328.out)).2.2); (case side14 => exact (Kd.R_reads' HO328.out).2.1); (case side15 => exact (Kd.R_reads' (rf1 BK360.out HO331.out)).2.2); (case side16 => exact (Kd.R_reads' HO331.out).2.1); rintro e w59 ⟨rfl, hb⟩; refine ⟨_, rfl, ?_⟩; replace HO310 := am (Kd.R_below (rf1 BK360.out HO310.out) hb); replace HO313 := am (Kd.R_below (rf1 BK360.out HO313.out) hb); replace HO316 := am (Kd.R_below (rf1 BK360.out HO316.out) hb); replace HO319 := am (Kd.R_below (rf1 BK360.out HO319.out) hb); replace HO322 := am (Kd.R_below (rf1 BK360.out HO322.out) hb); replace HO325 := am (Kd.R_below (rf1 BK360.out HO325.out) hb); replace HO328 := am (Kd.R_below (rf1 BK360.out HO328.out) hb); replace HO331 := am (Kd.R_below (rf1 BK360.out HO331.out) hb); replace HO336 := am (Kd.R_below (rf1 BK360.out HO336.out) hb); replace HO339 := am (Kd.R_below (rf1 BK360.out HO339.out) hb); replace HO342 := am (Kd.R_below (rf1 BK360.out HO342.out) hb); replace HO345 := am (Kd.R_below (rf1 BK360.out HO345.out) hb); replace HO349 := am (Kd.R_below (rf1 BK360.out HO349.out) hb); replace HO352 := am (Kd.R_below (rf1 BK360.out HO352.out) hb); replace HO355 := am (Kd.R_below (rf1 BK360.out HO355.out) hb); replace HO358 := am (Kd.R_below (rf1 BK360.out HO358.out) hb); replace BK306 := am (blk_below (g := gb306) (o := .cells #[.slice A0_0 l0_0.length c0_0, .slice A0_1 l0_1.length c0_1, .slice A0_2 l0_2.length c0_2, .slice A0_3 l0_3.length c0_3] 26 (0, 0)) (kf1 NB306_360.out BK306.out) hb); replace BK333 := am (blk_below (g := gb333) (o := .cells #[.slice Ao24 t320.length co24, .slice Ao27 t323.length co27, .slice Ao28 t326.length co28, .slice Ao29 t329.length co29] 30 (0, 0)) (kf1 NB333_360.out BK333.out) hb); replace BK346 := am (blk_below (g := gb346) (o := .cells #[.slice Ao33 t334.length co33, .slice Ao37 t337.length co37, .slice Ao38 t340.length co38, .slice Ao39 t343.length co39] 30 (0, 0)) (kf1 NB346_360.out BK346.out) hb); replace BK360 := am (blk_below (g := gb360) (o := .cells #[.slice Ao42 t347.length co42, .slice Ao47 t350.length co47, .slice Ao48 t353.length co48, .slice Ao49 t356.length co49] 30 (0, 0)) (kp4 (kf0 BK360.out)) hb); replace HB := am (below_step (bs4 GE306.out GE333.out GE346.out GE360.out HB.out) hb); (try clear hb); (try clear hb2); (try clear hk); (try clear hi)))
    go_meet
    case rel => exact ⟨_, ((t359 != t332)), (by first | rfl | (simp; done) | (simp [*]; done)), H', ⟨by first | omega | exact Nat.le_refl _⟩, ⟨rl (Kd.R_mono HO322.out (fun _ hk => by simp only [ne_eq] at hk ⊢; simp only [hk, not_false_eq_true, and_self]))⟩, ⟨rl (Kd.R_mono HO325.out (fun _ hk => by simp only [ne_eq] at hk ⊢; simp only [hk, not_false_eq_true, and_self]))⟩, ⟨rl (Kd.R_mono HO328.out (fun _ hk => by simp only [ne_eq] at hk ⊢; simp only [hk, not_false_eq_true, and_self]))⟩, ⟨rl (Kd.R_mono HO331.out (fun _ hk => by simp only [ne_eq] at hk ⊢; simp only [hk, not_false_eq_true, and_self]))⟩, ⟨rl (Kd.R_mono HO336.out (fun _ hk => by simp only [ne_eq] at hk ⊢; simp only [hk, not_false_eq_true, and_self]))⟩, ⟨rl (Kd.R_mono HO339.out (fun _ hk => by simp only [ne_eq] at hk ⊢; simp only [hk, not_false_eq_true, and_self]))⟩, ⟨rl (Kd.R_mono HO342.out (fun _ hk => by simp only [ne_eq] at hk ⊢; simp only [hk, not_false_eq_true, and_self]))⟩, ⟨rl (Kd.R_mono HO345.out (fun _ hk => by simp only [ne_eq] at hk ⊢; simp only [hk, not_false_eq_true, and_self]))⟩, ⟨rl (Kd.R_mono HO349.out (fun _ hk => by simp only [ne_eq] at hk ⊢; simp only [hk, not_false_eq_true, and_self]))⟩, ⟨rl (Kd.R_mono HO352.out (fun _ hk => by simp only [ne_eq] at hk ⊢; simp only [hk, not_false_eq_true, and_self]))⟩, ⟨rl (Kd.R_mono HO355.out (fun _ hk => by simp only [ne_eq] at hk ⊢; simp only [hk, not_false_eq_true, and_self]))⟩, ⟨rl (Kd.R_mono HO358.out (fun _ hk => by simp only [ne_eq] at hk ⊢; simp only [hk, not_false_eq_true, and_self]))⟩, ⟨kl BK306.out⟩, ⟨kl BK333.out⟩, ⟨kl BK346.out⟩, ⟨kl BK360.out⟩, ⟨by exact bs4 GE306.out GE333.out GE346.out GE360.out HB.out⟩⟩
   ·replace c51 := Bool.eq_false_iff.mpr c51
    subst c51
    have H1 : (laws_FnExactShadeCell.j0 k a1 t332 t359 true l0_0 l0_1 l0_2 l0_3 t320 t323 t326 t329 t334 t337 t340 t343 t347 t350 t353 t356) = some r := by rw [if_neg (show ¬ (false = true) by decide)] at H; exact H
    clear H
    have H := H1
    clear H1
    have H' := am H
    clear H
    have hnb60 := NB360_306.out
    have hnc60 := NB306_360.out
    have hnb61 := NB360_333.out
    have hnc61 := NB333_360.out
    have hnb62 := NB360_346.out
    have hnc62 := NB346_360.out
    have hcz63_0 : w41.cell? ⟨gb360, 0, none⟩ = some (.slice none 0 0) := (blk_cell BK360.out 0).trans rfl
    have hcz63_1 : w41.cell? ⟨gb360, 1, none⟩ = some (.slice none 0 0) := (blk_cell BK360.out 1).trans rfl
    have hcz63_2 : w41.cell? ⟨gb360, 2, none⟩ = some (.slice none 0 0) := (blk_cell BK360.out 2).trans rfl
    have hcz63_3 : w41.cell? ⟨gb360, 3, none⟩ = some (.slice none 0 0) := (blk_cell BK360.out 3).trans rfl
    have hfz63_0 := blk_frozen BK360.out 0
    have hfz63_1 := blk_frozen BK360.out 1
    have hfz63_2 := blk_frozen BK360.out 2
    have hfz63_3 := blk_frozen BK360.out 3
    have hnb64 := NB333_306.out
    have hnc64 := NB306_333.out
    have hnb65 := NB333_346.out
    have hnc65 := NB346_333.out
    have hcz66_0 : w41.cell? ⟨gb333, 0, none⟩ = some (.slice Ao24 t320.length co24) := (blk_cell BK333.out 0).trans rfl
    have hcz66_1 : w41.cell? ⟨gb333, 1, none⟩ = some (.slice Ao27 t323.length co27) := (blk_cell BK333.out 1).trans rfl
    have hcz66_2 : w41.cell? ⟨gb333, 2, none⟩ = some (.slice Ao28 t326.length co28) := (blk_cell BK333.out 2).trans rfl
    have hcz66_3 : w41.cell? ⟨gb333, 3, none⟩ = some (.slice Ao29 t329.length co29) := (blk_cell BK333.out 3).trans rfl
    have hfz66_0 := blk_frozen BK333.out 0
    have hfz66_1 := blk_frozen BK333.out 1
    have hfz66_2 := blk_frozen BK333.out 2
    have hfz66_3 := blk_frozen BK333.out 3
    go_wp2_with (first | ((with_reducible refine gate_callee (f := 21) rfl ?_); refine goesL_ (some 38) rfl rfl Try.func21 (by kernel_rfl) rfl #[.agg #[.slice Ao42 t347.length co42, .slice Ao47 t350.length co47, .slice Ao48 t353.length co48, .slice Ao49 t356.length co49], .agg #[.slice Ao24 t320.length co24, .slice Ao27 t323.length co27, .slice Ao28 t326.length co28, .slice Ao29 t329.length co29]] rfl (by (try simp only [List.map_toArray, List.map_cons, List.map_nil]); first | done | rfl | (simp only [List.length_drop, List.length_take]; rfl)) ?_; (with_reducible refine (laws_eqColored.calls k _ _ t347 _ _ t350 _ _ t353 _ _ t356 _ _ t320 _ _ t323 _ _ t326 _ _ t329 false _ ?side1 ?side2 ?side3 ?side4 ?side5 ?side6 ?side7 ?side8 ?side9 ?side10 ?side11 ?side12 ?side13 ?side14 ?side15 ?side16 A50.out).mono ?_); (case side1 => exact (Kd.R_reads' (rf1 BK360.out HO349.out)).2.2); (case side2 => exact (Kd.R_reads' HO349.out).2.1); (case side3 => exact (Kd.R_reads' (rf1 BK360.out HO352.out)).2.2); (case side4 => exact (Kd.R_reads' HO352.out).2.1); (case side5 => exact (Kd.R_reads' (rf1 BK360.out HO355.out)).2.2); (case side6 => exact (Kd.R_reads' HO355.out).2.1); (case side7 => exact (Kd.R_reads' (rf1 BK360.out HO358.out)).2.2); (case side8 => exact (Kd.R_reads' HO358.out).2.1); (case side9 => exact (Kd.R_reads' (rf1 BK360.out HO322.out)).2.2); (case side10 => exact (Kd.R_reads' HO322.out).2.1); (case side11 => exact (Kd.R_reads' (rf1 BK360.out HO325.out)).2.2); (case side12 => exact (Kd.R_reads' HO325.out).2.1); (case side13 => exact (Kd.R_reads' (rf1 BK360.out HO328.out)).2.2); (case side14 => exact (Kd.R_reads' HO328.out).2.1); (case side15 => exact (Kd.R_reads' (rf1 BK360.out HO331.out)).2.2); (case side16 => exact (Kd.R_reads' HO331.out).2.1); rintro e w67 ⟨rfl, hb⟩; refine ⟨_, rfl, ?_⟩; replace HO310 := am (Kd.R_below (rf1 BK360.out HO310.out) hb); replace HO313 := am (Kd.R_below (rf1 BK360.out HO313.out) hb); replace HO316 := am (Kd.R_below (rf1 BK360.out HO316.out) hb); replace HO319 := am (Kd.R_below (rf1 BK360.out HO319.out) hb); replace HO322 := am (Kd.R_below (rf1 BK360.out HO322.out) hb); replace HO325 := am (Kd.R_below (rf1 BK360.out HO325.out) hb); replace HO328 := am (Kd.R_below (rf1 BK360.out HO328.out) hb); replace HO331 := am (Kd.R_below (rf1 BK360.out HO331.out) hb); replace HO336 := am (Kd.R_below (rf1 BK360.out HO336.out) hb); replace HO339 := am (Kd.R_below (rf1 BK360.out HO339.out) hb); replace HO342 := am (Kd.R_below (rf1 BK360.out HO342.out) hb); replace HO345 := am (Kd.R_below (rf1 BK360.out HO345.out) hb); replace HO349 := am (Kd.R_below (rf1 BK360.out HO349.out) hb); replace HO352 := am (Kd.R_below (rf1 BK360.out HO352.out) hb); replace HO355 := am (Kd.R_below (rf1 BK360.out HO355.out) hb); replace HO358 := am (Kd.R_below (rf1 BK360.out HO358.out) hb); replace BK306 := am (blk_below (g := gb306) (o := .cells #[.slice A0_0 l0_0.length c0_0, .slice A0_1 l0_1.length c0_1, .slice A0_2 l0_2.length c0_2, .slice A0_3 l0_3.length c0_3] 26 (0, 0)) (kf1 NB306_360.out BK306.out) hb); replace BK333 := am (blk_below (g := gb333) (o := .cells #[.slice Ao24 t320.length co24, .slice Ao27 t323.length co27, .slice Ao28 t326.length co28, .slice Ao29 t329.length co29] 30 (0, 0)) (kf1 NB333_360.out BK333.out) hb); replace BK346 := am (blk_below (g := gb346) (o := .cells #[.slice Ao33 t334.length co33, .slice Ao37 t337.length co37, .slice Ao38 t340.length co38, .slice Ao39 t343.length co39] 30 (0, 0)) (kf1 NB346_360.out BK346.out) hb); replace BK360 := am (blk_below (g := gb360) (o := .cells #[.slice Ao42 t347.length co42, .slice Ao47 t350.length co47, .slice Ao48 t353.length co48, .slice Ao49 t356.length co49] 30 (0, 0)) (kp4 (kf0 BK360.out)) hb); replace HB := am (below_step (bs4 GE306.out GE333.out GE346.out GE360.out HB.out) hb); (try clear hb); (try clear hb2); (try clear hk); (try clear hi)))
    go_meet
    case rel => exact ⟨_, (true), (by first | rfl | (simp; done) | (simp [*]; done)), H', ⟨by first | omega | exact Nat.le_refl _⟩, ⟨rl (Kd.R_mono HO322.out (fun _ hk => by simp only [ne_eq] at hk ⊢; simp only [hk, not_false_eq_true, and_self]))⟩, ⟨rl (Kd.R_mono HO325.out (fun _ hk => by simp only [ne_eq] at hk ⊢; simp only [hk, not_false_eq_true, and_self]))⟩, ⟨rl (Kd.R_mono HO328.out (fun _ hk => by simp only [ne_eq] at hk ⊢; simp only [hk, not_false_eq_true, and_self]))⟩, ⟨rl (Kd.R_mono HO331.out (fun _ hk => by simp only [ne_eq] at hk ⊢; simp only [hk, not_false_eq_true, and_self]))⟩, ⟨rl (Kd.R_mono HO336.out (fun _ hk => by simp only [ne_eq] at hk ⊢; simp only [hk, not_false_eq_true, and_self]))⟩, ⟨rl (Kd.R_mono HO339.out (fun _ hk => by simp only [ne_eq] at hk ⊢; simp only [hk, not_false_eq_true, and_self]))⟩, ⟨rl (Kd.R_mono HO342.out (fun _ hk => by simp only [ne_eq] at hk ⊢; simp only [hk, not_false_eq_true, and_self]))⟩, ⟨rl (Kd.R_mono HO345.out (fun _ hk => by simp only [ne_eq] at hk ⊢; simp only [hk, not_false_eq_true, and_self]))⟩, ⟨rl (Kd.R_mono HO349.out (fun _ hk => by simp only [ne_eq] at hk ⊢; simp only [hk, not_false_eq_true, and_self]))⟩, ⟨rl (Kd.R_mono HO352.out (fun _ hk => by simp only [ne_eq] at hk ⊢; simp only [hk, not_false_eq_true, and_self]))⟩, ⟨rl (Kd.R_mono HO355.out (fun _ hk => by simp only [ne_eq] at hk ⊢; simp only [hk, not_false_eq_true, and_self]))⟩, ⟨rl (Kd.R_mono HO358.out (fun _ hk => by simp only [ne_eq] at hk ⊢; simp only [hk, not_false_eq_true, and_self]))⟩, ⟨kl BK306.out⟩, ⟨kl BK333.out⟩, ⟨kl BK346.out⟩, ⟨kl BK360.out⟩, ⟨by exact bs4 GE306.out GE333.out GE346.out GE360.out HB.out⟩⟩
  case rest =>
   clear HC12
   try clear c1
   try clear c2
   try clear p2
   try clear c3
   try clear c4
   try clear c4b0
   try clear c5
   try clear c6
   try clear c17
   try clear c18
   try clear c19
   try clear c20
   try clear c21
   try clear c25
   try clear c34
   try clear c35
   try clear c43
   try clear c44
   try clear c45
   try clear c51
   try clear c52
   try clear c53
   try clear c54
   try clear c56
   try clear c57
   try clear c60
   try clear c61
   try clear c62
   try clear c64
   try clear c65
   try clear hcz14_0
   try clear hcz14_1
   try clear hcz14_2
   try clear hcz14_3
   try clear hcz16_0
   try clear hcz16_1
   try clear hcz16_2
   try clear hcz16_3
   try clear hcz26_0
   try clear hcz26_1
   try clear hcz26_2
   try clear hcz26_3
   try clear hcz30_0
   try clear hcz30_1
   try clear hcz30_2
   try clear hcz30_3
   try clear hcz36_0
   try clear hcz36_1
   try clear hcz36_2
   try clear hcz36_3
   try clear hcz46_0
   try clear hcz46_1
   try clear hcz46_2
   try clear hcz46_3
   try clear hcz55_0
   try clear hcz55_1
   try clear hcz55_2
   try clear hcz55_3
   try clear hcz58_0
   try clear hcz58_1
   try clear hcz58_2
   try clear hcz58_3
   try clear hcz63_0
   try clear hcz63_1
   try clear hcz63_2
   try clear hcz63_3
   try clear hcz66_0
   try clear hcz66_1
   try clear hcz66_2
   try clear hcz66_3
   try clear hcz6_0
   try clear hcz6_1
   try clear hcz6_2
   try clear hcz6_3
   try clear hfz14_0
   try clear hfz14_1
   try clear hfz14_2
   try clear hfz14_3
   try clear hfz16_0
   try clear hfz16_1
   try clear hfz16_2
   try clear hfz16_3
   try clear hfz26_0
   try clear hfz26_1
   try clear hfz26_2
   try clear hfz26_3
   try clear hfz30_0
   try clear hfz30_1
   try clear hfz30_2
   try clear hfz30_3
   try clear hfz36_0
   try clear hfz36_1
   try clear hfz36_2
   try clear hfz36_3
   try clear hfz46_0
   try clear hfz46_1
   try clear hfz46_2
   try clear hfz46_3
   try clear hfz55_0
   try clear hfz55_1
   try clear hfz55_2
   try clear hfz55_3
   try clear hfz58_0
   try clear hfz58_1
   try clear hfz58_2
   try clear hfz58_3
   try clear hfz63_0
   try clear hfz63_1
   try clear hfz63_2
   try clear hfz63_3
   try clear hfz66_0
   try clear hfz66_1
   try clear hfz66_2
   try clear hfz66_3
   try clear hfz6_0
   try clear hfz6_1
   try clear hfz6_2
   try clear hfz6_3
   obtain ⟨kq, x44_11, rfl, HA, HJ11, HO_334000, HO_334001, HO_334002, HO_334003, HO_347000, HO_347001, HO_347002, HO_347003, HO_361000, HO_361001, HO_361002, HO_361003, BK306, BK333, BK346, BK360, HB⟩ := hcut
   cases kq with
   | zero => exact absurd HA.out (by simp [laws_FnExactShadeCell.j0])
   | succ kj11 =>
    have H := HA.out
    clear HA
    simp only [laws_FnExactShadeCell.j0] at H
    by_cases c68 : x44_11 = true
    ·subst c68
     have H1 : (none) = some r := by rw [if_pos rfl] at H; exact H
     clear H
     have H := H1
     clear H1
     exact absurd H (by simp)
    ·replace c68 := Bool.eq_false_iff.mpr c68
     subst c68
     have H1 : ((laws_toColored.f kj11 l0_0 l0_1 l0_2 l0_3).bind fun bt362 => ((laws_eqColored.f kj11 t334 t337 t340 t343 bt362.1 bt362.2.1 bt362.2.2.1 bt362.2.2.2).bind fun t374 => (if t374 = true then ((laws_markColored.f kj11 t334 t337 t340 t343 1).bind fun bt375 => (if bt375.1 < 0 then (laws_FnExactShadeCell.j1 kj11 a1 t332 true l0_0 l0_1 l0_2 l0_3 t320 t323 t326 t329 t347 t350 t353 t356) else ((laws_eqColored.f kj11 t347 t350 t353 t356 t320 t323 t326 t329).bind fun t380 => (if t380 = true then (laws_FnExactShadeCell.j1 kj11 a1 t332 (t359 != t332) l0_0 l0_1 l0_2 l0_3 t320 t323 t326 t329 t347 t350 t353 t356) else (laws_FnExactShadeCell.j1 kj11 a1 t332 true l0_0 l0_1 l0_2 l0_3 t320 t323 t326 t329 t347 t350 t353 t356))))) else (none)))) = some r := by rw [if_neg (show ¬ (false = true) by decide)] at H; exact H
     clear H
     have H := H1
     clear H1
     replace H := Option.bind_eq_some_iff.mp H
     obtain ⟨⟨t362, t365, t368, t371⟩, A690, H⟩ := H
     replace H : ((laws_eqColored.f kj11 t334 t337 t340 t343 t362 t365 t368 t371).bind fun t374 => (if t374 = true then ((laws_markColored.f kj11 t334 t337 t340 t343 1).bind fun bt375 => (if bt375.1 < 0 then (laws_FnExactShadeCell.j1 kj11 a1 t332 true l0_0 l0_1 l0_2 l0_3 t320 t323 t326 t329 t347 t350 t353 t356) else ((laws_eqColored.f kj11 t347 t350 t353 t356 t320 t323 t326 t329).bind fun t380 => (if t380 = true then (laws_FnExactShadeCell.j1 kj11 a1 t332 (t359 != t332) l0_0 l0_1 l0_2 l0_3 t320 t323 t326 t329 t347 t350 t353 t356) else (laws_FnExactShadeCell.j1 kj11 a1 t332 true l0_0 l0_1 l0_2 l0_3 t320 t323 t326 t329 t347 t350 t353 t356))))) else (none))) = some r := H
     have A69 := am A690
     clear A690
     replace H := Option.bind_eq_some_iff.mp H
     obtain ⟨t374, A700, H⟩ := H
     replace H : (if t374 = true then ((laws_markColored.f kj11 t334 t337 t340 t343 1).bind fun bt375 => (if bt375.1 < 0 then (laws_FnExactShadeCell.j1 kj11 a1 t332 true l0_0 l0_1 l0_2 l0_3 t320 t323 t326 t329 t347 t350 t353 t356) else ((laws_eqColored.f kj11 t347 t350 t353 t356 t320 t323 t326 t329).bind fun t380 => (if t380 = true then (laws_FnExactShadeCell.j1 kj11 a1 t332 (t359 != t332) l0_0 l0_1 l0_2 l0_3 t320 t323 t326 t329 t347 t350 t353 t356) else (laws_FnExactShadeCell.j1 kj11 a1 t332 true l0_0 l0_1 l0_2 l0_3 t320 t323 t326 t329 t347 t350 t353 t356))))) else (none)) = some r := H
     have A70 := am A700
     clear A700
     by_cases c71 : t374 = true
     ·subst c71
      have H1 : ((laws_markColored.f kj11 t334 t337 t340 t343 1).bind fun bt375 => (if bt375.1 < 0 then (laws_FnExactShadeCell.j1 kj11 a1 t332 true l0_0 l0_1 l0_2 l0_3 t320 t323 t326 t329 t347 t350 t353 t356) else ((laws_eqColored.f kj11 t347 t350 t353 t356 t320 t323 t326 t329).bind fun t380 => (if t380 = true then (laws_FnExactShadeCell.j1 kj11 a1 t332 (t359 != t332) l0_0 l0_1 l0_2 l0_3 t320 t323 t326 t329 t347 t350 t353 t356) else (laws_FnExactShadeCell.j1 kj11 a1 t332 true l0_0 l0_1 l0_2 l0_3 t320 t323 t326 t329 t347 t350 t353 t356))))) = some r := by rw [if_pos rfl] at H; exact H
      clear H
      have H := H1
      clear H1
      replace H := Option.bind_eq_some_iff.mp H
      obtain ⟨⟨t375, t376, t377, t378, t379⟩, A720, H⟩ := H
      replace H : (if t375 < 0 then (laws_FnExactShadeCell.j1 kj11 a1 t332 true l0_0 l0_1 l0_2 l0_3 t320 t323 t326 t329 t347 t350 t353 t356) else ((laws_eqColored.f kj11 t347 t350 t353 t356 t320 t323 t326 t329).bind fun t380 => (if t380 = true then (laws_FnExactShadeCell.j1 kj11 a1 t332 (t359 != t332) l0_0 l0_1 l0_2 l0_3 t320 t323 t326 t329 t347 t350 t353 t356) else (laws_FnExactShadeCell.j1 kj11 a1 t332 true l0_0 l0_1 l0_2 l0_3 t320 t323 t326 t329 t347 t350 t353 t356)))) = some r := H
      have A72 := am A720
      clear A720
      have HC73 := am H
      clear H
      try go_wp2
      replace HO_334000 := am (Kd.R_drew HO_334000.out)
      replace HO_334001 := am (Kd.R_drew HO_334001.out)
      replace HO_334002 := am (Kd.R_drew HO_334002.out)
      replace HO_334003 := am (Kd.R_drew HO_334003.out)
      replace HO_347000 := am (Kd.R_drew HO_347000.out)
      replace HO_347001 := am (Kd.R_drew HO_347001.out)
      replace HO_347002 := am (Kd.R_drew HO_347002.out)
      replace HO_347003 := am (Kd.R_drew HO_347003.out)
      replace HO_361000 := am (Kd.R_drew HO_361000.out)
      replace HO_361001 := am (Kd.R_drew HO_361001.out)
      replace HO_361002 := am (Kd.R_drew HO_361002.out)
      replace HO_361003 := am (Kd.R_drew HO_361003.out)
      replace BK306 := am (blk_drew BK306.out)
      replace BK333 := am (blk_drew BK333.out)
      replace BK346 := am (blk_drew BK346.out)
      replace BK360 := am (blk_drew BK360.out)
      replace HB := am (below_drew1 HB.out)
      refine start_ (n := 5) (S := fun w' => w'.cell? ⟨gb346, 0, none⟩ = some (.slice Ao33 t334.length co33) ∧ w'.cell? ⟨gb346, 1, none⟩ = some (.slice Ao37 t337.length co37) ∧ w'.cell? ⟨gb346, 2, none⟩ = some (.slice Ao38 t340.length co38) ∧ w'.cell? ⟨gb346, 3, none⟩ = some (.slice Ao39 t343.length co39) ∧ w'.cell? ⟨gb306, 0, none⟩ = some (.slice A0_0 l0_0.length c0_0) ∧ w'.cell? ⟨gb306, 1, none⟩ = some (.slice A0_1 l0_1.length c0_1) ∧ w'.cell? ⟨gb306, 2, none⟩ = some (.slice A0_2 l0_2.length c0_2) ∧ w'.cell? ⟨gb306, 3, none⟩ = some (.slice A0_3 l0_3.length c0_3)) (ds := []) #[false, false, false, false, false] (by kernel_rfl) rfl rfl ⟨(blk_cell BK346.out 0).trans rfl, (blk_cell BK346.out 1).trans rfl, (blk_cell BK346.out 2).trans rfl, (blk_cell BK346.out 3).trans rfl, (blk_cell BK306.out 0).trans rfl, (blk_cell BK306.out 1).trans rfl, (blk_cell BK306.out 2).trans rfl, (blk_cell BK306.out 3).trans rfl⟩ (fun hHeld => ?_)
      generalize wc.drew = w74 at HO_334000 HO_334001 HO_334002 HO_334003 HO_347000 HO_347001 HO_347002 HO_347003 HO_361000 HO_361001 HO_361002 HO_361003 BK306 BK333 BK346 BK360 HB hHeld ⊢
      refine take_ (i := 0) (N := some 45) (v := ?_) (a' := ?_) #[true, false, false, false, false] rfl rfl (by kernel_rfl) (fun _ _ _ h => h) (Or.inl ⟨by rfl, ?_⟩) hHeld ?_ ?_
      rotate_left
      ·rintro w' ⟨s0, s1, s2, s3, s4, s5, s6, s7⟩
       go_simp
       with_reducible rfl
      rotate_left
      ·simp only [Act.put, List.setIfInBounds_toArray, List.set_cons_zero, List.set_cons_succ, i64_w, i32_w]
       rfl
      refine take_ (i := 1) (N := some 46) (v := ?_) (a' := ?_) #[true, true, false, false, false] rfl rfl (by kernel_rfl) (fun _ _ _ h => h) (Or.inl ⟨by rfl, ?_⟩) hHeld ?_ ?_
      rotate_left
      ·rintro w' ⟨s0, s1, s2, s3, s4, s5, s6, s7⟩
       go_simp
       with_reducible rfl
      rotate_left
      ·simp only [Act.put, List.setIfInBounds_toArray, List.set_cons_zero, List.set_cons_succ, i64_w, i32_w]
       rfl
      refine one_ (i := 2) (N := some 47) #[true, true, true, false, false] rfl rfl (by kernel_rfl) (by decide) (fun K hK => ?_)
      refine goes_ Try.func19 (by kernel_rfl) rfl #[.agg #[.slice A0_0 l0_0.length c0_0, .slice A0_1 l0_1.length c0_1, .slice A0_2 l0_2.length c0_2, .slice A0_3 l0_3.length c0_3]] (by rfl) rfl rfl (by (try simp only [List.map_toArray, List.map_cons, List.map_nil]); first | done | rfl | (simp only [List.length_drop, List.length_take]; rfl)) ?_
      with_reducible refine (laws_toColored.calls kj11 _ _ l0_0 _ _ l0_1 _ _ l0_2 _ _ l0_3 t362 t365 t368 t371 _ ?side1 ?side2 ?side3 ?side4 ?side5 ?side6 ?side7 ?side8 A69.out).mono ?_
      (case side1 => exact cl (Kd.C_below HR0_0.out HB.out))
      (case side2 => exact HC0_0.out)
      (case side3 => exact cl (Kd.C_below HR0_1.out HB.out))
      (case side4 => exact HC0_1.out)
      (case side5 => exact cl (Kd.C_below HR0_2.out HB.out))
      (case side6 => exact HC0_2.out)
      (case side7 => exact cl (Kd.C_below HR0_3.out HB.out))
      (case side8 => exact HC0_3.out)
      rintro e w75 ⟨v363, v366, v369, v372, rfl, ho0, ho1, ho2, ho3, hb⟩
      refine ⟨_, rfl, ?_⟩
      have HO364 := am (Kd.R_lower (Kd.R_new' (Kd.R_new' (Kd.R_new' (Kd.R_new' (Kd.R_new' (Kd.R_new' (Kd.R_new' (Kd.R_new' (Kd.R_new' (Kd.R_new' (Kd.R_new' (Kd.R_new' ho0 (Kd.R_lt (rl HO_334000.out))) (Kd.R_lt (rl HO_334001.out))) (Kd.R_lt (rl HO_334002.out))) (Kd.R_lt (rl HO_334003.out))) (Kd.R_lt (rl HO_347000.out))) (Kd.R_lt (rl HO_347001.out))) (Kd.R_lt (rl HO_347002.out))) (Kd.R_lt (rl HO_347003.out))) (Kd.R_lt (rl HO_361000.out))) (Kd.R_lt (rl HO_361001.out))) (Kd.R_lt (rl HO_361002.out))) (Kd.R_lt (rl HO_361003.out))) (below_size (bs4 GE306.out GE333.out GE346.out GE360.out HB.out)))
      have HO367 := am (Kd.R_lower (Kd.R_new' (Kd.R_new' (Kd.R_new' (Kd.R_new' (Kd.R_new' (Kd.R_new' (Kd.R_new' (Kd.R_new' (Kd.R_new' (Kd.R_new' (Kd.R_new' (Kd.R_new' ho1 (Kd.R_lt (rl HO_334000.out))) (Kd.R_lt (rl HO_334001.out))) (Kd.R_lt (rl HO_334002.out))) (Kd.R_lt (rl HO_334003.out))) (Kd.R_lt (rl HO_347000.out))) (Kd.R_lt (rl HO_347001.out))) (Kd.R_lt (rl HO_347002.out))) (Kd.R_lt (rl HO_347003.out))) (Kd.R_lt (rl HO_361000.out))) (Kd.R_lt (rl HO_361001.out))) (Kd.R_lt (rl HO_361002.out))) (Kd.R_lt (rl HO_361003.out))) (below_size (bs4 GE306.out GE333.out GE346.out GE360.out HB.out)))
      have HO370 := am (Kd.R_lower (Kd.R_new' (Kd.R_new' (Kd.R_new' (Kd.R_new' (Kd.R_new' (Kd.R_new' (Kd.R_new' (Kd.R_new' (Kd.R_new' (Kd.R_new' (Kd.R_new' (Kd.R_new' ho2 (Kd.R_lt (rl HO_334000.out))) (Kd.R_lt (rl HO_334001.out))) (Kd.R_lt (rl HO_334002.out))) (Kd.R_lt (rl HO_334003.out))) (Kd.R_lt (rl HO_347000.out))) (Kd.R_lt (rl HO_347001.out))) (Kd.R_lt (rl HO_347002.out))) (Kd.R_lt (rl HO_347003.out))) (Kd.R_lt (rl HO_361000.out))) (Kd.R_lt (rl HO_361001.out))) (Kd.R_lt (rl HO_361002.out))) (Kd.R_lt (rl HO_361003.out))) (below_size (bs4 GE306.out GE333.out GE346.out GE360.out HB.out)))
      have HO373 := am (Kd.R_lower (Kd.R_new' (Kd.R_new' (Kd.R_new' (Kd.R_new' (Kd.R_new' (Kd.R_new' (Kd.R_new' (Kd.R_new' (Kd.R_new' (Kd.R_new' (Kd.R_new' (Kd.R_new' ho3 (Kd.R_lt (rl HO_334000.out))) (Kd.R_lt (rl HO_334001.out))) (Kd.R_lt (rl HO_334002.out))) (Kd.R_lt (rl HO_334003.out))) (Kd.R_lt (rl HO_347000.out))) (Kd.R_lt (rl HO_347001.out))) (Kd.R_lt (rl HO_347002.out))) (Kd.R_lt (rl HO_347003.out))) (Kd.R_lt (rl HO_361000.out))) (Kd.R_lt (rl HO_361001.out))) (Kd.R_lt (rl HO_361002.out))) (Kd.R_lt (rl HO_361003.out))) (below_size (bs4 GE306.out GE333.out GE346.out GE360.out HB.out)))
      replace HO_334000 := am (Kd.R_mono (Kd.R_told (Kd.R_told (Kd.R_told (Kd.R_told (Kd.R_old (rl HO_334000.out) hb) (Kd.R_base ho0)) (Kd.R_base ho1)) (Kd.R_base ho2)) (Kd.R_base ho3)) (fun _ h_ => h_.1))
      replace HO_334001 := am (Kd.R_mono (Kd.R_told (Kd.R_told (Kd.R_told (Kd.R_told (Kd.R_old (rl HO_334001.out) hb) (Kd.R_base ho0)) (Kd.R_base ho1)) (Kd.R_base ho2)) (Kd.R_base ho3)) (fun _ h_ => h_.1))
      replace HO_334002 := am (Kd.R_mono (Kd.R_told (Kd.R_told (Kd.R_told (Kd.R_told (Kd.R_old (rl HO_334002.out) hb) (Kd.R_base ho0)) (Kd.R_base ho1)) (Kd.R_base ho2)) (Kd.R_base ho3)) (fun _ h_ => h_.1))
      replace HO_334003 := am (Kd.R_mono (Kd.R_told (Kd.R_told (Kd.R_told (Kd.R_told (Kd.R_old (rl HO_334003.out) hb) (Kd.R_base ho0)) (Kd.R_base ho1)) (Kd.R_base ho2)) (Kd.R_base ho3)) (fun _ h_ => h_.1))
      replace HO_347000 := am (Kd.R_mono (Kd.R_told (Kd.R_told (Kd.R_told (Kd.R_told (Kd.R_old (rl HO_347000.out) hb) (Kd.R_base ho0)) (Kd.R_base ho1)) (Kd.R_base ho2)) (Kd.R_base ho3)) (fun _ h_ => h_.1))
      replace HO_347001 := am (Kd.R_mono (Kd.R_told (Kd.R_told (Kd.R_told (Kd.R_told (Kd.R_old (rl HO_347001.out) hb) (Kd.R_base ho0)) (Kd.R_base ho1)) (Kd.R_base ho2)) (Kd.R_base ho3)) (fun _ h_ => h_.1))
      replace HO_347002 := am (Kd.R_mono (Kd.R_told (Kd.R_told (Kd.R_told (Kd.R_told (Kd.R_old (rl HO_347002.out) hb) (Kd.R_base ho0)) (Kd.R_base ho1)) (Kd.R_base ho2)) (Kd.R_base ho3)) (fun _ h_ => h_.1))
      replace HO_347003 := am (Kd.R_mono (Kd.R_told (Kd.R_told (Kd.R_told (Kd.R_told (Kd.R_old (rl HO_347003.out) hb) (Kd.R_base ho0)) (Kd.R_base ho1)) (Kd.R_base ho2)) (Kd.R_base ho3)) (fun _ h_ => h_.1))
      replace HO_361000 := am (Kd.R_mono (Kd.R_told (Kd.R_told (Kd.R_told (Kd.R_told (Kd.R_old (rl HO_361000.out) hb) (Kd.R_base ho0)) (Kd.R_base ho1)) (Kd.R_base ho2)) (Kd.R_base ho3)) (fun _ h_ => h_.1))
      replace HO_361001 := am (Kd.R_mono (Kd.R_told (Kd.R_told (Kd.R_told (Kd.R_told (Kd.R_old (rl HO_361001.out) hb) (Kd.R_base ho0)) (Kd.R_base ho1)) (Kd.R_base ho2)) (Kd.R_base ho3)) (fun _ h_ => h_.1))
      replace HO_361002 := am (Kd.R_mono (Kd.R_told (Kd.R_told (Kd.R_told (Kd.R_told (Kd.R_old (rl HO_361002.out) hb) (Kd.R_base ho0)) (Kd.R_base ho1)) (Kd.R_base ho2)) (Kd.R_base ho3)) (fun _ h_ => h_.1))
      replace HO_361003 := am (Kd.R_mono (Kd.R_told (Kd.R_told (Kd.R_told (Kd.R_told (Kd.R_old (rl HO_361003.out) hb) (Kd.R_base ho0)) (Kd.R_base ho1)) (Kd.R_base ho2)) (Kd.R_base ho3)) (fun _ h_ => h_.1))
      replace BK306 := am (blk_below (g := gb306) (o := .cells #[.slice A0_0 l0_0.length c0_0, .slice A0_1 l0_1.length c0_1, .slice A0_2 l0_2.length c0_2, .slice A0_3 l0_3.length c0_3] 26 (0, 0)) (kl BK306.out) hb)
      replace BK333 := am (blk_below (g := gb333) (o := .cells #[.slice Ao24 t320.length co24, .slice Ao27 t323.length co27, .slice Ao28 t326.length co28, .slice Ao29 t329.length co29] 30 (0, 0)) (kl BK333.out) hb)
      replace BK346 := am (blk_below (g := gb346) (o := .cells #[.slice Ao33 t334.length co33, .slice Ao37 t337.length co37, .slice Ao38 t340.length co38, .slice Ao39 t343.length co39] 30 (0, 0)) (kl BK346.out) hb)
      replace BK360 := am (blk_below (g := gb360) (o := .cells #[.slice Ao42 t347.length co42, .slice Ao47 t350.length co47, .slice Ao48 t353.length co48, .slice Ao49 t356.length co49] 30 (0, 0)) (kl BK360.out) hb)
      replace HB := am (below_step (bs4 GE306.out GE333.out GE346.out GE360.out HB.out) hb)
      (try clear hb)
      (try clear hb2)
      (try clear hk)
      (try clear hi)
      (try clear ho0)
      (try clear ho1)
      (try clear ho2)
      (try clear ho3)
      obtain ⟨Ao76, co76, eo76⟩ := Kd.R_slice HO364.out
      (first | subst eo76 | (injection eo76 with f1_ f2_ f3_; have f4_ := f1_.symm; have f5_ := f3_.symm; clear f1_ f2_ f3_; subst f4_; subst f5_))
      obtain ⟨Ao77, co77, eo77⟩ := Kd.R_slice HO367.out
      (first | subst eo77 | (injection eo77 with f1_ f2_ f3_; have f4_ := f1_.symm; have f5_ := f3_.symm; clear f1_ f2_ f3_; subst f4_; subst f5_))
      obtain ⟨Ao78, co78, eo78⟩ := Kd.R_slice HO370.out
      (first | subst eo78 | (injection eo78 with f1_ f2_ f3_; have f4_ := f1_.symm; have f5_ := f3_.symm; clear f1_ f2_ f3_; subst f4_; subst f5_))
      obtain ⟨Ao79, co79, eo79⟩ := Kd.R_slice HO373.out
      (first | subst eo79 | (injection eo79 with f1_ f2_ f3_; have f4_ := f1_.symm; have f5_ := f3_.symm; clear f1_ f2_ f3_; subst f4_; subst f5_))
      refine hK.out _ _ ⟨(blk_cell BK346.out 0).trans rfl, (blk_cell BK346.out 1).trans rfl, (blk_cell BK346.out 2).trans rfl, (blk_cell BK346.out 3).trans rfl, (blk_cell BK306.out 0).trans rfl, (blk_cell BK306.out 1).trans rfl, (blk_cell BK306.out 2).trans rfl, (blk_cell BK306.out 3).trans rfl⟩ (fun hHeld => ?_)
      clear hK K
      refine norm_ (a' := ?_) ?_ ?_
      rotate_left
      ·show Act.put _ (some 47) _ = _
       simp only [Act.put, List.setIfInBounds_toArray, List.set_cons_zero, List.set_cons_succ, i64_w, i32_w]
       rfl
      refine one_ (i := 3) (N := some 48) #[true, true, true, true, false] rfl rfl (by kernel_rfl) (by decide) (fun K hK => ?_)
      refine goes_ Try.func21 (by kernel_rfl) rfl #[.agg #[.slice Ao33 t334.length co33, .slice Ao37 t337.length co37, .slice Ao38 t340.length co38, .slice Ao39 t343.length co39], .agg #[.slice Ao76 t362.length co76, .slice Ao77 t365.length co77, .slice Ao78 t368.length co78, .slice Ao79 t371.length co79]] (by rfl) rfl rfl (by (try simp only [List.map_toArray, List.map_cons, List.map_nil]); first | done | rfl | (simp only [List.length_drop, List.length_take]; rfl)) ?_
      with_reducible refine (laws_eqColored.calls kj11 _ _ t334 _ _ t337 _ _ t340 _ _ t343 _ _ t362 _ _ t365 _ _ t368 _ _ t371 true _ ?side1 ?side2 ?side3 ?side4 ?side5 ?side6 ?side7 ?side8 ?side9 ?side10 ?side11 ?side12 ?side13 ?side14 ?side15 ?side16 A70.out).mono ?_
      (case side1 => exact cl ((Kd.R_reads' HO_347000.out).2.2))
      (case side2 => exact (Kd.R_reads' HO_347000.out).2.1)
      (case side3 => exact cl ((Kd.R_reads' HO_347001.out).2.2))
      (case side4 => exact (Kd.R_reads' HO_347001.out).2.1)
      (case side5 => exact cl ((Kd.R_reads' HO_347002.out).2.2))
      (case side6 => exact (Kd.R_reads' HO_347002.out).2.1)
      (case side7 => exact cl ((Kd.R_reads' HO_347003.out).2.2))
      (case side8 => exact (Kd.R_reads' HO_347003.out).2.1)
      (case side9 => exact cl ((Kd.R_reads' HO364.out).2.2))
      (case side10 => exact (Kd.R_reads' HO364.out).2.1)
      (case side11 => exact cl ((Kd.R_reads' HO367.out).2.2))
      (case side12 => exact (Kd.R_reads' HO367.out).2.1)
      (case side13 => exact cl ((Kd.R_reads' HO370.out).2.2))
      (case side14 => exact (Kd.R_reads' HO370.out).2.1)
      (case side15 => exact cl ((Kd.R_reads' HO373.out).2.2))
      (case side16 => exact (Kd.R_reads' HO373.out).2.1)
      rintro e w80 ⟨rfl, hb⟩
      refine ⟨_, rfl, ?_⟩
      replace HO_334000 := am (Kd.R_below (rl HO_334000.out) hb)
      replace HO_334001 := am (Kd.R_below (rl HO_334001.out) hb)
      replace HO_334002 := am (Kd.R_below (rl HO_334002.out) hb)
      replace HO_334003 := am (Kd.R_below (rl HO_334003.out) hb)
      replace HO_347000 := am (Kd.R_below (rl HO_347000.out) hb)
      replace HO_347001 := am (Kd.R_below (rl HO_347001.out) hb)
      replace HO_347002 := am (Kd.R_below (rl HO_347002.out) hb)
      replace HO_347003 := am (Kd.R_below (rl HO_347003.out) hb)
      replace HO_361000 := am (Kd.R_below (rl HO_361000.out) hb)
      replace HO_361001 := am (Kd.R_below (rl HO_361001.out) hb)
      replace HO_361002 := am (Kd.R_below (rl HO_361002.out) hb)
      replace HO_361003 := am (Kd.R_below (rl HO_361003.out) hb)
      replace HO364 := am (Kd.R_below (rl HO364.out) hb)
      replace HO367 := am (Kd.R_below (rl HO367.out) hb)
      replace HO370 := am (Kd.R_below (rl HO370.out) hb)
      replace HO373 := am (Kd.R_below (rl HO373.out) hb)
      replace BK306 := am (blk_below (g := gb306) (o := .cells #[.slice A0_0 l0_0.length c0_0, .slice A0_1 l0_1.length c0_1, .slice A0_2 l0_2.length c0_2, .slice A0_3 l0_3.length c0_3] 26 (0, 0)) (kl BK306.out) hb)
      replace BK333 := am (blk_below (g := gb333) (o := .cells #[.slice Ao24 t320.length co24, .slice Ao27 t323.length co27, .slice Ao28 t326.length co28, .slice Ao29 t329.length co29] 30 (0, 0)) (kl BK333.out) hb)
      replace BK346 := am (blk_below (g := gb346) (o := .cells #[.slice Ao33 t334.length co33, .slice Ao37 t337.length co37, .slice Ao38 t340.length co38, .slice Ao39 t343.length co39] 30 (0, 0)) (kl BK346.out) hb)
      replace BK360 := am (blk_below (g := gb360) (o := .cells #[.slice Ao42 t347.length co42, .slice Ao47 t350.length co47, .slice Ao48 t353.length co48, .slice Ao49 t356.length co49] 30 (0, 0)) (kl BK360.out) hb)
      replace HB := am (below_step (bs4 GE306.out GE333.out GE346.out GE360.out HB.out) hb)
      (try clear hb)
      (try clear hb2)
      (try clear hk)
      (try clear hi)
      refine hK.out _ _ ⟨(blk_cell BK346.out 0).trans rfl, (blk_cell BK346.out 1).trans rfl, (blk_cell BK346.out 2).trans rfl, (blk_cell BK346.out 3).trans rfl, (blk_cell BK306.out 0).trans rfl, (blk_cell BK306.out 1).trans rfl, (blk_cell BK306.out 2).trans rfl, (blk_cell BK306.out 3).trans rfl⟩ (fun hHeld => ?_)
      clear hK K
      refine norm_ (a' := ?_) ?_ ?_
      rotate_left
      ·show Act.put _ (some 48) _ = _
       simp only [Act.put, List.setIfInBounds_toArray, List.set_cons_zero, List.set_cons_succ, i64_w, i32_w]
       rfl
      refine pure_ (i := 4) (N := some 49) (v := ?_) (a' := ?_) #[true, true, true, true, true] rfl rfl (by kernel_rfl) (fun _ _ _ h => h) (Or.inl ⟨by rfl, ?_⟩) ?_ ?_
      rotate_left
      ·intro w'
       go_simp
       with_reducible rfl
      rotate_left
      ·simp only [Act.put, List.setIfInBounds_toArray, List.set_cons_zero, List.set_cons_succ, i64_w, i32_w]
       rfl
      refine done_ (by kernel_rfl) ?_
      have hnb81 := NB346_306.out
      have hnc81 := NB306_346.out
      have hnb82 := NB346_333.out
      have hnc82 := NB333_346.out
      have hnb83 := NB346_360.out
      have hnc83 := NB360_346.out
      have hcz84_0 : w80.cell? ⟨gb346, 0, none⟩ = some (.slice Ao33 t334.length co33) := (blk_cell BK346.out 0).trans rfl
      have hcz84_1 : w80.cell? ⟨gb346, 1, none⟩ = some (.slice Ao37 t337.length co37) := (blk_cell BK346.out 1).trans rfl
      have hcz84_2 : w80.cell? ⟨gb346, 2, none⟩ = some (.slice Ao38 t340.length co38) := (blk_cell BK346.out 2).trans rfl
      have hcz84_3 : w80.cell? ⟨gb346, 3, none⟩ = some (.slice Ao39 t343.length co39) := (blk_cell BK346.out 3).trans rfl
      have hfz84_0 := blk_frozen BK346.out 0
      have hfz84_1 := blk_frozen BK346.out 1
      have hfz84_2 := blk_frozen BK346.out 2
      have hfz84_3 := blk_frozen BK346.out 3
      go_upto_region 14 with (first | ((with_reducible refine gate_callee (f := 22) rfl ?_); refine goesL_ (some 52) rfl rfl Try.func22 (by kernel_rfl) rfl #[.agg #[.slice Ao33 t334.length co33, .slice Ao37 t337.length co37, .slice Ao38 t340.length co38, .slice Ao39 t343.length co39], .int .i64 1] rfl (by (try simp only [List.map_toArray, List.map_cons, List.map_nil]); first | done | rfl | (simp only [List.length_drop, List.length_take]; rfl)) ?_; (with_reducible refine (laws_markColored.calls kj11 (fun k_ => some k_ = (.slice Ao33 t334.length co33 : Value).ownBlock) (.slice Ao33 t334.length co33) t334 (fun k_ => some k_ = (.slice Ao37 t337.length co37 : Value).ownBlock) (.slice Ao37 t337.length co37) t337 (fun k_ => some k_ = (.slice Ao38 t340.length co38 : Value).ownBlock) (.slice Ao38 t340.length co38) t340 (fun k_ => some k_ = (.slice Ao39 t343.length co39 : Value).ownBlock) (.slice Ao39 t343.length co39) t343 1 t375 t376 t377 t378 t379 w _ ?side1 ?side2 ?side3 ?side4 ?side5 ?side6 ?side7 ?side8 ?side9 ?side10 ?side11 ?side12 ?side13 ?side14 ?side15 ?side16 ?side17 A72.out).mono ?_); (case side1 => exact bs4 GE306.out GE333.out GE346.out GE360.out HB.out); (case side2 => exact Kd.R_tight rfl HO_347000.out); (case side3 => exact fun k_ e_ => by have z_ := HO_347000.out.1 k_ e_.symm; simp only [ne_eq] at z_; simp only [z_, not_false_eq_true]); (case side4 => exact fun k_ e_ => by have z_ := HO_347000.out.1 k_ e_.symm; simp only [ne_eq] at z_; simp only [z_, not_false_eq_true]); (case side5 => exact fun k_ e_ => by have z_ := HO_347000.out.1 k_ e_.symm; simp only [ne_eq] at z_; simp only [z_, not_false_eq_true]); (case side6 => exact Kd.R_tight rfl HO_347001.out); (case side7 => exact fun k_ e_ => by have z_ := HO_347001.out.1 k_ e_.symm; simp only [ne_eq] at z_; simp only [z_, not_false_eq_true]); (case side8 => exact fun k_ e_ => by have z_ := HO_347001.out.1 k_ e_.symm; simp only [ne_eq] at z_; simp only [z_, not_false_eq_true]); (case side9 => exact fun k_ e_ => by have z_ := HO_347001.out.1 k_ e_.symm; simp only [ne_eq] at z_; simp only [z_, not_false_eq_true]); (case side10 => exact Kd.R_tight rfl HO_347002.out); (case side11 => exact fun k_ e_ => by have z_ := HO_347002.out.1 k_ e_.symm; simp only [ne_eq] at z_; simp only [z_, not_false_eq_true]); (case side12 => exact fun k_ e_ => by have z_ := HO_347002.out.1 k_ e_.symm; simp only [ne_eq] at z_; simp only [z_, not_false_eq_true]); (case side13 => exact fun k_ e_ => by have z_ := HO_347002.out.1 k_ e_.symm; simp only [ne_eq] at z_; simp only [z_, not_false_eq_true]); (case side14 => exact Kd.R_tight rfl HO_347003.out); (case side15 => exact fun k_ e_ => by have z_ := HO_347003.out.1 k_ e_.symm; simp only [ne_eq] at z_; simp only [z_, not_false_eq_true]); (case side16 => exact fun k_ e_ => by have z_ := HO_347003.out.1 k_ e_.symm; simp only [ne_eq] at z_; simp only [z_, not_false_eq_true]); (case side17 => exact fun k_ e_ => by have z_ := HO_347003.out.1 k_ e_.symm; simp only [ne_eq] at z_; simp only [z_, not_false_eq_true]); rintro e w85 ⟨rfl, hy0, hy1, hy2, hy3, hb, hkp⟩; refine ⟨_, rfl, ?_⟩; replace HO_334000 := am (Kd.R_kept (HO_334000.out) hkp (fun k_ hk_ hs_ => by simp only [ne_eq] at hk_; simp only [hk_, or_self] at hs_)); replace HO_334001 := am (Kd.R_kept (HO_334001.out) hkp (fun k_ hk_ hs_ => by simp only [ne_eq] at hk_; simp only [hk_, or_self] at hs_)); replace HO_334002 := am (Kd.R_kept (HO_334002.out) hkp (fun k_ hk_ hs_ => by simp only [ne_eq] at hk_; simp only [hk_, or_self] at hs_)); replace HO_334003 := am (Kd.R_kept (HO_334003.out) hkp (fun k_ hk_ hs_ => by simp only [ne_eq] at hk_; simp only [hk_, or_self] at hs_)); replace HO_361000 := am (Kd.R_kept (HO_361000.out) hkp (fun k_ hk_ hs_ => by simp only [ne_eq] at hk_; simp only [hk_, or_self] at hs_)); replace HO_361001 := am (Kd.R_kept (HO_361001.out) hkp (fun k_ hk_ hs_ => by simp only [ne_eq] at hk_; simp only [hk_, or_self] at hs_)); replace HO_361002 := am (Kd.R_kept (HO_361002.out) hkp (fun k_ hk_ hs_ => by simp only [ne_eq] at hk_; simp only [hk_, or_self] at hs_)); replace HO_361003 := am (Kd.R_kept (HO_361003.out) hkp (fun k_ hk_ hs_ => by simp only [ne_eq] at hk_; simp only [hk_, or_self] at hs_)); replace BK306 := am (blk_kept (kl BK306.out) hkp (fun hs_ => Or.elim hs_ (fun e_ => (fun e_ => (Kd.R_ne HO_347000.out BK306.out (by decide)) e_) e_) (fun e_ => Or.elim e_ (fun e_ => (fun e_ => (Kd.R_ne HO_347001.out BK306.out (by decide)) e_) e_) (fun e_ => Or.elim e_ (fun e_ => (fun e_ => (Kd.R_ne HO_347002.out BK306.out (by decide)) e_) e_) (fun e_ => (fun e_ => (Kd.R_ne HO_347003.out BK306.out (by decide)) e_) e_))))); replace BK333 := am (blk_kept (kl BK333.out) hkp (fun hs_ => Or.elim hs_ (fun e_ => (fun e_ => (Kd.R_ne HO_347000.out BK333.out (by decide)) e_) e_) (fun e_ => Or.elim e_ (fun e_ => (fun e_ => (Kd.R_ne HO_347001.out BK333.out (by decide)) e_) e_) (fun e_ => Or.elim e_ (fun e_ => (fun e_ => (Kd.R_ne HO_347002.out BK333.out (by decide)) e_) e_) (fun e_ => (fun e_ => (Kd.R_ne HO_347003.out BK333.out (by decide)) e_) e_))))); replace BK346 := am (blk_kept (kl BK346.out) hkp (fun hs_ => Or.elim hs_ (fun e_ => (fun e_ => (Kd.R_ne HO_347000.out BK346.out (by decide)) e_) e_) (fun e_ => Or.elim e_ (fun e_ => (fun e_ => (Kd.R_ne HO_347001.out BK346.out (by decide)) e_) e_) (fun e_ => Or.elim e_ (fun e_ => (fun e_ => (Kd.R_ne HO_347002.out BK346.out (by decide)) e_) e_) (fun e_ => (fun e_ => (Kd.R_ne HO_347003.out BK346.out (by decide)) e_) e_))))); replace BK360 := am (blk_kept (kl BK360.out) hkp (fun hs_ => Or.elim hs_ (fun e_ => (fun e_ => (Kd.R_ne HO_347000.out BK360.out (by decide)) e_) e_) (fun e_ => Or.elim e_ (fun e_ => (fun e_ => (Kd.R_ne HO_347001.out BK360.out (by decide)) e_) e_) (fun e_ => Or.elim e_ (fun e_ => (fun e_ => (Kd.R_ne HO_347002.out BK360.out (by decide)) e_) e_) (fun e_ => (fun e_ => (Kd.R_ne HO_347003.out BK360.out (by decide)) e_) e_))))); replace HO_347000 := am (Kd.R_reok rfl hy0 (fun k_ e_ => HO_347000.out.1 k_ e_)); replace HO_347001 := am (Kd.R_reok rfl hy1 (fun k_ e_ => HO_347001.out.1 k_ e_)); replace HO_347002 := am (Kd.R_reok rfl hy2 (fun k_ e_ => HO_347002.out.1 k_ e_)); replace HO_347003 := am (Kd.R_reok rfl hy3 (fun k_ e_ => HO_347003.out.1 k_ e_)); replace HO364 := am (Kd.R_kept (HO364.out) hkp (fun k_ hk_ hs_ => by simp only [ne_eq] at hk_; simp only [hk_, or_self] at hs_)); replace HO367 := am (Kd.R_kept (HO367.out) hkp (fun k_ hk_ hs_ => by simp only [ne_eq] at hk_; simp only [hk_, or_self] at hs_)); replace HO370 := am (Kd.R_kept (HO370.out) hkp (fun k_ hk_ hs_ => by simp only [ne_eq] at hk_; simp only [hk_, or_self] at hs_)); replace HO373 := am (Kd.R_kept (HO373.out) hkp (fun k_ hk_ hs_ => by simp only [ne_eq] at hk_; simp only [hk_, or_self] at hs_)); replace HB := am (hb); (try clear hb); (try clear hkp); (try clear hy0); (try clear hy1); (try clear hy2); (try clear hy3)))
      (try simp only [Act.put, List.setIfInBounds_toArray, List.set_cons_zero, List.set_cons_succ])
      go_cut [65] (fun v65 wc => ∃ (kq : Nat) (x65_72 : Bool), v65 = .bool x65_72 ∧ Aside0 (laws_FnExactShadeCell.j1 kq a1 t332 x65_72 l0_0 l0_1 l0_2 l0_3 t320 t323 t326 t329 t347 t350 t353 t356 = some r) ∧ Aside0 (kq ≤ kj11) ∧ Aside0 (Kd.R (Kd.int .i64) 3 wc w.heap.size (fun k_ => some k_ ≠ ((.slice Ao27 t323.length co27) : Value).ownBlock ∧ some k_ ≠ ((.slice Ao28 t326.length co28) : Value).ownBlock ∧ some k_ ≠ ((.slice Ao29 t329.length co29) : Value).ownBlock ∧ some k_ ≠ ((.slice Ao42 t347.length co42) : Value).ownBlock ∧ some k_ ≠ ((.slice Ao47 t350.length co47) : Value).ownBlock ∧ some k_ ≠ ((.slice Ao48 t353.length co48) : Value).ownBlock ∧ some k_ ≠ ((.slice Ao49 t356.length co49) : Value).ownBlock) (.slice Ao24 t320.length co24) t320) ∧ Aside0 (Kd.R (Kd.int .i64) 3 wc w.heap.size (fun k_ => some k_ ≠ ((.slice Ao24 t320.length co24) : Value).ownBlock ∧ some k_ ≠ ((.slice Ao28 t326.length co28) : Value).ownBlock ∧ some k_ ≠ ((.slice Ao29 t329.length co29) : Value).ownBlock ∧ some k_ ≠ ((.slice Ao42 t347.length co42) : Value).ownBlock ∧ some k_ ≠ ((.slice Ao47 t350.length co47) : Value).ownBlock ∧ some k_ ≠ ((.slice Ao48 t353.length co48) : Value).ownBlock ∧ some k_ ≠ ((.slice Ao49 t356.length co49) : Value).ownBlock) (.slice Ao27 t323.length co27) t323) ∧ Aside0 (Kd.R (Kd.int .i64) 3 wc w.heap.size (fun k_ => some k_ ≠ ((.slice Ao24 t320.length co24) : Value).ownBlock ∧ some k_ ≠ ((.slice Ao27 t323.length co27) : Value).ownBlock ∧ some k_ ≠ ((.slice Ao29 t329.length co29) : Value).ownBlock ∧ some k_ ≠ ((.slice Ao42 t347.length co42) : Value).ownBlock ∧ some k_ ≠ ((.slice Ao47 t350.length co47) : Value).ownBlock ∧ some k_ ≠ ((.slice Ao48 t353.length co48) : Value).ownBlock ∧ some k_ ≠ ((.slice Ao49 t356.length co49) : Value).ownBlock) (.slice Ao28 t326.length co28) t326) ∧ Aside0 (Kd.R (Kd.int .i64) 3 wc w.heap.size (fun k_ => some k_ ≠ ((.slice Ao24 t320.length co24) : Value).ownBlock ∧ some k_ ≠ ((.slice Ao27 t323.length co27) : Value).ownBlock ∧ some k_ ≠ ((.slice Ao28 t326.length co28) : Value).ownBlock ∧ some k_ ≠ ((.slice Ao42 t347.length co42) : Value).ownBlock ∧ some k_ ≠ ((.slice Ao47 t350.length co47) : Value).ownBlock ∧ some k_ ≠ ((.slice Ao48 t353.length co48) : Value).ownBlock ∧ some k_ ≠ ((.slice Ao49 t356.length co49) : Value).ownBlock) (.slice Ao29 t329.length co29) t329) ∧ Aside0 (Kd.R (Kd.int .i64) 3 wc w.heap.size (fun k_ => some k_ ≠ ((.slice Ao24 t320.length co24) : Value).ownBlock ∧ some k_ ≠ ((.slice Ao27 t323.length co27) : Value).ownBlock ∧ some k_ ≠ ((.slice Ao28 t326.length co28) : Value).ownBlock ∧ some k_ ≠ ((.slice Ao29 t329.length co29) : Value).ownBlock ∧ some k_ ≠ ((.slice Ao47 t350.length co47) : Value).ownBlock ∧ some k_ ≠ ((.slice Ao48 t353.length co48) : Value).ownBlock ∧ some k_ ≠ ((.slice Ao49 t356.length co49) : Value).ownBlock) (.slice Ao42 t347.length co42) t347) ∧ Aside0 (Kd.R (Kd.int .i64) 3 wc w.heap.size (fun k_ => some k_ ≠ ((.slice Ao24 t320.length co24) : Value).ownBlock ∧ some k_ ≠ ((.slice Ao27 t323.length co27) : Value).ownBlock ∧ some k_ ≠ ((.slice Ao28 t326.length co28) : Value).ownBlock ∧ some k_ ≠ ((.slice Ao29 t329.length co29) : Value).ownBlock ∧ some k_ ≠ ((.slice Ao42 t347.length co42) : Value).ownBlock ∧ some k_ ≠ ((.slice Ao48 t353.length co48) : Value).ownBlock ∧ some k_ ≠ ((.slice Ao49 t356.length co49) : Value).ownBlock) (.slice Ao47 t350.length co47) t350) ∧ Aside0 (Kd.R (Kd.int .i64) 3 wc w.heap.size (fun k_ => some k_ ≠ ((.slice Ao24 t320.length co24) : Value).ownBlock ∧ some k_ ≠ ((.slice Ao27 t323.length co27) : Value).ownBlock ∧ some k_ ≠ ((.slice Ao28 t326.length co28) : Value).ownBlock ∧ some k_ ≠ ((.slice Ao29 t329.length co29) : Value).ownBlock ∧ some k_ ≠ ((.slice Ao42 t347.length co42) : Value).ownBlock ∧ some k_ ≠ ((.slice Ao47 t350.length co47) : Value).ownBlock ∧ some k_ ≠ ((.slice Ao49 t356.length co49) : Value).ownBlock) (.slice Ao48 t353.length co48) t353) ∧ Aside0 (Kd.R (Kd.int .i64) 3 wc w.heap.size (fun k_ => some k_ ≠ ((.slice Ao24 t320.length co24) : Value).ownBlock ∧ some k_ ≠ ((.slice Ao27 t323.length co27) : Value).ownBlock ∧ some k_ ≠ ((.slice Ao28 t326.length co28) : Value).ownBlock ∧ some k_ ≠ ((.slice Ao29 t329.length co29) : Value).ownBlock ∧ some k_ ≠ ((.slice Ao42 t347.length co42) : Value).ownBlock ∧ some k_ ≠ ((.slice Ao47 t350.length co47) : Value).ownBlock ∧ some k_ ≠ ((.slice Ao48 t353.length co48) : Value).ownBlock) (.slice Ao49 t356.length co49) t356) ∧ Aside0 (wc.heap[gb306]? = some (.cells #[(.slice A0_0 l0_0.length c0_0), (.slice A0_1 l0_1.length c0_1), (.slice A0_2 l0_2.length c0_2), (.slice A0_3 l0_3.length c0_3)] 26 (0, 0))) ∧ Aside0 (wc.heap[gb333]? = some (.cells #[(.slice Ao24 t320.length co24), (.slice Ao27 t323.length co27), (.slice Ao28 t326.length co28), (.slice Ao29 t329.length co29)] 30 (0, 0))) ∧ Aside0 (wc.heap[gb360]? = some (.cells #[(.slice Ao42 t347.length co42), (.slice Ao47 t350.length co47), (.slice Ao48 t353.length co48), (.slice Ao49 t356.length co49)] 30 (0, 0))) ∧ Aside0 (Below w.heap.size w wc))
      case first =>
       have H := HC73.out
       clear HC73
       by_cases c86 : t375 < 0
       ·rw [if_pos c86] at H
        have c86b0 : decide (t375 < 0) = true := decide_eq_true c86
        clear c86
        (first | rw [c86b0] | (simp only [i64_w, i32_w]; rw [c86b0]) | skip)
        have H' := am H
        clear H
        go_wp2
        go_meet
        case rel => exact ⟨_, (true), (by first | rfl | (simp; done) | (simp [*]; done)), H', ⟨by have := HJ11.out; first | omega | exact Nat.le_refl _⟩, ⟨rl (Kd.R_mono HO_334000.out (fun _ hk => by simp only [ne_eq] at hk ⊢; simp only [hk, not_false_eq_true, and_self]))⟩, ⟨rl (Kd.R_mono HO_334001.out (fun _ hk => by simp only [ne_eq] at hk ⊢; simp only [hk, not_false_eq_true, and_self]))⟩, ⟨rl (Kd.R_mono HO_334002.out (fun _ hk => by simp only [ne_eq] at hk ⊢; simp only [hk, not_false_eq_true, and_self]))⟩, ⟨rl (Kd.R_mono HO_334003.out (fun _ hk => by simp only [ne_eq] at hk ⊢; simp only [hk, not_false_eq_true, and_self]))⟩, ⟨rl (Kd.R_mono HO_361000.out (fun _ hk => by simp only [ne_eq] at hk ⊢; simp only [hk, not_false_eq_true, and_self]))⟩, ⟨rl (Kd.R_mono HO_361001.out (fun _ hk => by simp only [ne_eq] at hk ⊢; simp only [hk, not_false_eq_true, and_self]))⟩, ⟨rl (Kd.R_mono HO_361002.out (fun _ hk => by simp only [ne_eq] at hk ⊢; simp only [hk, not_false_eq_true, and_self]))⟩, ⟨rl (Kd.R_mono HO_361003.out (fun _ hk => by simp only [ne_eq] at hk ⊢; simp only [hk, not_false_eq_true, and_self]))⟩, ⟨kl BK306.out⟩, ⟨kl BK333.out⟩, ⟨kl BK360.out⟩, ⟨by exact bs4 GE306.out GE333.out GE346.out GE360.out HB.out⟩⟩
       ·rw [if_neg c86] at H
        have c86b0 : decide (t375 < 0) = false := decide_eq_false c86
        clear c86
        (first | rw [c86b0] | (simp only [i64_w, i32_w]; rw [c86b0]) | skip)
        replace H := Option.bind_eq_some_iff.mp H
        obtain ⟨t380, A870, H⟩ := H
        replace H : (if t380 = true then (laws_FnExactShadeCell.j1 kj11 a1 t332 (t359 != t332) l0_0 l0_1 l0_2 l0_3 t320 t323 t326 t329 t347 t350 t353 t356) else (laws_FnExactShadeCell.j1 kj11 a1 t332 true l0_0 l0_1 l0_2 l0_3 t320 t323 t326 t329 t347 t350 t353 t356)) = some r := H
        have A87 := am A870
        clear A870
        by_cases c88 : t380 = true
        ·subst c88
         have H1 : (laws_FnExactShadeCell.j1 kj11 a1 t332 (t359 != t332) l0_0 l0_1 l0_2 l0_3 t320 t323 t326 t329 t347 t350 t353 t356) = some r := by rw [if_pos rfl] at H; exact H
         clear H
         have H := H1
         clear H1
         have H' := am H
         clear H
         have hnb89 := NB360_306.out
         have hnc89 := NB306_360.out
         have hnb90 := NB360_333.out
         have hnc90 := NB333_360.out
         have hnb91 := NB360_346.out
         have hnc91 := NB346_360.out
         have hcz92_0 : w85.cell? ⟨gb360, 0, none⟩ = some (.slice Ao42 t347.length co42) := (blk_cell BK360.out 0).trans rfl
         have hcz92_1 : w85.cell? ⟨gb360, 1, none⟩ = some (.slice Ao47 t350.length co47) := (blk_cell BK360.out 1).trans rfl
         have hcz92_2 : w85.cell? ⟨gb360, 2, none⟩ = some (.slice Ao48 t353.length co48) := (blk_cell BK360.out 2).trans rfl
         have hcz92_3 : w85.cell? ⟨gb360, 3, none⟩ = some (.slice Ao49 t356.length co49) := (blk_cell BK360.out 3).trans rfl
         have hfz92_0 := blk_frozen BK360.out 0
         have hfz92_1 := blk_frozen BK360.out 1
         have hfz92_2 := blk_frozen BK360.out 2
         have hfz92_3 := blk_frozen BK360.out 3
         have hnb93 := NB333_306.out
         have hnc93 := NB306_333.out
         have hnb94 := NB333_346.out
         have hnc94 := NB346_333.out
         have hcz95_0 : w85.cell? ⟨gb333, 0, none⟩ = some (.slice Ao24 t320.length co24) := (blk_cell BK333.out 0).trans rfl
         have hcz95_1 : w85.cell? ⟨gb333, 1, none⟩ = some (.slice Ao27 t323.length co27) := (blk_cell BK333.out 1).trans rfl
         have hcz95_2 : w85.cell? ⟨gb333, 2, none⟩ = some (.slice Ao28 t326.length co28) := (blk_cell BK333.out 2).trans rfl
         have hcz95_3 : w85.cell? ⟨gb333, 3, none⟩ = some (.slice Ao29 t329.length co29) := (blk_cell BK333.out 3).trans rfl
         have hfz95_0 := blk_frozen BK333.out 0
         have hfz95_1 := blk_frozen BK333.out 1
         have hfz95_2 := blk_frozen BK333.out 2
         have hfz95_3 := blk_frozen BK333.out 3
         go_wp2_with (first | (go_at_call 21; (with_reducible refine (laws_eqColored.calls kj11 _ _ t347 _ _ t350 _ _ t353 _ _ t356 _ _ t320 _ _ t323 _ _ t326 _ _ t329 true _ ?side1 ?side2 ?side3 ?side4 ?side5 ?side6 ?side7 ?side8 ?side9 ?side10 ?side11 ?side12 ?side13 ?side14 ?side15 ?side16 A87.out).mono ?_); (case side1 => exact cl ((Kd.R_reads' HO_361000.out).2.2)); (case side2 => exact (Kd.R_reads' HO_361000.out).2.1); (case side3 => exact cl ((Kd.R_reads' HO_361001.out).2.2)); (case side4 => exact (Kd.R_reads' HO_361001.out).2.1); (case side5 => exact cl ((Kd.R_reads' HO_361002.out).2.2)); (case side6 => exact (Kd.R_reads' HO_361002.out).2.1); (case side7 => exact cl ((Kd.R_reads' HO_361003.out).2.2)); (case side8 => exact (Kd.R_reads' HO_361003.out).2.1); (case side9 => exact cl ((Kd.R_reads' HO_334000.out).2.2)); (case side10 => exact (Kd.R_reads' HO_334000.out).2.1); (case side11 => exact cl ((Kd.R_reads' HO_334001.out).2.2)); (case side12 => exact (Kd.R_reads' HO_334001.out).2.1); (case side13 => exact cl ((Kd.R_reads' HO_334002.out).2.2)); (case side14 => exact (Kd.R_reads' HO_334002.out).2.1); (case side15 => exact cl ((Kd.R_reads' HO_334003.out).2.2)); (case side16 => exact (Kd.R_reads' HO_334003.out).2.1); rintro e w96 ⟨rfl, hb⟩; replace HO_334000 := am (Kd.R_below (rl HO_334000.out) hb); replace HO_334001 := am (Kd.R_below (rl HO_334001.out) hb); replace HO_334002 := am (Kd.R_below (rl HO_334002.out) hb); replace HO_334003 := am (Kd.R_below (rl HO_334003.out) hb); replace HO_347000 := am (Kd.R_below (rl HO_347000.out) hb); replace HO_347001 := am (Kd.R_below (rl HO_347001.out) hb); replace HO_347002 := am (Kd.R_below (rl HO_347002.out) hb); replace HO_347003 := am (Kd.R_below (rl HO_347003.out) hb); replace HO_361000 := am (Kd.R_below (rl HO_361000.out) hb); replace HO_361001 := am (Kd.R_below (rl HO_361001.out) hb); replace HO_361002 := am (Kd.R_below (rl HO_361002.out) hb); replace HO_361003 := am (Kd.R_below (rl HO_361003.out) hb); replace HO364 := am (Kd.R_below (rl HO364.out) hb); replace HO367 := am (Kd.R_below (rl HO367.out) hb); replace HO370 := am (Kd.R_below (rl HO370.out) hb); replace HO373 := am (Kd.R_below (rl HO373.out) hb); replace BK306 := am (blk_below (g := gb306) (o := .cells #[.slice A0_0 l0_0.length c0_0, .slice A0_1 l0_1.length c0_1, .slice A0_2 l0_2.length c0_2, .slice A0_3 l0_3.length c0_3] 26 (0, 0)) (kl BK306.out) hb); replace BK333 := am (blk_below (g := gb333) (o := .cells #[.slice Ao24 t320.length co24, .slice Ao27 t323.length co27, .slice Ao28 t326.length co28, .slice Ao29 t329.length co29] 30 (0, 0)) (kl BK333.out) hb); replace BK346 := am (blk_below (g := gb346) (o := .cells #[.slice Ao33 t334.length co33, .slice Ao37 t337.length co37, .slice Ao38 t340.length co38, .slice Ao39 t343.length co39] 30 (0, 0)) (kl BK346.out) hb); replace BK360 := am (blk_below (g := gb360) (o := .cells #[.slice Ao42 t347.length co42, .slice Ao47 t350.length co47, .slice Ao48 t353.length co48, .slice Ao49 t356.length co49] 30 (0, 0)) (kl BK360.out) hb); replace HB := am (below_step (bs4 GE306.out GE333.out GE346.out GE360.out HB.out) hb); (try clear hb); (try clear hb2); (try clear hk); (try clear hi)))
         go_meet
         case rel => exact ⟨_, ((t359 != t332)), (by first | rfl | (simp; done) | (simp [*]; done)), H', ⟨by have := HJ11.out; first | omega | exact Nat.le_refl _⟩, ⟨rl (Kd.R_mono HO_334000.out (fun _ hk => by simp only [ne_eq] at hk ⊢; simp only [hk, not_false_eq_true, and_self]))⟩, ⟨rl (Kd.R_mono HO_334001.out (fun _ hk => by simp only [ne_eq] at hk ⊢; simp only [hk, not_false_eq_true, and_self]))⟩, ⟨rl (Kd.R_mono HO_334002.out (fun _ hk => by simp only [ne_eq] at hk ⊢; simp only [hk, not_false_eq_true, and_self]))⟩, ⟨rl (Kd.R_mono HO_334003.out (fun _ hk => by simp only [ne_eq] at hk ⊢; simp only [hk, not_false_eq_true, and_self]))⟩, ⟨rl (Kd.R_mono HO_361000.out (fun _ hk => by simp only [ne_eq] at hk ⊢; simp only [hk, not_false_eq_true, and_self]))⟩, ⟨rl (Kd.R_mono HO_361001.out (fun _ hk => by simp only [ne_eq] at hk ⊢; simp only [hk, not_false_eq_true, and_self]))⟩, ⟨rl (Kd.R_mono HO_361002.out (fun _ hk => by simp only [ne_eq] at hk ⊢; simp only [hk, not_false_eq_true, and_self]))⟩, ⟨rl (Kd.R_mono HO_361003.out (fun _ hk => by simp only [ne_eq] at hk ⊢; simp only [hk, not_false_eq_true, and_self]))⟩, ⟨kl BK306.out⟩, ⟨kl BK333.out⟩, ⟨kl BK360.out⟩, ⟨by exact bs4 GE306.out GE333.out GE346.out GE360.out HB.out⟩⟩
        ·replace c88 := Bool.eq_false_iff.mpr c88
         subst c88
         have H1 : (laws_FnExactShadeCell.j1 kj11 a1 t332 true l0_0 l0_1 l0_2 l0_3 t320 t323 t326 t329 t347 t350 t353 t356) = some r := by rw [if_neg (show ¬ (false = true) by decide)] at H; exact H
         clear H
         have H := H1
         clear H1
         have H' := am H
         clear H
         have hnb97 := NB360_306.out
         have hnc97 := NB306_360.out
         have hnb98 := NB360_333.out
         have hnc98 := NB333_360.out
         have hnb99 := NB360_346.out
         have hnc99 := NB346_360.out
         have hcz100_0 : w85.cell? ⟨gb360, 0, none⟩ = some (.slice Ao42 t347.length co42) := (blk_cell BK360.out 0).trans rfl
         have hcz100_1 : w85.cell? ⟨gb360, 1, none⟩ = some (.slice Ao47 t350.length co47) := (blk_cell BK360.out 1).trans rfl
         have hcz100_2 : w85.cell? ⟨gb360, 2, none⟩ = some (.slice Ao48 t353.length co48) := (blk_cell BK360.out 2).trans rfl
         have hcz100_3 : w85.cell? ⟨gb360, 3, none⟩ = some (.slice Ao49 t356.length co49) := (blk_cell BK360.out 3).trans rfl
         have hfz100_0 := blk_frozen BK360.out 0
         have hfz100_1 := blk_frozen BK360.out 1
         have hfz100_2 := blk_frozen BK360.out 2
         have hfz100_3 := blk_frozen BK360.out 3
         have hnb101 := NB333_306.out
         have hnc101 := NB306_333.out
         have hnb102 := NB333_346.out
         have hnc102 := NB346_333.out
         have hcz103_0 : w85.cell? ⟨gb333, 0, none⟩ = some (.slice Ao24 t320.length co24) := (blk_cell BK333.out 0).trans rfl
         have hcz103_1 : w85.cell? ⟨gb333, 1, none⟩ = some (.slice Ao27 t323.length co27) := (blk_cell BK333.out 1).trans rfl
         have hcz103_2 : w85.cell? ⟨gb333, 2, none⟩ = some (.slice Ao28 t326.length co28) := (blk_cell BK333.out 2).trans rfl
         have hcz103_3 : w85.cell? ⟨gb333, 3, none⟩ = some (.slice Ao29 t329.length co29) := (blk_cell BK333.out 3).trans rfl
         have hfz103_0 := blk_frozen BK333.out 0
         have hfz103_1 := blk_frozen BK333.out 1
         have hfz103_2 := blk_frozen BK333.out 2
         have hfz103_3 := blk_frozen BK333.out 3
         go_wp2_with (first | (go_at_call 21; (with_reducible refine (laws_eqColored.calls kj11 _ _ t347 _ _ t350 _ _ t353 _ _ t356 _ _ t320 _ _ t323 _ _ t326 _ _ t329 false _ ?side1 ?side2 ?side3 ?side4 ?side5 ?side6 ?side7 ?side8 ?side9 ?side10 ?side11 ?side12 ?side13 ?side14 ?side15 ?side16 A87.out).mono ?_); (case side1 => exact cl ((Kd.R_reads' HO_361000.out).2.2)); (case side2 => exact (Kd.R_reads' HO_361000.out).2.1); (case side3 => exact cl ((Kd.R_reads' HO_361001.out).2.2)); (case side4 => exact (Kd.R_reads' HO_361001.out).2.1); (case side5 => exact cl ((Kd.R_reads' HO_361002.out).2.2)); (case side6 => exact (Kd.R_reads' HO_361002.out).2.1); (case side7 => exact cl ((Kd.R_reads' HO_361003.out).2.2)); (case side8 => exact (Kd.R_reads' HO_361003.out).2.1); (case side9 => exact cl ((Kd.R_reads' HO_334000.out).2.2)); (case side10 => exact (Kd.R_reads' HO_334000.out).2.1); (case side11 => exact cl ((Kd.R_reads' HO_334001.out).2.2)); (case side12 => exact (Kd.R_reads' HO_334001.out).2.1); (case side13 => exact cl ((Kd.R_reads' HO_334002.out).2.2)); (case side14 => exact (Kd.R_reads' HO_334002.out).2.1); (case side15 => exact cl ((Kd.R_reads' HO_334003.out).2.2)); (case side16 => exact (Kd.R_reads' HO_334003.out).2.1); rintro e w104 ⟨rfl, hb⟩; replace HO_334000 := am (Kd.R_below (rl HO_334000.out) hb); replace HO_334001 := am (Kd.R_below (rl HO_334001.out) hb); replace HO_334002 := am (Kd.R_below (rl HO_334002.out) hb); replace HO_334003 := am (Kd.R_below (rl HO_334003.out) hb); replace HO_347000 := am (Kd.R_below (rl HO_347000.out) hb); replace HO_347001 := am (Kd.R_below (rl HO_347001.out) hb); replace HO_347002 := am (Kd.R_below (rl HO_347002.out) hb); replace HO_347003 := am (Kd.R_below (rl HO_347003.out) hb); replace HO_361000 := am (Kd.R_below (rl HO_361000.out) hb); replace HO_361001 := am (Kd.R_below (rl HO_361001.out) hb); replace HO_361002 := am (Kd.R_below (rl HO_361002.out) hb); replace HO_361003 := am (Kd.R_below (rl HO_361003.out) hb); replace HO364 := am (Kd.R_below (rl HO364.out) hb); replace HO367 := am (Kd.R_below (rl HO367.out) hb); replace HO370 := am (Kd.R_below (rl HO370.out) hb); replace HO373 := am (Kd.R_below (rl HO373.out) hb); replace BK306 := am (blk_below (g := gb306) (o := .cells #[.slice A0_0 l0_0.length c0_0, .slice A0_1 l0_1.length c0_1, .slice A0_2 l0_2.length c0_2, .slice A0_3 l0_3.length c0_3] 26 (0, 0)) (kl BK306.out) hb); replace BK333 := am (blk_below (g := gb333) (o := .cells #[.slice Ao24 t320.length co24, .slice Ao27 t323.length co27, .slice Ao28 t326.length co28, .slice Ao29 t329.length co29] 30 (0, 0)) (kl BK333.out) hb); replace BK346 := am (blk_below (g := gb346) (o := .cells #[.slice Ao33 t334.length co33, .slice Ao37 t337.length co37, .slice Ao38 t340.length co38, .slice Ao39 t343.length co39] 30 (0, 0)) (kl BK346.out) hb); replace BK360 := am (blk_below (g := gb360) (o := .cells #[.slice Ao42 t347.length co42, .slice Ao47 t350.length co47, .slice Ao48 t353.length co48, .slice Ao49 t356.length co49] 30 (0, 0)) (kl BK360.out) hb); replace HB := am (below_step (bs4 GE306.out GE333.out GE346.out GE360.out HB.out) hb); (try clear hb); (try clear hb2); (try clear hk); (try clear hi)))
         go_meet
         case rel => exact ⟨_, (true), (by first | rfl | (simp; done) | (simp [*]; done)), H', ⟨by have := HJ11.out; first | omega | exact Nat.le_refl _⟩, ⟨rl (Kd.R_mono HO_334000.out (fun _ hk => by simp only [ne_eq] at hk ⊢; simp only [hk, not_false_eq_true, and_self]))⟩, ⟨rl (Kd.R_mono HO_334001.out (fun _ hk => by simp only [ne_eq] at hk ⊢; simp only [hk, not_false_eq_true, and_self]))⟩, ⟨rl (Kd.R_mono HO_334002.out (fun _ hk => by simp only [ne_eq] at hk ⊢; simp only [hk, not_false_eq_true, and_self]))⟩, ⟨rl (Kd.R_mono HO_334003.out (fun _ hk => by simp only [ne_eq] at hk ⊢; simp only [hk, not_false_eq_true, and_self]))⟩, ⟨rl (Kd.R_mono HO_361000.out (fun _ hk => by simp only [ne_eq] at hk ⊢; simp only [hk, not_false_eq_true, and_self]))⟩, ⟨rl (Kd.R_mono HO_361001.out (fun _ hk => by simp only [ne_eq] at hk ⊢; simp only [hk, not_false_eq_true, and_self]))⟩, ⟨rl (Kd.R_mono HO_361002.out (fun _ hk => by simp only [ne_eq] at hk ⊢; simp only [hk, not_false_eq_true, and_self]))⟩, ⟨rl (Kd.R_mono HO_361003.out (fun _ hk => by simp only [ne_eq] at hk ⊢; simp only [hk, not_false_eq_true, and_self]))⟩, ⟨kl BK306.out⟩, ⟨kl BK333.out⟩, ⟨kl BK360.out⟩, ⟨by exact bs4 GE306.out GE333.out GE346.out GE360.out HB.out⟩⟩
      case rest =>
       clear HC73
       try clear c1
       try clear c2
       try clear p2
       try clear c3
       try clear c4
       try clear c4b0
       try clear c5
       try clear c6
       try clear c7
       try clear c8
       try clear c9
       try clear c10
       try clear c17
       try clear c18
       try clear c19
       try clear c20
       try clear c21
       try clear c22
       try clear c25
       try clear c34
       try clear c35
       try clear c43
       try clear c44
       try clear c45
       try clear c51
       try clear c52
       try clear c53
       try clear c54
       try clear c56
       try clear c57
       try clear c60
       try clear c61
       try clear c62
       try clear c64
       try clear c65
       try clear c68
       try clear c71
       try clear c81
       try clear c82
       try clear c83
       try clear c86
       try clear c86b0
       try clear c88
       try clear c89
       try clear c90
       try clear c91
       try clear c93
       try clear c94
       try clear c97
       try clear c98
       try clear c99
       try clear c101
       try clear c102
       try clear hcz100_0
       try clear hcz100_1
       try clear hcz100_2
       try clear hcz100_3
       try clear hcz103_0
       try clear hcz103_1
       try clear hcz103_2
       try clear hcz103_3
       try clear hcz14_0
       try clear hcz14_1
       try clear hcz14_2
       try clear hcz14_3
       try clear hcz16_0
       try clear hcz16_1
       try clear hcz16_2
       try clear hcz16_3
       try clear hcz26_0
       try clear hcz26_1
       try clear hcz26_2
       try clear hcz26_3
       try clear hcz30_0
       try clear hcz30_1
       try clear hcz30_2
       try clear hcz30_3
       try clear hcz36_0
       try clear hcz36_1
       try clear hcz36_2
       try clear hcz36_3
       try clear hcz46_0
       try clear hcz46_1
       try clear hcz46_2
       try clear hcz46_3
       try clear hcz55_0
       try clear hcz55_1
       try clear hcz55_2
       try clear hcz55_3
       try clear hcz58_0
       try clear hcz58_1
       try clear hcz58_2
       try clear hcz58_3
       try clear hcz63_0
       try clear hcz63_1
       try clear hcz63_2
       try clear hcz63_3
       try clear hcz66_0
       try clear hcz66_1
       try clear hcz66_2
       try clear hcz66_3
       try clear hcz6_0
       try clear hcz6_1
       try clear hcz6_2
       try clear hcz6_3
       try clear hcz84_0
       try clear hcz84_1
       try clear hcz84_2
       try clear hcz84_3
       try clear hcz92_0
       try clear hcz92_1
       try clear hcz92_2
       try clear hcz92_3
       try clear hcz95_0
       try clear hcz95_1
       try clear hcz95_2
       try clear hcz95_3
       try clear hfz100_0
       try clear hfz100_1
       try clear hfz100_2
       try clear hfz100_3
       try clear hfz103_0
       try clear hfz103_1
       try clear hfz103_2
       try clear hfz103_3
       try clear hfz14_0
       try clear hfz14_1
       try clear hfz14_2
       try clear hfz14_3
       try clear hfz16_0
       try clear hfz16_1
       try clear hfz16_2
       try clear hfz16_3
       try clear hfz26_0
       try clear hfz26_1
       try clear hfz26_2
       try clear hfz26_3
       try clear hfz30_0
       try clear hfz30_1
       try clear hfz30_2
       try clear hfz30_3
       try clear hfz36_0
       try clear hfz36_1
       try clear hfz36_2
       try clear hfz36_3
       try clear hfz46_0
       try clear hfz46_1
       try clear hfz46_2
       try clear hfz46_3
       try clear hfz55_0
       try clear hfz55_1
       try clear hfz55_2
       try clear hfz55_3
       try clear hfz58_0
       try clear hfz58_1
       try clear hfz58_2
       try clear hfz58_3
       try clear hfz63_0
       try clear hfz63_1
       try clear hfz63_2
       try clear hfz63_3
       try clear hfz66_0
       try clear hfz66_1
       try clear hfz66_2
       try clear hfz66_3
       try clear hfz6_0
       try clear hfz6_1
       try clear hfz6_2
       try clear hfz6_3
       try clear hfz84_0
       try clear hfz84_1
       try clear hfz84_2
       try clear hfz84_3
       try clear hfz92_0
       try clear hfz92_1
       try clear hfz92_2
       try clear hfz92_3
       try clear hfz95_0
       try clear hfz95_1
       try clear hfz95_2
       try clear hfz95_3
       try clear p2
       obtain ⟨kq, x65_72, rfl, HA, HJ72, HO_334000, HO_334001, HO_334002, HO_334003, HO_361000, HO_361001, HO_361002, HO_361003, BK306, BK333, BK360, HB⟩ := hcut
       cases kq with
       | zero => exact absurd HA.out (by simp [laws_FnExactShadeCell.j1])
       | succ kj72 =>
        have H := HA.out
        clear HA
        simp only [laws_FnExactShadeCell.j1] at H
        by_cases c105 : x65_72 = true
        ·subst c105
         have H1 : (none) = some r := by rw [if_pos rfl] at H; exact H
         clear H
         have H := H1
         clear H1
         exact absurd H (by simp)
        ·replace c105 := Bool.eq_false_iff.mpr c105
         subst c105
         have H1 : ((laws_markColored.f kj72 t347 t350 t353 t356 1).bind fun bt381 => ((laws_heldColored.f kj72 bt381.2.1 bt381.2.2.1 bt381.2.2.2.1 bt381.2.2.2.2 1).bind fun t386 => (if t386 < 0 then (none) else (if t386 = bt381.1 then ((laws_toColored.f kj72 l0_0 l0_1 l0_2 l0_3).bind fun bt387 => ((impl_ShadeCell.f kj72 bt387.1 bt387.2.1 bt387.2.2.1 bt387.2.2.2 a1).bind fun bt399 => ((laws_eqColored.f kj72 bt399.1 bt399.2.1 bt399.2.2.1 bt399.2.2.2.1 t320 t323 t326 t329).bind fun t413 => (if t413 = true then (laws_FnExactShadeCell.j2 kj72 bt381.1 (bt399.2.2.2.2 != t332) bt381.2.1 bt381.2.2.1 bt381.2.2.2.1 bt381.2.2.2.2) else (laws_FnExactShadeCell.j2 kj72 bt381.1 true bt381.2.1 bt381.2.2.1 bt381.2.2.2.1 bt381.2.2.2.2))))) else (none))))) = some r := by rw [if_neg (show ¬ (false = true) by decide)] at H; exact H
         clear H
         have H := H1
         clear H1
         replace H := Option.bind_eq_some_iff.mp H
         obtain ⟨⟨t381, t382, t383, t384, t385⟩, A1060, H⟩ := H
         replace H : ((laws_heldColored.f kj72 t382 t383 t384 t385 1).bind fun t386 => (if t386 < 0 then (none) else (if t386 = t381 then ((laws_toColored.f kj72 l0_0 l0_1 l0_2 l0_3).bind fun bt387 => ((impl_ShadeCell.f kj72 bt387.1 bt387.2.1 bt387.2.2.1 bt387.2.2.2 a1).bind fun bt399 => ((laws_eqColored.f kj72 bt399.1 bt399.2.1 bt399.2.2.1 bt399.2.2.2.1 t320 t323 t326 t329).bind fun t413 => (if t413 = true then (laws_FnExactShadeCell.j2 kj72 t381 (bt399.2.2.2.2 != t332) t382 t383 t384 t385) else (laws_FnExactShadeCell.j2 kj72 t381 true t382 t383 t384 t385))))) else (none)))) = some r := H
         have A106 := am A1060
         clear A1060
         replace H := Option.bind_eq_some_iff.mp H
         obtain ⟨t386, A1070, H⟩ := H
         replace H : (if t386 < 0 then (none) else (if t386 = t381 then ((laws_toColored.f kj72 l0_0 l0_1 l0_2 l0_3).bind fun bt387 => ((impl_ShadeCell.f kj72 bt387.1 bt387.2.1 bt387.2.2.1 bt387.2.2.2 a1).bind fun bt399 => ((laws_eqColored.f kj72 bt399.1 bt399.2.1 bt399.2.2.1 bt399.2.2.2.1 t320 t323 t326 t329).bind fun t413 => (if t413 = true then (laws_FnExactShadeCell.j2 kj72 t381 (bt399.2.2.2.2 != t332) t382 t383 t384 t385) else (laws_FnExactShadeCell.j2 kj72 t381 true t382 t383 t384 t385))))) else (none))) = some r := H
         have A107 := am A1070
         clear A1070
         by_cases c108 : t386 < 0
         ·rw [if_pos c108] at H
          exact absurd H (by simp)
         ·rw [if_neg c108] at H
          have c108b0 : decide (t386 < 0) = false := decide_eq_false c108
          clear c108
          by_cases c109 : t386 = t381
          ·rw [if_pos c109] at H
           have c109b0 : (t386 == t381) = true := beq_iff_eq.mpr c109
           have c109b1 : (t386 != t381) = false := bne_eq_false_iff_eq.mpr c109
           clear c109
           replace H := Option.bind_eq_some_iff.mp H
           obtain ⟨⟨t387, t390, t393, t396⟩, A1100, H⟩ := H
           replace H : ((impl_ShadeCell.f kj72 t387 t390 t393 t396 a1).bind fun bt399 => ((laws_eqColored.f kj72 bt399.1 bt399.2.1 bt399.2.2.1 bt399.2.2.2.1 t320 t323 t326 t329).bind fun t413 => (if t413 = true then (laws_FnExactShadeCell.j2 kj72 t381 (bt399.2.2.2.2 != t332) t382 t383 t384 t385) else (laws_FnExactShadeCell.j2 kj72 t381 true t382 t383 t384 t385)))) = some r := H
           have A110 := am A1100
           clear A1100
           replace H := Option.bind_eq_some_iff.mp H
           obtain ⟨⟨t399, t402, t405, t408, t411⟩, A1110, H⟩ := H
           replace H : ((laws_eqColored.f kj72 t399 t402 t405 t408 t320 t323 t326 t329).bind fun t413 => (if t413 = true then (laws_FnExactShadeCell.j2 kj72 t381 (t411 != t332) t382 t383 t384 t385) else (laws_FnExactShadeCell.j2 kj72 t381 true t382 t383 t384 t385))) = some r := H
           have A111 := am A1110
           clear A1110
           have HC112 := am H
           clear H
           have hnb113 := NB360_306.out
           have hnc113 := NB306_360.out
           have hnb114 := NB360_333.out
           have hnc114 := NB333_360.out
           have hcz115_0 : wc.cell? ⟨gb360, 0, none⟩ = some (.slice Ao42 t347.length co42) := (blk_cell BK360.out 0).trans rfl
           have hcz115_1 : wc.cell? ⟨gb360, 1, none⟩ = some (.slice Ao47 t350.length co47) := (blk_cell BK360.out 1).trans rfl
           have hcz115_2 : wc.cell? ⟨gb360, 2, none⟩ = some (.slice Ao48 t353.length co48) := (blk_cell BK360.out 2).trans rfl
           have hcz115_3 : wc.cell? ⟨gb360, 3, none⟩ = some (.slice Ao49 t356.length co49) := (blk_cell BK360.out 3).trans rfl
           have hfz115_0 := blk_frozen BK360.out 0
           have hfz115_1 := blk_frozen BK360.out 1
           have hfz115_2 := blk_frozen BK360.out 2
           have hfz115_3 := blk_frozen BK360.out 3
           go_upto_region 25 with (first | ((with_reducible refine gate_callee (f := 22) rfl ?_); refine goesL_ (some 68) rfl rfl Try.func22 (by kernel_rfl) rfl #[.agg #[.slice Ao42 t347.length co42, .slice Ao47 t350.length co47, .slice Ao48 t353.length co48, .slice Ao49 t356.length co49], .int .i64 1] rfl (by (try simp only [List.map_toArray, List.map_cons, List.map_nil]); first | done | rfl | (simp only [List.length_drop, List.length_take]; rfl)) ?_; (with_reducible refine (laws_markColored.calls kj72 (fun k_ => some k_ = (.slice Ao42 t347.length co42 : Value).ownBlock) (.slice Ao42 t347.length co42) t347 (fun k_ => some k_ = (.slice Ao47 t350.length co47 : Value).ownBlock) (.slice Ao47 t350.length co47) t350 (fun k_ => some k_ = (.slice Ao48 t353.length co48 : Value).ownBlock) (.slice Ao48 t353.length co48) t353 (fun k_ => some k_ = (.slice Ao49 t356.length co49 : Value).ownBlock) (.slice Ao49 t356.length co49) t356 1 t381 t382 t383 t384 t385 w _ ?side1 ?side2 ?side3 ?side4 ?side5 ?side6 ?side7 ?side8 ?side9 ?side10 ?side11 ?side12 ?side13 ?side14 ?side15 ?side16 ?side17 A106.out).mono ?_); (case side1 => exact bs3 GE306.out GE333.out GE360.out HB.out); (case side2 => exact Kd.R_tight rfl HO_361000.out); (case side3 => exact fun k_ e_ => by have z_ := HO_361000.out.1 k_ e_.symm; simp only [ne_eq] at z_; simp only [z_, not_false_eq_true]); (case side4 => exact fun k_ e_ => by have z_ := HO_361000.out.1 k_ e_.symm; simp only [ne_eq] at z_; simp only [z_, not_false_eq_true]); (case side5 => exact fun k_ e_ => by have z_ := HO_361000.out.1 k_ e_.symm; simp only [ne_eq] at z_; simp only [z_, not_false_eq_true]); (case side6 => exact Kd.R_tight rfl HO_361001.out); (case side7 => exact fun k_ e_ => by have z_ := HO_361001.out.1 k_ e_.symm; simp only [ne_eq] at z_; simp only [z_, not_false_eq_true]); (case side8 => exact fun k_ e_ => by have z_ := HO_361001.out.1 k_ e_.symm; simp only [ne_eq] at z_; simp only [z_, not_false_eq_true]); (case side9 => exact fun k_ e_ => by have z_ := HO_361001.out.1 k_ e_.symm; simp only [ne_eq] at z_; simp only [z_, not_false_eq_true]); (case side10 => exact Kd.R_tight rfl HO_361002.out); (case side11 => exact fun k_ e_ => by have z_ := HO_361002.out.1 k_ e_.symm; simp only [ne_eq] at z_; simp only [z_, not_false_eq_true]); (case side12 => exact fun k_ e_ => by have z_ := HO_361002.out.1 k_ e_.symm; simp only [ne_eq] at z_; simp only [z_, not_false_eq_true]); (case side13 => exact fun k_ e_ => by have z_ := HO_361002.out.1 k_ e_.symm; simp only [ne_eq] at z_; simp only [z_, not_false_eq_true]); (case side14 => exact Kd.R_tight rfl HO_361003.out); (case side15 => exact fun k_ e_ => by have z_ := HO_361003.out.1 k_ e_.symm; simp only [ne_eq] at z_; simp only [z_, not_false_eq_true]); (case side16 => exact fun k_ e_ => by have z_ := HO_361003.out.1 k_ e_.symm; simp only [ne_eq] at z_; simp only [z_, not_false_eq_true]); (case side17 => exact fun k_ e_ => by have z_ := HO_361003.out.1 k_ e_.symm; simp only [ne_eq] at z_; simp only [z_, not_false_eq_true]); rintro e w116 ⟨rfl, hy0, hy1, hy2, hy3, hb, hkp⟩; refine ⟨_, rfl, ?_⟩; replace HO_334000 := am (Kd.R_kept (HO_334000.out) hkp (fun k_ hk_ hs_ => by simp only [ne_eq] at hk_; simp only [hk_, or_self] at hs_)); replace HO_334001 := am (Kd.R_kept (HO_334001.out) hkp (fun k_ hk_ hs_ => by simp only [ne_eq] at hk_; simp only [hk_, or_self] at hs_)); replace HO_334002 := am (Kd.R_kept (HO_334002.out) hkp (fun k_ hk_ hs_ => by simp only [ne_eq] at hk_; simp only [hk_, or_self] at hs_)); replace HO_334003 := am (Kd.R_kept (HO_334003.out) hkp (fun k_ hk_ hs_ => by simp only [ne_eq] at hk_; simp only [hk_, or_self] at hs_)); replace BK306 := am (blk_kept (kl BK306.out) hkp (fun hs_ => Or.elim hs_ (fun e_ => (fun e_ => (Kd.R_ne HO_361000.out BK306.out (by decide)) e_) e_) (fun e_ => Or.elim e_ (fun e_ => (fun e_ => (Kd.R_ne HO_361001.out BK306.out (by decide)) e_) e_) (fun e_ => Or.elim e_ (fun e_ => (fun e_ => (Kd.R_ne HO_361002.out BK306.out (by decide)) e_) e_) (fun e_ => (fun e_ => (Kd.R_ne HO_361003.out BK306.out (by decide)) e_) e_))))); replace BK333 := am (blk_kept (kl BK333.out) hkp (fun hs_ => Or.elim hs_ (fun e_ => (fun e_ => (Kd.R_ne HO_361000.out BK333.out (by decide)) e_) e_) (fun e_ => Or.elim e_ (fun e_ => (fun e_ => (Kd.R_ne HO_361001.out BK333.out (by decide)) e_) e_) (fun e_ => Or.elim e_ (fun e_ => (fun e_ => (Kd.R_ne HO_361002.out BK333.out (by decide)) e_) e_) (fun e_ => (fun e_ => (Kd.R_ne HO_361003.out BK333.out (by decide)) e_) e_))))); replace BK360 := am (blk_kept (kl BK360.out) hkp (fun hs_ => Or.elim hs_ (fun e_ => (fun e_ => (Kd.R_ne HO_361000.out BK360.out (by decide)) e_) e_) (fun e_ => Or.elim e_ (fun e_ => (fun e_ => (Kd.R_ne HO_361001.out BK360.out (by decide)) e_) e_) (fun e_ => Or.elim e_ (fun e_ => (fun e_ => (Kd.R_ne HO_361002.out BK360.out (by decide)) e_) e_) (fun e_ => (fun e_ => (Kd.R_ne HO_361003.out BK360.out (by decide)) e_) e_))))); replace HO_361000 := am (Kd.R_reok rfl hy0 (fun k_ e_ => HO_361000.out.1 k_ e_)); replace HO_361001 := am (Kd.R_reok rfl hy1 (fun k_ e_ => HO_361001.out.1 k_ e_)); replace HO_361002 := am (Kd.R_reok rfl hy2 (fun k_ e_ => HO_361002.out.1 k_ e_)); replace HO_361003 := am (Kd.R_reok rfl hy3 (fun k_ e_ => HO_361003.out.1 k_ e_)); replace HB := am (hb); (try clear hb); (try clear hkp); (try clear hy0); (try clear hy1); (try clear hy2); (try clear hy3); have hcz117_0 : w116.cell? ⟨gb360, 0, none⟩ = some (.slice Ao42 t347.length co42) := (blk_cell BK360.out 0).trans rfl; have hcz117_1 : w116.cell? ⟨gb360, 1, none⟩ = some (.slice Ao47 t350.length co47) := (blk_cell BK360.out 1).trans rfl; have hcz117_2 : w116.cell? ⟨gb360, 2, none⟩ = some (.slice Ao48 t353.length co48) := (blk_cell BK360.out 2).trans rfl; have hcz117_3 : w116.cell? ⟨gb360, 3, none⟩ = some (.slice Ao49 t356.length co49) := (blk_cell BK360.out 3).trans rfl; have hfz117_0 := blk_frozen BK360.out 0; have hfz117_1 := blk_frozen BK360.out 1; have hfz117_2 := blk_frozen BK360.out 2; have hfz117_3 := blk_frozen BK360.out 3) | ((with_reducible refine gate_callee (f := 23) rfl ?_); refine goesL_ (some 71) rfl rfl Try.func23 (by kernel_rfl) rfl #[.agg #[.slice Ao42 t382.length co42, .slice Ao47 t383.length co47, .slice Ao48 t384.length co48, .slice Ao49 t385.length co49], .int .i64 1] rfl (by (try simp only [List.map_toArray, List.map_cons, List.map_nil]); first | done | (rw [show t382.length = t347.length from (Kd.R_reads' HO_361000.out).1.symm, show t383.length = t350.length from (Kd.R_reads' HO_361001.out).1.symm, show t384.length = t353.length from (Kd.R_reads' HO_361002.out).1.symm, show t385.length = t356.length from (Kd.R_reads' HO_361003.out).1.symm] <;> rfl) | rfl | (simp only [List.length_drop, List.length_take]; rfl)) ?_; (with_reducible refine (laws_heldColored.calls kj72 _ _ t382 _ _ t383 _ _ t384 _ _ t385 1 t386 _ ?side1 ?side2 ?side3 ?side4 ?side5 ?side6 ?side7 ?side8 A107.out).mono ?_); (case side1 => exact cl ((Kd.R_reads' HO_361000.out).2.2)); (case side2 => rw [show t382.length = t347.length from (Kd.R_reads' HO_361000.out).1.symm]; exact (Kd.R_reads' HO_361000.out).2.1); (case side3 => exact cl ((Kd.R_reads' HO_361001.out).2.2)); (case side4 => rw [show t383.length = t350.length from (Kd.R_reads' HO_361001.out).1.symm]; exact (Kd.R_reads' HO_361001.out).2.1); (case side5 => exact cl ((Kd.R_reads' HO_361002.out).2.2)); (case side6 => rw [show t384.length = t353.length from (Kd.R_reads' HO_361002.out).1.symm]; exact (Kd.R_reads' HO_361002.out).2.1); (case side7 => exact cl ((Kd.R_reads' HO_361003.out).2.2)); (case side8 => rw [show t385.length = t356.length from (Kd.R_reads' HO_361003.out).1.symm]; exact (Kd.R_reads' HO_361003.out).2.1); rintro e w118 ⟨rfl, hb⟩; refine ⟨_, rfl, ?_⟩; replace HO_334000 := am (Kd.R_below (rl HO_334000.out) hb); replace HO_334001 := am (Kd.R_below (rl HO_334001.out) hb); replace HO_334002 := am (Kd.R_below (rl HO_334002.out) hb); replace HO_334003 := am (Kd.R_below (rl HO_334003.out) hb); replace HO_361000 := am (Kd.R_below (rl HO_361000.out) hb); replace HO_361001 := am (Kd.R_below (rl HO_361001.out) hb); replace HO_361002 := am (Kd.R_below (rl HO_361002.out) hb); replace HO_361003 := am (Kd.R_below (rl HO_361003.out) hb); replace BK306 := am (blk_below (g := gb306) (o := .cells #[.slice A0_0 l0_0.length c0_0, .slice A0_1 l0_1.length c0_1, .slice A0_2 l0_2.length c0_2, .slice A0_3 l0_3.length c0_3] 26 (0, 0)) (kl BK306.out) hb); replace BK333 := am (blk_below (g := gb333) (o := .cells #[.slice Ao24 t320.length co24, .slice Ao27 t323.length co27, .slice Ao28 t326.length co28, .slice Ao29 t329.length co29] 30 (0, 0)) (kl BK333.out) hb); replace BK360 := am (blk_below (g := gb360) (o := .cells #[.slice Ao42 t347.length co42, .slice Ao47 t350.length co47, .slice Ao48 t353.length co48, .slice Ao49 t356.length co49] 30 (0, 0)) (kl BK360.out) hb); replace HB := am (below_step (bs3 GE306.out GE333.out GE360.out HB.out) hb); (try clear hb); (try clear hb2); (try clear hk); (try clear hi); have hnb119 := NB306_333.out; have hnc119 := NB333_306.out; have hcz120_0 : w118.cell? ⟨gb306, 0, none⟩ = some (.slice A0_0 l0_0.length c0_0) := (blk_cell BK306.out 0).trans rfl; have hcz120_1 : w118.cell? ⟨gb306, 1, none⟩ = some (.slice A0_1 l0_1.length c0_1) := (blk_cell BK306.out 1).trans rfl; have hcz120_2 : w118.cell? ⟨gb306, 2, none⟩ = some (.slice A0_2 l0_2.length c0_2) := (blk_cell BK306.out 2).trans rfl; have hcz120_3 : w118.cell? ⟨gb306, 3, none⟩ = some (.slice A0_3 l0_3.length c0_3) := (blk_cell BK306.out 3).trans rfl; have hfz120_0 := blk_frozen BK306.out 0; have hfz120_1 := blk_frozen BK306.out 1; have hfz120_2 := blk_frozen BK306.out 2; have hfz120_3 := blk_frozen BK306.out 3) | ((with_reducible refine gate_callee (f := 19) rfl ?_); refine goesL_ (some 79) rfl rfl Try.func19 (by kernel_rfl) rfl #[.agg #[.slice A0_0 l0_0.length c0_0, .slice A0_1 l0_1.length c0_1, .slice A0_2 l0_2.length c0_2, .slice A0_3 l0_3.length c0_3]] rfl (by (try simp only [List.map_toArray, List.map_cons, List.map_nil]); first | done | rfl | (simp only [List.length_drop, List.length_take]; rfl)) ?_; (with_reducible refine (laws_toColored.calls kj72 _ _ l0_0 _ _ l0_1 _ _ l0_2 _ _ l0_3 t387 t390 t393 t396 _ ?side1 ?side2 ?side3 ?side4 ?side5 ?side6 ?side7 ?side8 A110.out).mono ?_); (case side1 => exact cl (Kd.C_below HR0_0.out HB.out)); (case side2 => exact HC0_0.out); (case side3 => exact cl (Kd.C_below HR0_1.out HB.out)); (case side4 => exact HC0_1.out); (case side5 => exact cl (Kd.C_below HR0_2.out HB.out)); (case side6 => exact HC0_2.out); (case side7 => exact cl (Kd.C_below HR0_3.out HB.out)); (case side8 => exact HC0_3.out); rintro e w121 ⟨v388, v391, v394, v397, rfl, ho0, ho1, ho2, ho3, hb⟩; refine ⟨_, rfl, ?_⟩; have HO389 := am (Kd.R_lower (Kd.R_new' (Kd.R_new' (Kd.R_new' (Kd.R_new' (Kd.R_new' (Kd.R_new' (Kd.R_new' (Kd.R_new' ho0 (Kd.R_lt (rl HO_334000.out))) (Kd.R_lt (rl HO_334001.out))) (Kd.R_lt (rl HO_334002.out))) (Kd.R_lt (rl HO_334003.out))) (Kd.R_lt (rl HO_361000.out))) (Kd.R_lt (rl HO_361001.out))) (Kd.R_lt (rl HO_361002.out))) (Kd.R_lt (rl HO_361003.out))) (below_size (bs3 GE306.out GE333.out GE360.out HB.out))); have HO392 := am (Kd.R_lower (Kd.R_new' (Kd.R_new' (Kd.R_new' (Kd.R_new' (Kd.R_new' (Kd.R_new' (Kd.R_new' (Kd.R_new' ho1 (Kd.R_lt (rl HO_334000.out))) (Kd.R_lt (rl HO_334001.out))) (Kd.R_lt (rl HO_334002.out))) (Kd.R_lt (rl HO_334003.out))) (Kd.R_lt (rl HO_361000.out))) (Kd.R_lt (rl HO_361001.out))) (Kd.R_lt (rl HO_361002.out))) (Kd.R_lt (rl HO_361003.out))) (below_size (bs3 GE306.out GE333.out GE360.out HB.out))); have HO395 := am (Kd.R_lower (Kd.R_new' (Kd.R_new' (Kd.R_new' (Kd.R_new' (Kd.R_new' (Kd.R_new' (Kd.R_new' (Kd.R_new' ho2 (Kd.R_lt (rl HO_334000.out))) (Kd.R_lt (rl HO_334001.out))) (Kd.R_lt (rl HO_334002.out))) (Kd.R_lt (rl HO_334003.out))) (Kd.R_lt (rl HO_361000.out))) (Kd.R_lt (rl HO_361001.out))) (Kd.R_lt (rl HO_361002.out))) (Kd.R_lt (rl HO_361003.out))) (below_size (bs3 GE306.out GE333.out GE360.out HB.out))); have HO398 := am (Kd.R_lower (Kd.R_new' (Kd.R_new' (Kd.R_new' (Kd.R_new' (Kd.R_new' (Kd.R_new' (Kd.R_new' (Kd.R_new' ho3 (Kd.R_lt (rl HO_334000.out))) (Kd.R_lt (rl HO_334001.out))) (Kd.R_lt (rl HO_334002.out))) (Kd.R_lt (rl HO_334003.out))) (Kd.R_lt (rl HO_361000.out))) (Kd.R_lt (rl HO_361001.out))) (Kd.R_lt (rl HO_361002.out))) (Kd.R_lt (rl HO_361003.out))) (below_size (bs3 GE306.out GE333.out GE360.out HB.out))); replace HO_334000 := am (Kd.R_mono (Kd.R_told (Kd.R_told (Kd.R_told (Kd.R_told (Kd.R_old (rl HO_334000.out) hb) (Kd.R_base ho0)) (Kd.R_base ho1)) (Kd.R_base ho2)) (Kd.R_base ho3)) (fun _ h_ => h_.1)); replace HO_334001 := am (Kd.R_mono (Kd.R_told (Kd.R_told (Kd.R_told (Kd.R_told (Kd.R_old (rl HO_334001.out) hb) (Kd.R_base ho0)) (Kd.R_base ho1)) (Kd.R_base ho2)) (Kd.R_base ho3)) (fun _ h_ => h_.1)); replace HO_334002 := am (Kd.R_mono (Kd.R_told (Kd.R_told (Kd.R_told (Kd.R_told (Kd.R_old (rl HO_334002.out) hb) (Kd.R_base ho0)) (Kd.R_base ho1)) (Kd.R_base ho2)) (Kd.R_base ho3)) (fun _ h_ => h_.1)); replace HO_334003 := am (Kd.R_mono (Kd.R_told (Kd.R_told (Kd.R_told (Kd.R_told (Kd.R_old (rl HO_334003.out) hb) (Kd.R_base ho0)) (Kd.R_base ho1)) (Kd.R_base ho2)) (Kd.R_base ho3)) (fun _ h_ => h_.1)); replace HO_361000 := am (Kd.R_mono (Kd.R_told (Kd.R_told (Kd.R_told (Kd.R_told (Kd.R_old (rl HO_361000.out) hb) (Kd.R_base ho0)) (Kd.R_base ho1)) (Kd.R_base ho2)) (Kd.R_base ho3)) (fun _ h_ => h_.1)); replace HO_361001 := am (Kd.R_mono (Kd.R_told (Kd.R_told (Kd.R_told (Kd.R_told (Kd.R_old (rl HO_361001.out) hb) (Kd.R_base ho0)) (Kd.R_base ho1)) (Kd.R_base ho2)) (Kd.R_base ho3)) (fun _ h_ => h_.1)); replace HO_361002 := am (Kd.R_mono (Kd.R_told (Kd.R_told (Kd.R_told (Kd.R_told (Kd.R_old (rl HO_361002.out) hb) (Kd.R_base ho0)) (Kd.R_base ho1)) (Kd.R_base ho2)) (Kd.R_base ho3)) (fun _ h_ => h_.1)); replace HO_361003 := am (Kd.R_mono (Kd.R_told (Kd.R_told (Kd.R_told (Kd.R_told (Kd.R_old (rl HO_361003.out) hb) (Kd.R_base ho0)) (Kd.R_base ho1)) (Kd.R_base ho2)) (Kd.R_base ho3)) (fun _ h_ => h_.1)); replace BK306 := am (blk_below (g := gb306) (o := .cells #[.slice A0_0 l0_0.length c0_0, .slice A0_1 l0_1.length c0_1, .slice A0_2 l0_2.length c0_2, .slice A0_3 l0_3.length c0_3] 26 (0, 0)) (kl BK306.out) hb); replace BK333 := am (blk_below (g := gb333) (o := .cells #[.slice Ao24 t320.length co24, .slice Ao27 t323.length co27, .slice Ao28 t326.length co28, .slice Ao29 t329.length co29] 30 (0, 0)) (kl BK333.out) hb); replace BK360 := am (blk_below (g := gb360) (o := .cells #[.slice Ao42 t347.length co42, .slice Ao47 t350.length co47, .slice Ao48 t353.length co48, .slice Ao49 t356.length co49] 30 (0, 0)) (kl BK360.out) hb); replace HB := am (below_step (bs3 GE306.out GE333.out GE360.out HB.out) hb); (try clear hb); (try clear hb2); (try clear hk); (try clear hi); (try clear ho0); (try clear ho1); (try clear ho2); (try clear ho3); obtain ⟨Ao122, co122, eo122⟩ := Kd.R_slice HO389.out; subst eo122; obtain ⟨Ao123, co123, eo123⟩ := Kd.R_slice HO392.out; subst eo123; obtain ⟨Ao124, co124, eo124⟩ := Kd.R_slice HO395.out; subst eo124; obtain ⟨Ao125, co125, eo125⟩ := Kd.R_slice HO398.out; subst eo125) | ((with_reducible refine gate_callee (f := 20) rfl ?_); refine goesL_ (some 81) rfl rfl Try.func20 (by kernel_rfl) rfl #[.agg #[.slice Ao122 t387.length co122, .slice Ao123 t390.length co123, .slice Ao124 t393.length co124, .slice Ao125 t396.length co125], .int .i64 a1] rfl (by (try simp only [List.map_toArray, List.map_cons, List.map_nil]); first | done | rfl | (simp only [List.length_drop, List.length_take]; rfl)) ?_; (with_reducible refine (impl_ShadeCell.calls kj72 _ _ t387 _ _ t390 _ _ t393 _ _ t396 a1 t399 t402 t405 t408 t411 _ ?side1 ?side2 ?side3 ?side4 ?side5 ?side6 ?side7 ?side8 A111.out).mono ?_); (case side1 => exact cl ((Kd.R_reads' HO389.out).2.2)); (case side2 => exact (Kd.R_reads' HO389.out).2.1); (case side3 => exact cl ((Kd.R_reads' HO392.out).2.2)); (case side4 => exact (Kd.R_reads' HO392.out).2.1); (case side5 => exact cl ((Kd.R_reads' HO395.out).2.2)); (case side6 => exact (Kd.R_reads' HO395.out).2.1); (case side7 => exact cl ((Kd.R_reads' HO398.out).2.2)); (case side8 => exact (Kd.R_reads' HO398.out).2.1); rintro e w126 ⟨v400, v403, v406, v409, rfl, ho0, ho1, ho2, ho3, hb⟩; refine ⟨_, rfl, ?_⟩; have HO401 := am (Kd.R_lower (Kd.R_new' (Kd.R_new' (Kd.R_new' (Kd.R_new' (Kd.R_new' (Kd.R_new' (Kd.R_new' (Kd.R_new' (Kd.R_new' (Kd.R_new' (Kd.R_new' (Kd.R_new' ho0 (Kd.R_lt (rl HO_334000.out))) (Kd.R_lt (rl HO_334001.out))) (Kd.R_lt (rl HO_334002.out))) (Kd.R_lt (rl HO_334003.out))) (Kd.R_lt (rl HO_361000.out))) (Kd.R_lt (rl HO_361001.out))) (Kd.R_lt (rl HO_361002.out))) (Kd.R_lt (rl HO_361003.out))) (Kd.R_lt (rl HO389.out))) (Kd.R_lt (rl HO392.out))) (Kd.R_lt (rl HO395.out))) (Kd.R_lt (rl HO398.out))) (below_size (bs3 GE306.out GE333.out GE360.out HB.out))); have HO404 := am (Kd.R_lower (Kd.R_new' (Kd.R_new' (Kd.R_new' (Kd.R_new' (Kd.R_new' (Kd.R_new' (Kd.R_new' (Kd.R_new' (Kd.R_new' (Kd.R_new' (Kd.R_new' (Kd.R_new' ho1 (Kd.R_lt (rl HO_334000.out))) (Kd.R_lt (rl HO_334001.out))) (Kd.R_lt (rl HO_334002.out))) (Kd.R_lt (rl HO_334003.out))) (Kd.R_lt (rl HO_361000.out))) (Kd.R_lt (rl HO_361001.out))) (Kd.R_lt (rl HO_361002.out))) (Kd.R_lt (rl HO_361003.out))) (Kd.R_lt (rl HO389.out))) (Kd.R_lt (rl HO392.out))) (Kd.R_lt (rl HO395.out))) (Kd.R_lt (rl HO398.out))) (below_size (bs3 GE306.out GE333.out GE360.out HB.out))); have HO407 := am (Kd.R_lower (Kd.R_new' (Kd.R_new' (Kd.R_new' (Kd.R_new' (Kd.R_new' (Kd.R_new' (Kd.R_new' (Kd.R_new' (Kd.R_new' (Kd.R_new' (Kd.R_new' (Kd.R_new' ho2 (Kd.R_lt (rl HO_334000.out))) (Kd.R_lt (rl HO_334001.out))) (Kd.R_lt (rl HO_334002.out))) (Kd.R_lt (rl HO_334003.out))) (Kd.R_lt (rl HO_361000.out))) (Kd.R_lt (rl HO_361001.out))) (Kd.R_lt (rl HO_361002.out))) (Kd.R_lt (rl HO_361003.out))) (Kd.R_lt (rl HO389.out))) (Kd.R_lt (rl HO392.out))) (Kd.R_lt (rl HO395.out))) (Kd.R_lt (rl HO398.out))) (below_size (bs3 GE306.out GE333.out GE360.out HB.out))); have HO410 := am (Kd.R_lower (Kd.R_new' (Kd.R_new' (Kd.R_new' (Kd.R_new' (Kd.R_new' (Kd.R_new' (Kd.R_new' (Kd.R_new' (Kd.R_new' (Kd.R_new' (Kd.R_new' (Kd.R_new' ho3 (Kd.R_lt (rl HO_334000.out))) (Kd.R_lt (rl HO_334001.out))) (Kd.R_lt (rl HO_334002.out))) (Kd.R_lt (rl HO_334003.out))) (Kd.R_lt (rl HO_361000.out))) (Kd.R_lt (rl HO_361001.out))) (Kd.R_lt (rl HO_361002.out))) (Kd.R_lt (rl HO_361003.out))) (Kd.R_lt (rl HO389.out))) (Kd.R_lt (rl HO392.out))) (Kd.R_lt (rl HO395.out))) (Kd.R_lt (rl HO398.out))) (below_size (bs3 GE306.out GE333.out GE360.out HB.out))); replace HO_334000 := am (Kd.R_mono (Kd.R_told (Kd.R_told (Kd.R_told (Kd.R_told (Kd.R_old (rl HO_334000.out) hb) (Kd.R_base ho0)) (Kd.R_base ho1)) (Kd.R_base ho2)) (Kd.R_base ho3)) (fun _ h_ => h_.1)); replace HO_334001 := am (Kd.R_mono (Kd.R_told (Kd.R_told (Kd.R_told (Kd.R_told (Kd.R_old (rl HO_334001.out) hb) (Kd.R_base ho0)) (Kd.R_base ho1)) (Kd.R_base ho2)) (Kd.R_base ho3)) (fun _ h_ => h_.1)); replace HO_334002 := am (Kd.R_mono (Kd.R_told (Kd.R_told (Kd.R_told (Kd.R_told (Kd.R_old (rl HO_334002.out) hb) (Kd.R_base ho0)) (Kd.R_base ho1)) (Kd.R_base ho2)) (Kd.R_base ho3)) (fun _ h_ => h_.1)); replace HO_334003 := am (Kd.R_mono (Kd.R_told (Kd.R_told (Kd.R_told (Kd.R_told (Kd.R_old (rl HO_334003.out) hb) (Kd.R_base ho0)) (Kd.R_base ho1)) (Kd.R_base ho2)) (Kd.R_base ho3)) (fun _ h_ => h_.1)); replace HO_361000 := am (Kd.R_mono (Kd.R_told (Kd.R_told (Kd.R_told (Kd.R_told (Kd.R_old (rl HO_361000.out) hb) (Kd.R_base ho0)) (Kd.R_base ho1)) (Kd.R_base ho2)) (Kd.R_base ho3)) (fun _ h_ => h_.1)); replace HO_361001 := am (Kd.R_mono (Kd.R_told (Kd.R_told (Kd.R_told (Kd.R_told (Kd.R_old (rl HO_361001.out) hb) (Kd.R_base ho0)) (Kd.R_base ho1)) (Kd.R_base ho2)) (Kd.R_base ho3)) (fun _ h_ => h_.1)); replace HO_361002 := am (Kd.R_mono (Kd.R_told (Kd.R_told (Kd.R_told (Kd.R_told (Kd.R_old (rl HO_361002.out) hb) (Kd.R_base ho0)) (Kd.R_base ho1)) (Kd.R_base ho2)) (Kd.R_base ho3)) (fun _ h_ => h_.1)); replace HO_361003 := am (Kd.R_mono (Kd.R_told (Kd.R_told (Kd.R_told (Kd.R_told (Kd.R_old (rl HO_361003.out) hb) (Kd.R_base ho0)) (Kd.R_base ho1)) (Kd.R_base ho2)) (Kd.R_base ho3)) (fun _ h_ => h_.1)); replace HO389 := am (Kd.R_mono (Kd.R_told (Kd.R_told (Kd.R_told (Kd.R_told (Kd.R_old (rl HO389.out) hb) (Kd.R_base ho0)) (Kd.R_base ho1)) (Kd.R_base ho2)) (Kd.R_base ho3)) (fun _ h_ => h_.1)); replace HO392 := am (Kd.R_mono (Kd.R_told (Kd.R_told (Kd.R_told (Kd.R_told (Kd.R_old (rl HO392.out) hb) (Kd.R_base ho0)) (Kd.R_base ho1)) (Kd.R_base ho2)) (Kd.R_base ho3)) (fun _ h_ => h_.1)); replace HO395 := am (Kd.R_mono (Kd.R_told (Kd.R_told (Kd.R_told (Kd.R_told (Kd.R_old (rl HO395.out) hb) (Kd.R_base ho0)) (Kd.R_base ho1)) (Kd.R_base ho2)) (Kd.R_base ho3)) (fun _ h_ => h_.1)); replace HO398 := am (Kd.R_mono (Kd.R_told (Kd.R_told (Kd.R_told (Kd.R_told (Kd.R_old (rl HO398.out) hb) (Kd.R_base ho0)) (Kd.R_base ho1)) (Kd.R_base ho2)) (Kd.R_base ho3)) (fun _ h_ => h_.1)); replace BK306 := am (blk_below (g := gb306) (o := .cells #[.slice A0_0 l0_0.length c0_0, .slice A0_1 l0_1.length c0_1, .slice A0_2 l0_2.length c0_2, .slice A0_3 l0_3.length c0_3] 26 (0, 0)) (kl BK306.out) hb); replace BK333 := am (blk_below (g := gb333) (o := .cells #[.slice Ao24 t320.length co24, .slice Ao27 t323.length co27, .slice Ao28 t326.length co28, .slice Ao29 t329.length co29] 30 (0, 0)) (kl BK333.out) hb); replace BK360 := am (blk_below (g := gb360) (o := .cells #[.slice Ao42 t347.length co42, .slice Ao47 t350.length co47, .slice Ao48 t353.length co48, .slice Ao49 t356.length co49] 30 (0, 0)) (kl BK360.out) hb); replace HB := am (below_step (bs3 GE306.out GE333.out GE360.out HB.out) hb); (try clear hb); (try clear hb2); (try clear hk); (try clear hi); (try clear ho0); (try clear ho1); (try clear ho2); (try clear ho3)) | ((with_reducible refine gate_dst (N := 14) rfl ?_); refine box_event ?hg (N := 14) ?hd (cs := #[.slice none 0 0, .slice none 0 0, .slice none 0 0, .slice none 0 0]) (t := 30) ?hr ?_; (case hd => rfl); (case hg => rfl); (case hr => first | (go_simp; done) | (go_simp; rfl)); intro gb412 hg w127 hbox hb; replace HO_334000 := am (Kd.R_below (rl HO_334000.out) hb); replace HO_334001 := am (Kd.R_below (rl HO_334001.out) hb); replace HO_334002 := am (Kd.R_below (rl HO_334002.out) hb); replace HO_334003 := am (Kd.R_below (rl HO_334003.out) hb); replace HO_361000 := am (Kd.R_below (rl HO_361000.out) hb); replace HO_361001 := am (Kd.R_below (rl HO_361001.out) hb); replace HO_361002 := am (Kd.R_below (rl HO_361002.out) hb); replace HO_361003 := am (Kd.R_below (rl HO_361003.out) hb); replace HO389 := am (Kd.R_below (rl HO389.out) hb); replace HO392 := am (Kd.R_below (rl HO392.out) hb); replace HO395 := am (Kd.R_below (rl HO395.out) hb); replace HO398 := am (Kd.R_below (rl HO398.out) hb); replace HO401 := am (Kd.R_below (rl HO401.out) hb); replace HO404 := am (Kd.R_below (rl HO404.out) hb); replace HO407 := am (Kd.R_below (rl HO407.out) hb); replace HO410 := am (Kd.R_below (rl HO410.out) hb); have BK412 := am (hbox); have GW412 := am ((by rw [hg]; exact (below_size (bs3 GE306.out GE333.out GE360.out HB.out)) : w.heap.size ≤ gb412)); have GE412 := am ((by rw [hg]; exact (below_size (bs3 GE306.out GE333.out GE360.out HB.out)) : w.heap.size ≤ gb412)); replace HB := am (below_step (bs3 GE306.out GE333.out GE360.out HB.out) hb); have NB306_412 := am ((by rw [hg]; exact Nat.ne_of_lt (blk_lt (g := gb306) (o := .cells #[.slice A0_0 l0_0.length c0_0, .slice A0_1 l0_1.length c0_1, .slice A0_2 l0_2.length c0_2, .slice A0_3 l0_3.length c0_3] 26 (0, 0)) (kl BK306.out)) : gb306 ≠ gb412)); have NB412_306 := am ((by rw [hg]; exact Nat.ne_of_gt (blk_lt (g := gb306) (o := .cells #[.slice A0_0 l0_0.length c0_0, .slice A0_1 l0_1.length c0_1, .slice A0_2 l0_2.length c0_2, .slice A0_3 l0_3.length c0_3] 26 (0, 0)) (kl BK306.out)) : gb412 ≠ gb306)); replace BK306 := am (blk_below (g := gb306) (o := .cells #[.slice A0_0 l0_0.length c0_0, .slice A0_1 l0_1.length c0_1, .slice A0_2 l0_2.length c0_2, .slice A0_3 l0_3.length c0_3] 26 (0, 0)) (kl BK306.out) hb); have NB333_412 := am ((by rw [hg]; exact Nat.ne_of_lt (blk_lt (g := gb333) (o := .cells #[.slice Ao24 t320.length co24, .slice Ao27 t323.length co27, .slice Ao28 t326.length co28, .slice Ao29 t329.length co29] 30 (0, 0)) (kl BK333.out)) : gb333 ≠ gb412)); have NB412_333 := am ((by rw [hg]; exact Nat.ne_of_gt (blk_lt (g := gb333) (o := .cells #[.slice Ao24 t320.length co24, .slice Ao27 t323.length co27, .slice Ao28 t326.length co28, .slice Ao29 t329.length co29] 30 (0, 0)) (kl BK333.out)) : gb412 ≠ gb333)); replace BK333 := am (blk_below (g := gb333) (o := .cells #[.slice Ao24 t320.length co24, .slice Ao27 t323.length co27, .slice Ao28 t326.length co28, .slice Ao29 t329.length co29] 30 (0, 0)) (kl BK333.out) hb); have NB360_412 := am ((by rw [hg]; exact Nat.ne_of_lt (blk_lt (g := gb360) (o := .cells #[.slice Ao42 t347.length co42, .slice Ao47 t350.length co47, .slice Ao48 t353.length co48, .slice Ao49 t356.length co49] 30 (0, 0)) (kl BK360.out)) : gb360 ≠ gb412)); have NB412_360 := am ((by rw [hg]; exact Nat.ne_of_gt (blk_lt (g := gb360) (o := .cells #[.slice Ao42 t347.length co42, .slice Ao47 t350.length co47, .slice Ao48 t353.length co48, .slice Ao49 t356.length co49] 30 (0, 0)) (kl BK360.out)) : gb412 ≠ gb360)); replace BK360 := am (blk_below (g := gb360) (o := .cells #[.slice Ao42 t347.length co42, .slice Ao47 t350.length co47, .slice Ao48 t353.length co48, .slice Ao49 t356.length co49] 30 (0, 0)) (kl BK360.out) hb); clear hb hbox hg; obtain ⟨Ao128, co128, eo128⟩ := Kd.R_slice HO401.out; subst eo128; have hnb129 := NB412_306.out; have hnc129 := NB306_412.out; have hnb130 := NB412_333.out; have hnc130 := NB333_412.out; have hnb131 := NB412_360.out; have hnc131 := NB360_412.out; have hcz132_0 : w127.cell? ⟨gb412, 0, none⟩ = some (.slice none 0 0) := (blk_cell BK412.out 0).trans rfl; have hcz132_1 : w127.cell? ⟨gb412, 1, none⟩ = some (.slice none 0 0) := (blk_cell BK412.out 1).trans rfl; have hcz132_2 : w127.cell? ⟨gb412, 2, none⟩ = some (.slice none 0 0) := (blk_cell BK412.out 2).trans rfl; have hcz132_3 : w127.cell? ⟨gb412, 3, none⟩ = some (.slice none 0 0) := (blk_cell BK412.out 3).trans rfl; have hfz132_0 := blk_frozen BK412.out 0; have hfz132_1 := blk_frozen BK412.out 1; have hfz132_2 := blk_frozen BK412.out 2; have hfz132_3 := blk_frozen BK412.out 3; obtain ⟨Ao133, co133, eo133⟩ := Kd.R_slice HO404.out; subst eo133; obtain ⟨Ao134, co134, eo134⟩ := Kd.R_slice HO407.out; subst eo134; obtain ⟨Ao135, co135, eo135⟩ := Kd.R_slice HO410.out; subst eo135))
           (try simp only [Act.put, List.setIfInBounds_toArray, List.set_cons_zero, List.set_cons_succ])
           go_cut [92] (fun v92 wc => ∃ (kq : Nat) (x92_111 : Bool), v92 = .bool x92_111 ∧ Aside0 (laws_FnExactShadeCell.j2 kq t381 x92_111 t382 t383 t384 t385 = some r) ∧ Aside0 (kq ≤ kj72) ∧ Aside0 (Kd.R (Kd.int .i64) 3 wc w.heap.size (fun k_ => some k_ ≠ ((.slice Ao47 t350.length co47) : Value).ownBlock ∧ some k_ ≠ ((.slice Ao48 t353.length co48) : Value).ownBlock ∧ some k_ ≠ ((.slice Ao49 t356.length co49) : Value).ownBlock) (.slice Ao42 t347.length co42) t382) ∧ Aside0 (Kd.R (Kd.int .i64) 3 wc w.heap.size (fun k_ => some k_ ≠ ((.slice Ao42 t347.length co42) : Value).ownBlock ∧ some k_ ≠ ((.slice Ao48 t353.length co48) : Value).ownBlock ∧ some k_ ≠ ((.slice Ao49 t356.length co49) : Value).ownBlock) (.slice Ao47 t350.length co47) t383) ∧ Aside0 (Kd.R (Kd.int .i64) 3 wc w.heap.size (fun k_ => some k_ ≠ ((.slice Ao42 t347.length co42) : Value).ownBlock ∧ some k_ ≠ ((.slice Ao47 t350.length co47) : Value).ownBlock ∧ some k_ ≠ ((.slice Ao49 t356.length co49) : Value).ownBlock) (.slice Ao48 t353.length co48) t384) ∧ Aside0 (Kd.R (Kd.int .i64) 3 wc w.heap.size (fun k_ => some k_ ≠ ((.slice Ao42 t347.length co42) : Value).ownBlock ∧ some k_ ≠ ((.slice Ao47 t350.length co47) : Value).ownBlock ∧ some k_ ≠ ((.slice Ao48 t353.length co48) : Value).ownBlock) (.slice Ao49 t356.length co49) t385) ∧ Aside0 (wc.heap[gb360]? = some (.cells #[(.slice Ao42 t347.length co42), (.slice Ao47 t350.length co47), (.slice Ao48 t353.length co48), (.slice Ao49 t356.length co49)] 30 (0, 0))) ∧ Aside0 (Below w.heap.size w wc))
           case first =>
            have H := HC112.out
            clear HC112
            replace H := Option.bind_eq_some_iff.mp H
            obtain ⟨t413, A1360, H⟩ := H
            replace H : (if t413 = true then (laws_FnExactShadeCell.j2 kj72 t381 (t411 != t332) t382 t383 t384 t385) else (laws_FnExactShadeCell.j2 kj72 t381 true t382 t383 t384 t385)) = some r := H
            have A136 := am A1360
            clear A1360
            by_cases c137 : t413 = true
            ·subst c137
             have H1 : (laws_FnExactShadeCell.j2 kj72 t381 (t411 != t332) t382 t383 t384 t385) = some r := by rw [if_pos rfl] at H; exact H
             clear H
             have H := H1
             clear H1
             have H' := am H
             clear H
             have hnb138 := NB412_306.out
             have hnc138 := NB306_412.out
             have hnb139 := NB412_333.out
             have hnc139 := NB333_412.out
             have hnb140 := NB412_360.out
             have hnc140 := NB360_412.out
             have hcz141_0 : w127.cell? ⟨gb412, 0, none⟩ = some (.slice none 0 0) := (blk_cell BK412.out 0).trans rfl
             have hcz141_1 : w127.cell? ⟨gb412, 1, none⟩ = some (.slice none 0 0) := (blk_cell BK412.out 1).trans rfl
             have hcz141_2 : w127.cell? ⟨gb412, 2, none⟩ = some (.slice none 0 0) := (blk_cell BK412.out 2).trans rfl
             have hcz141_3 : w127.cell? ⟨gb412, 3, none⟩ = some (.slice none 0 0) := (blk_cell BK412.out 3).trans rfl
             have hfz141_0 := blk_frozen BK412.out 0
             have hfz141_1 := blk_frozen BK412.out 1
             have hfz141_2 := blk_frozen BK412.out 2
             have hfz141_3 := blk_frozen BK412.out 3
             have hnb142 := NB333_306.out
             have hnc142 := NB306_333.out
             have hnb143 := NB333_360.out
             have hnc143 := NB360_333.out
             have hcz144_0 : w127.cell? ⟨gb333, 0, none⟩ = some (.slice Ao24 t320.length co24) := (blk_cell BK333.out 0).trans rfl
             have hcz144_1 : w127.cell? ⟨gb333, 1, none⟩ = some (.slice Ao27 t323.length co27) := (blk_cell BK333.out 1).trans rfl
             have hcz144_2 : w127.cell? ⟨gb333, 2, none⟩ = some (.slice Ao28 t326.length co28) := (blk_cell BK333.out 2).trans rfl
             have hcz144_3 : w127.cell? ⟨gb333, 3, none⟩ = some (.slice Ao29 t329.length co29) := (blk_cell BK333.out 3).trans rfl
             have hfz144_0 := blk_frozen BK333.out 0
             have hfz144_1 := blk_frozen BK333.out 1
             have hfz144_2 := blk_frozen BK333.out 2
             have hfz144_3 := blk_frozen BK333.out 3
             go_wp2_with (first | ((with_reducible refine gate_callee (f := 21) rfl ?_); refine goesL_ (some 86) rfl rfl Try.func21 (by kernel_rfl) rfl #[.agg #[.slice Ao128 t399.length co128, .slice Ao133 t402.length co133, .slice Ao134 t405.length co134, .slice Ao135 t408.length co135], .agg #[.slice Ao24 t320.length co24, .slice Ao27 t323.length co27, .slice Ao28 t326.length co28, .slice Ao29 t329.length co29]] rfl (by (try simp only [List.map_toArray, List.map_cons, List.map_nil]); first | done | rfl | (simp only [List.length_drop, List.length_take]; rfl)) ?_; (with_reducible refine (laws_eqColored.calls kj72 _ _ t399 _ _ t402 _ _ t405 _ _ t408 _ _ t320 _ _ t323 _ _ t326 _ _ t329 true _ ?side1 ?side2 ?side3 ?side4 ?side5 ?side6 ?side7 ?side8 ?side9 ?side10 ?side11 ?side12 ?side13 ?side14 ?side15 ?side16 A136.out).mono ?_); (case side1 => exact (Kd.R_reads' (rf1 BK412.out HO401.out)).2.2); (case side2 => exact (Kd.R_reads' HO401.out).2.1); (case side3 => exact (Kd.R_reads' (rf1 BK412.out HO404.out)).2.2); (case side4 => exact (Kd.R_reads' HO404.out).2.1); (case side5 => exact (Kd.R_reads' (rf1 BK412.out HO407.out)).2.2); (case side6 => exact (Kd.R_reads' HO407.out).2.1); (case side7 => exact (Kd.R_reads' (rf1 BK412.out HO410.out)).2.2); (case side8 => exact (Kd.R_reads' HO410.out).2.1); (case side9 => exact (Kd.R_reads' (rf1 BK412.out HO_334000.out)).2.2); (case side10 => exact (Kd.R_reads' HO_334000.out).2.1); (case side11 => exact (Kd.R_reads' (rf1 BK412.out HO_334001.out)).2.2); (case side12 => exact (Kd.R_reads' HO_334001.out).2.1); (case side13 => exact (Kd.R_reads' (rf1 BK412.out HO_334002.out)).2.2); (case side14 => exact (Kd.R_reads' HO_334002.out).2.1); (case side15 => exact (Kd.R_reads' (rf1 BK412.out HO_334003.out)).2.2); (case side16 => exact (Kd.R_reads' HO_334003.out).2.1); rintro e w145 ⟨rfl, hb⟩; refine ⟨_, rfl, ?_⟩; replace HO_334000 := am (Kd.R_below (rf1 BK412.out HO_334000.out) hb); replace HO_334001 := am (Kd.R_below (rf1 BK412.out HO_334001.out) hb); replace HO_334002 := am (Kd.R_below (rf1 BK412.out HO_334002.out) hb); replace HO_334003 := am (Kd.R_below (rf1 BK412.out HO_334003.out) hb); replace HO_361000 := am (Kd.R_below (rf1 BK412.out HO_361000.out) hb); replace HO_361001 := am (Kd.R_below (rf1 BK412.out HO_361001.out) hb); replace HO_361002 := am (Kd.R_below (rf1 BK412.out HO_361002.out) hb); replace HO_361003 := am (Kd.R_below (rf1 BK412.out HO_361003.out) hb); replace HO389 := am (Kd.R_below (rf1 BK412.out HO389.out) hb); replace HO392 := am (Kd.R_below (rf1 BK412.out HO392.out) hb); replace HO395 := am (Kd.R_below (rf1 BK412.out HO395.out) hb); replace HO398 := am (Kd.R_below (rf1 BK412.out HO398.out) hb); replace HO401 := am (Kd.R_below (rf1 BK412.out HO401.out) hb); replace HO404 := am (Kd.R_below (rf1 BK412.out HO404.out) hb); replace HO407 := am (Kd.R_below (rf1 BK412.out HO407.out) hb); replace HO410 := am (Kd.R_below (rf1 BK412.out HO410.out) hb); replace BK306 := am (blk_below (g := gb306) (o := .cells #[.slice A0_0 l0_0.length c0_0, .slice A0_1 l0_1.length c0_1, .slice A0_2 l0_2.length c0_2, .slice A0_3 l0_3.length c0_3] 26 (0, 0)) (kf1 NB306_412.out BK306.out) hb); replace BK333 := am (blk_below (g := gb333) (o := .cells #[.slice Ao24 t320.length co24, .slice Ao27 t323.length co27, .slice Ao28 t326.length co28, .slice Ao29 t329.length co29] 30 (0, 0)) (kf1 NB333_412.out BK333.out) hb); replace BK360 := am (blk_below (g := gb360) (o := .cells #[.slice Ao42 t347.length co42, .slice Ao47 t350.length co47, .slice Ao48 t353.length co48, .slice Ao49 t356.length co49] 30 (0, 0)) (kf1 NB360_412.out BK360.out) hb); replace BK412 := am (blk_below (g := gb412) (o := .cells #[.slice Ao128 t399.length co128, .slice Ao133 t402.length co133, .slice Ao134 t405.length co134, .slice Ao135 t408.length co135] 30 (0, 0)) (kp4 (kf0 BK412.out)) hb); replace HB := am (below_step (bs4 GE306.out GE333.out GE360.out GE412.out HB.out) hb); (try clear hb); (try clear hb2); (try clear hk); (try clear hi)))
             go_meet
             case rel => exact ⟨_, ((t411 != t332)), (by first | rfl | (simp; done) | (simp [*]; done)), H', ⟨by have := HJ11.out; have := HJ72.out; first | omega | exact Nat.le_refl _⟩, ⟨rl (Kd.R_mono HO_361000.out (fun _ hk => by simp only [ne_eq] at hk ⊢; simp only [hk, not_false_eq_true, and_self]))⟩, ⟨rl (Kd.R_mono HO_361001.out (fun _ hk => by simp only [ne_eq] at hk ⊢; simp only [hk, not_false_eq_true, and_self]))⟩, ⟨rl (Kd.R_mono HO_361002.out (fun _ hk => by simp only [ne_eq] at hk ⊢; simp only [hk, not_false_eq_true, and_self]))⟩, ⟨rl (Kd.R_mono HO_361003.out (fun _ hk => by simp only [ne_eq] at hk ⊢; simp only [hk, not_false_eq_true, and_self]))⟩, ⟨kl BK360.out⟩, ⟨by exact bs4 GE306.out GE333.out GE360.out GE412.out HB.out⟩⟩
            ·replace c137 := Bool.eq_false_iff.mpr c137
             subst c137
             have H1 : (laws_FnExactShadeCell.j2 kj72 t381 true t382 t383 t384 t385) = some r := by rw [if_neg (show ¬ (false = true) by decide)] at H; exact H
             clear H
             have H := H1
             clear H1
             have H' := am H
             clear H
             have hnb146 := NB412_306.out
             have hnc146 := NB306_412.out
             have hnb147 := NB412_333.out
             have hnc147 := NB333_412.out
             have hnb148 := NB412_360.out
             have hnc148 := NB360_412.out
             have hcz149_0 : w127.cell? ⟨gb412, 0, none⟩ = some (.slice none 0 0) := (blk_cell BK412.out 0).trans rfl
             have hcz149_1 : w127.cell? ⟨gb412, 1, none⟩ = some (.slice none 0 0) := (blk_cell BK412.out 1).trans rfl
             have hcz149_2 : w127.cell? ⟨gb412, 2, none⟩ = some (.slice none 0 0) := (blk_cell BK412.out 2).trans rfl
             have hcz149_3 : w127.cell? ⟨gb412, 3, none⟩ = some (.slice none 0 0) := (blk_cell BK412.out 3).trans rfl
             have hfz149_0 := blk_frozen BK412.out 0
             have hfz149_1 := blk_frozen BK412.out 1
             have hfz149_2 := blk_frozen BK412.out 2
             have hfz149_3 := blk_frozen BK412.out 3
             have hnb150 := NB333_306.out
             have hnc150 := NB306_333.out
             have hnb151 := NB333_360.out
             have hnc151 := NB360_333.out
             have hcz152_0 : w127.cell? ⟨gb333, 0, none⟩ = some (.slice Ao24 t320.length co24) := (blk_cell BK333.out 0).trans rfl
             have hcz152_1 : w127.cell? ⟨gb333, 1, none⟩ = some (.slice Ao27 t323.length co27) := (blk_cell BK333.out 1).trans rfl
             have hcz152_2 : w127.cell? ⟨gb333, 2, none⟩ = some (.slice Ao28 t326.length co28) := (blk_cell BK333.out 2).trans rfl
             have hcz152_3 : w127.cell? ⟨gb333, 3, none⟩ = some (.slice Ao29 t329.length co29) := (blk_cell BK333.out 3).trans rfl
             have hfz152_0 := blk_frozen BK333.out 0
             have hfz152_1 := blk_frozen BK333.out 1
             have hfz152_2 := blk_frozen BK333.out 2
             have hfz152_3 := blk_frozen BK333.out 3
             go_wp2_with (first | ((with_reducible refine gate_callee (f := 21) rfl ?_); refine goesL_ (some 86) rfl rfl Try.func21 (by kernel_rfl) rfl #[.agg #[.slice Ao128 t399.length co128, .slice Ao133 t402.length co133, .slice Ao134 t405.length co134, .slice Ao135 t408.length co135], .agg #[.slice Ao24 t320.length co24, .slice Ao27 t323.length co27, .slice Ao28 t326.length co28, .slice Ao29 t329.length co29]] rfl (by (try simp only [List.map_toArray, List.map_cons, List.map_nil]); first | done | rfl | (simp only [List.length_drop, List.length_take]; rfl)) ?_; (with_reducible refine (laws_eqColored.calls kj72 _ _ t399 _ _ t402 _ _ t405 _ _ t408 _ _ t320 _ _ t323 _ _ t326 _ _ t329 false _ ?side1 ?side2 ?side3 ?side4 ?side5 ?side6 ?side7 ?side8 ?side9 ?side10 ?side11 ?side12 ?side13 ?side14 ?side15 ?side16 A136.out).mono ?_); (case side1 => exact (Kd.R_reads' (rf1 BK412.out HO401.out)).2.2); (case side2 => exact (Kd.R_reads' HO401.out).2.1); (case side3 => exact (Kd.R_reads' (rf1 BK412.out HO404.out)).2.2); (case side4 => exact (Kd.R_reads' HO404.out).2.1); (case side5 => exact (Kd.R_reads' (rf1 BK412.out HO407.out)).2.2); (case side6 => exact (Kd.R_reads' HO407.out).2.1); (case side7 => exact (Kd.R_reads' (rf1 BK412.out HO410.out)).2.2); (case side8 => exact (Kd.R_reads' HO410.out).2.1); (case side9 => exact (Kd.R_reads' (rf1 BK412.out HO_334000.out)).2.2); (case side10 => exact (Kd.R_reads' HO_334000.out).2.1); (case side11 => exact (Kd.R_reads' (rf1 BK412.out HO_334001.out)).2.2); (case side12 => exact (Kd.R_reads' HO_334001.out).2.1); (case side13 => exact (Kd.R_reads' (rf1 BK412.out HO_334002.out)).2.2); (case side14 => exact (Kd.R_reads' HO_334002.out).2.1); (case side15 => exact (Kd.R_reads' (rf1 BK412.out HO_334003.out)).2.2); (case side16 => exact (Kd.R_reads' HO_334003.out).2.1); rintro e w153 ⟨rfl, hb⟩; refine ⟨_, rfl, ?_⟩; replace HO_334000 := am (Kd.R_below (rf1 BK412.out HO_334000.out) hb); replace HO_334001 := am (Kd.R_below (rf1 BK412.out HO_334001.out) hb); replace HO_334002 := am (Kd.R_below (rf1 BK412.out HO_334002.out) hb); replace HO_334003 := am (Kd.R_below (rf1 BK412.out HO_334003.out) hb); replace HO_361000 := am (Kd.R_below (rf1 BK412.out HO_361000.out) hb); replace HO_361001 := am (Kd.R_below (rf1 BK412.out HO_361001.out) hb); replace HO_361002 := am (Kd.R_below (rf1 BK412.out HO_361002.out) hb); replace HO_361003 := am (Kd.R_below (rf1 BK412.out HO_361003.out) hb); replace HO389 := am (Kd.R_below (rf1 BK412.out HO389.out) hb); replace HO392 := am (Kd.R_below (rf1 BK412.out HO392.out) hb); replace HO395 := am (Kd.R_below (rf1 BK412.out HO395.out) hb); replace HO398 := am (Kd.R_below (rf1 BK412.out HO398.out) hb); replace HO401 := am (Kd.R_below (rf1 BK412.out HO401.out) hb); replace HO404 := am (Kd.R_below (rf1 BK412.out HO404.out) hb); replace HO407 := am (Kd.R_below (rf1 BK412.out HO407.out) hb); replace HO410 := am (Kd.R_below (rf1 BK412.out HO410.out) hb); replace BK306 := am (blk_below (g := gb306) (o := .cells #[.slice A0_0 l0_0.length c0_0, .slice A0_1 l0_1.length c0_1, .slice A0_2 l0_2.length c0_2, .slice A0_3 l0_3.length c0_3] 26 (0, 0)) (kf1 NB306_412.out BK306.out) hb); replace BK333 := am (blk_below (g := gb333) (o := .cells #[.slice Ao24 t320.length co24, .slice Ao27 t323.length co27, .slice Ao28 t326.length co28, .slice Ao29 t329.length co29] 30 (0, 0)) (kf1 NB333_412.out BK333.out) hb); replace BK360 := am (blk_below (g := gb360) (o := .cells #[.slice Ao42 t347.length co42, .slice Ao47 t350.length co47, .slice Ao48 t353.length co48, .slice Ao49 t356.length co49] 30 (0, 0)) (kf1 NB360_412.out BK360.out) hb); replace BK412 := am (blk_below (g := gb412) (o := .cells #[.slice Ao128 t399.length co128, .slice Ao133 t402.length co133, .slice Ao134 t405.length co134, .slice Ao135 t408.length co135] 30 (0, 0)) (kp4 (kf0 BK412.out)) hb); replace HB := am (below_step (bs4 GE306.out GE333.out GE360.out GE412.out HB.out) hb); (try clear hb); (try clear hb2); (try clear hk); (try clear hi)))
             go_meet
             case rel => exact ⟨_, (true), (by first | rfl | (simp; done) | (simp [*]; done)), H', ⟨by have := HJ11.out; have := HJ72.out; first | omega | exact Nat.le_refl _⟩, ⟨rl (Kd.R_mono HO_361000.out (fun _ hk => by simp only [ne_eq] at hk ⊢; simp only [hk, not_false_eq_true, and_self]))⟩, ⟨rl (Kd.R_mono HO_361001.out (fun _ hk => by simp only [ne_eq] at hk ⊢; simp only [hk, not_false_eq_true, and_self]))⟩, ⟨rl (Kd.R_mono HO_361002.out (fun _ hk => by simp only [ne_eq] at hk ⊢; simp only [hk, not_false_eq_true, and_self]))⟩, ⟨rl (Kd.R_mono HO_361003.out (fun _ hk => by simp only [ne_eq] at hk ⊢; simp only [hk, not_false_eq_true, and_self]))⟩, ⟨kl BK360.out⟩, ⟨by exact bs4 GE306.out GE333.out GE360.out GE412.out HB.out⟩⟩
           case rest =>
            clear HC112
            try clear c1
            try clear c2
            try clear p2
            try clear c3
            try clear c4
            try clear c4b0
            try clear c5
            try clear c6
            try clear c7
            try clear c8
            try clear c9
            try clear c10
            try clear c11
            try clear c12
            try clear c13
            try clear c14
            try clear c15
            try clear c17
            try clear c18
            try clear c19
            try clear c20
            try clear c21
            try clear c22
            try clear c23
            try clear c25
            try clear c34
            try clear c35
            try clear c43
            try clear c44
            try clear c45
            try clear c51
            try clear c52
            try clear c53
            try clear c54
            try clear c56
            try clear c57
            try clear c60
            try clear c61
            try clear c62
            try clear c64
            try clear c65
            try clear c68
            try clear c71
            try clear c81
            try clear c82
            try clear c83
            try clear c86
            try clear c86b0
            try clear c88
            try clear c89
            try clear c90
            try clear c91
            try clear c93
            try clear c94
            try clear c97
            try clear c98
            try clear c99
            try clear c101
            try clear c102
            try clear c105
            try clear c108
            try clear c108b0
            try clear c109
            try clear c109b0
            try clear c109b1
            try clear c113
            try clear c114
            try clear c119
            try clear c129
            try clear c130
            try clear c131
            try clear c137
            try clear c138
            try clear c139
            try clear c140
            try clear c142
            try clear c143
            try clear c146
            try clear c147
            try clear c148
            try clear c150
            try clear c151
            try clear hcz100_0
            try clear hcz100_1
            try clear hcz100_2
            try clear hcz100_3
            try clear hcz103_0
            try clear hcz103_1
            try clear hcz103_2
            try clear hcz103_3
            try clear hcz115_0
            try clear hcz115_1
            try clear hcz115_2
            try clear hcz115_3
            try clear hcz117_0
            try clear hcz117_1
            try clear hcz117_2
            try clear hcz117_3
            try clear hcz120_0
            try clear hcz120_1
            try clear hcz120_2
            try clear hcz120_3
            try clear hcz132_0
            try clear hcz132_1
            try clear hcz132_2
            try clear hcz132_3
            try clear hcz141_0
            try clear hcz141_1
            try clear hcz141_2
            try clear hcz141_3
            try clear hcz144_0
            try clear hcz144_1
            try clear hcz144_2
            try clear hcz144_3
            try clear hcz149_0
            try clear hcz149_1
            try clear hcz149_2
            try clear hcz149_3
            try clear hcz14_0
            try clear hcz14_1
            try clear hcz14_2
            try clear hcz14_3
            try clear hcz152_0
            try clear hcz152_1
            try clear hcz152_2
            try clear hcz152_3
            try clear hcz16_0
            try clear hcz16_1
            try clear hcz16_2
            try clear hcz16_3
            try clear hcz26_0
            try clear hcz26_1
            try clear hcz26_2
            try clear hcz26_3
            try clear hcz30_0
            try clear hcz30_1
            try clear hcz30_2
            try clear hcz30_3
            try clear hcz36_0
            try clear hcz36_1
            try clear hcz36_2
            try clear hcz36_3
            try clear hcz46_0
            try clear hcz46_1
            try clear hcz46_2
            try clear hcz46_3
            try clear hcz55_0
            try clear hcz55_1
            try clear hcz55_2
            try clear hcz55_3
            try clear hcz58_0
            try clear hcz58_1
            try clear hcz58_2
            try clear hcz58_3
            try clear hcz63_0
            try clear hcz63_1
            try clear hcz63_2
            try clear hcz63_3
            try clear hcz66_0
            try clear hcz66_1
            try clear hcz66_2
            try clear hcz66_3
            try clear hcz6_0
            try clear hcz6_1
            try clear hcz6_2
            try clear hcz6_3
            try clear hcz84_0
            try clear hcz84_1
            try clear hcz84_2
            try clear hcz84_3
            try clear hcz92_0
            try clear hcz92_1
            try clear hcz92_2
            try clear hcz92_3
            try clear hcz95_0
            try clear hcz95_1
            try clear hcz95_2
            try clear hcz95_3
            try clear hfz100_0
            try clear hfz100_1
            try clear hfz100_2
            try clear hfz100_3
            try clear hfz103_0
            try clear hfz103_1
            try clear hfz103_2
            try clear hfz103_3
            try clear hfz115_0
            try clear hfz115_1
            try clear hfz115_2
            try clear hfz115_3
            try clear hfz117_0
            try clear hfz117_1
            try clear hfz117_2
            try clear hfz117_3
            try clear hfz120_0
            try clear hfz120_1
            try clear hfz120_2
            try clear hfz120_3
            try clear hfz132_0
            try clear hfz132_1
            try clear hfz132_2
            try clear hfz132_3
            try clear hfz141_0
            try clear hfz141_1
            try clear hfz141_2
            try clear hfz141_3
            try clear hfz144_0
            try clear hfz144_1
            try clear hfz144_2
            try clear hfz144_3
            try clear hfz149_0
            try clear hfz149_1
            try clear hfz149_2
            try clear hfz149_3
            try clear hfz14_0
            try clear hfz14_1
            try clear hfz14_2
            try clear hfz14_3
            try clear hfz152_0
            try clear hfz152_1
            try clear hfz152_2
            try clear hfz152_3
            try clear hfz16_0
            try clear hfz16_1
            try clear hfz16_2
            try clear hfz16_3
            try clear hfz26_0
            try clear hfz26_1
            try clear hfz26_2
            try clear hfz26_3
            try clear hfz30_0
            try clear hfz30_1
            try clear hfz30_2
            try clear hfz30_3
            try clear hfz36_0
            try clear hfz36_1
            try clear hfz36_2
            try clear hfz36_3
            try clear hfz46_0
            try clear hfz46_1
            try clear hfz46_2
            try clear hfz46_3
            try clear hfz55_0
            try clear hfz55_1
            try clear hfz55_2
            try clear hfz55_3
            try clear hfz58_0
            try clear hfz58_1
            try clear hfz58_2
            try clear hfz58_3
            try clear hfz63_0
            try clear hfz63_1
            try clear hfz63_2
            try clear hfz63_3
            try clear hfz66_0
            try clear hfz66_1
            try clear hfz66_2
            try clear hfz66_3
            try clear hfz6_0
            try clear hfz6_1
            try clear hfz6_2
            try clear hfz6_3
            try clear hfz84_0
            try clear hfz84_1
            try clear hfz84_2
            try clear hfz84_3
            try clear hfz92_0
            try clear hfz92_1
            try clear hfz92_2
            try clear hfz92_3
            try clear hfz95_0
            try clear hfz95_1
            try clear hfz95_2
            try clear hfz95_3
            try clear p2
            obtain ⟨kq, x92_111, rfl, HA, HJ111, HO_361000, HO_361001, HO_361002, HO_361003, BK360, HB⟩ := hcut
            have hl361000_111 := (Kd.R_reads' HO_361000.out).1
            rw [hl361000_111] at HO_361000
            (try simp only [hl361000_111])
            (try simp only [hl361000_111] at BK360)
            (try simp only [hl361000_111] at HO_361001)
            (try simp only [hl361000_111] at HO_361002)
            (try simp only [hl361000_111] at HO_361003)
            have hl361001_111 := (Kd.R_reads' HO_361001.out).1
            rw [hl361001_111] at HO_361001
            (try simp only [hl361001_111])
            (try simp only [hl361001_111] at BK360)
            (try simp only [hl361001_111] at HO_361000)
            (try simp only [hl361001_111] at HO_361002)
            (try simp only [hl361001_111] at HO_361003)
            have hl361002_111 := (Kd.R_reads' HO_361002.out).1
            rw [hl361002_111] at HO_361002
            (try simp only [hl361002_111])
            (try simp only [hl361002_111] at BK360)
            (try simp only [hl361002_111] at HO_361000)
            (try simp only [hl361002_111] at HO_361001)
            (try simp only [hl361002_111] at HO_361003)
            have hl361003_111 := (Kd.R_reads' HO_361003.out).1
            rw [hl361003_111] at HO_361003
            (try simp only [hl361003_111])
            (try simp only [hl361003_111] at BK360)
            (try simp only [hl361003_111] at HO_361000)
            (try simp only [hl361003_111] at HO_361001)
            (try simp only [hl361003_111] at HO_361002)
            cases kq with
            | zero => exact absurd HA.out (by simp [laws_FnExactShadeCell.j2])
            | succ kj111 =>
             have H := HA.out
             clear HA
             simp only [laws_FnExactShadeCell.j2] at H
             by_cases c154 : x92_111 = true
             ·subst c154
              have H1 : (none) = some r := by rw [if_pos rfl] at H; exact H
              clear H
              have H := H1
              clear H1
              exact absurd H (by simp)
             ·replace c154 := Bool.eq_false_iff.mpr c154
              subst c154
              have H1 : ((laws_heldColored.f kj111 t382 t383 t384 t385 1).bind fun t414 => (if t414 < 0 then (none) else (if t414 = t381 then (some true) else (none)))) = some r := by rw [if_neg (show ¬ (false = true) by decide)] at H; exact H
              clear H
              have H := H1
              clear H1
              replace H := Option.bind_eq_some_iff.mp H
              obtain ⟨t414, A1550, H⟩ := H
              replace H : (if t414 < 0 then (none) else (if t414 = t381 then (some true) else (none))) = some r := H
              have A155 := am A1550
              clear A1550
              by_cases c156 : t414 < 0
              ·rw [if_pos c156] at H
               exact absurd H (by simp)
              ·rw [if_neg c156] at H
               have c156b0 : decide (t414 < 0) = false := decide_eq_false c156
               clear c156
               by_cases c157 : t414 = t381
               ·rw [if_pos c157] at H
                have c157b0 : (t414 == t381) = true := beq_iff_eq.mpr c157
                have c157b1 : (t414 != t381) = false := bne_eq_false_iff_eq.mpr c157
                clear c157
                obtain rfl := Option.some.inj H
                have hcz158_0 : wc.cell? ⟨gb360, 0, none⟩ = some (.slice Ao42 t382.length co42) := (blk_cell BK360.out 0).trans rfl
                have hcz158_1 : wc.cell? ⟨gb360, 1, none⟩ = some (.slice Ao47 t383.length co47) := (blk_cell BK360.out 1).trans rfl
                have hcz158_2 : wc.cell? ⟨gb360, 2, none⟩ = some (.slice Ao48 t384.length co48) := (blk_cell BK360.out 2).trans rfl
                have hcz158_3 : wc.cell? ⟨gb360, 3, none⟩ = some (.slice Ao49 t385.length co49) := (blk_cell BK360.out 3).trans rfl
                have hfz158_0 := blk_frozen BK360.out 0
                have hfz158_1 := blk_frozen BK360.out 1
                have hfz158_2 := blk_frozen BK360.out 2
                have hfz158_3 := blk_frozen BK360.out 3
                go_wp2_with (first | ((with_reducible refine gate_callee (f := 23) rfl ?_); refine goesL_ (some 95) rfl rfl Try.func23 (by kernel_rfl) rfl #[.agg #[.slice Ao42 t382.length co42, .slice Ao47 t383.length co47, .slice Ao48 t384.length co48, .slice Ao49 t385.length co49], .int .i64 1] rfl (by (try simp only [List.map_toArray, List.map_cons, List.map_nil]); first | done | rfl | (simp only [List.length_drop, List.length_take]; rfl)) ?_; (with_reducible refine (laws_heldColored.calls kj111 _ _ t382 _ _ t383 _ _ t384 _ _ t385 1 t414 _ ?side1 ?side2 ?side3 ?side4 ?side5 ?side6 ?side7 ?side8 A155.out).mono ?_); (case side1 => exact cl ((Kd.R_reads' HO_361000.out).2.2)); (case side2 => exact (Kd.R_reads' HO_361000.out).2.1); (case side3 => exact cl ((Kd.R_reads' HO_361001.out).2.2)); (case side4 => exact (Kd.R_reads' HO_361001.out).2.1); (case side5 => exact cl ((Kd.R_reads' HO_361002.out).2.2)); (case side6 => exact (Kd.R_reads' HO_361002.out).2.1); (case side7 => exact cl ((Kd.R_reads' HO_361003.out).2.2)); (case side8 => exact (Kd.R_reads' HO_361003.out).2.1); rintro e w159 ⟨rfl, hb⟩; refine ⟨_, rfl, ?_⟩; replace HO_361000 := am (Kd.R_below (rl HO_361000.out) hb); replace HO_361001 := am (Kd.R_below (rl HO_361001.out) hb); replace HO_361002 := am (Kd.R_below (rl HO_361002.out) hb); replace HO_361003 := am (Kd.R_below (rl HO_361003.out) hb); replace BK360 := am (blk_below (g := gb360) (o := .cells #[.slice Ao42 t382.length co42, .slice Ao47 t383.length co47, .slice Ao48 t384.length co48, .slice Ao49 t385.length co49] 30 (0, 0)) (kl BK360.out) hb); replace HB := am (below_step (bs1 GE360.out HB.out) hb); (try clear hb); (try clear hb2); (try clear hk); (try clear hi)))
                go_ret
                exact ⟨by first | rfl | (simp [errW_none, errW_some] <;> rfl) | (simp [*, errW_none, errW_some] <;> rfl), by exact bs1 GE360.out HB.out⟩
               ·rw [if_neg c157] at H
                exact absurd H (by simp)
          ·rw [if_neg c109] at H
           exact absurd H (by simp)
     ·replace c71 := Bool.eq_false_iff.mpr c71
      subst c71
      have H1 : (none) = some r := by rw [if_neg (show ¬ (false = true) by decide)] at H; exact H
      clear H
      have H := H1
      clear H1
      exact absurd H (by simp)

end Go.Proofs.Ytkbaggfkidalfaa.A
