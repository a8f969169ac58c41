/- Contracts of functions of the given program (CLawsFnExactShadeRoots). No conditions beyond those stated. -/
import Derived.Test.YtkbaggfkidalfaaA0
import Derived.Test.YtkbaggfkidalfaaAImplShadeRoots
import Derived.Test.YtkbaggfkidalfaaALawsEqColored
import Derived.Test.YtkbaggfkidalfaaALawsHeldColored
import Derived.Test.YtkbaggfkidalfaaALawsMarkColored
import Derived.Test.YtkbaggfkidalfaaALawsSzColored
import Derived.Test.YtkbaggfkidalfaaALawsToColored
import Derived.Test.YtkbaggfkidalfaaASpecShadeRoots
import Derived.Test.YtkbaggfkidalfaaA0
namespace Go.Proofs.Ytkbaggfkidalfaa.A
open Go.RowKit Go.Proofs.YtkbaggfkidalfaaW.PrintWords Go.Proofs.YtkbaggfkidalfaaW.PrintLast Go.Proofs.YtkbaggfkidalfaaW.PrintMore
attribute [local go_sem] max2_int min2_int max_two min_two max_three min_three max_four min_four   -- for this text's walks alone
set_option linter.unusedVariables false
set_option linter.unusedSimpArgs false

/-! ### laws_FnExactShadeRoots -/
mutual
def laws_FnExactShadeRoots.j0 : Nat → Bool → Bool → Bool → List Int → List Int → List Int → List Int → List Int → List Int → List Int → List Int → List Int → List Int → List Int → List Int → List Int → List Int → List Int → List Int → Option (Bool)
 | 0, _, _, _, _, _, _, _, _, _, _, _, _, _, _, _, _, _, _, _ => none
 | k + 1, x5, x8, x40, x453000, x453001, x453002, x453003, x480000, x480001, x480002, x480003, x493000, x493001, x493002, x493003, x507000, x507001, x507002, x507003 => if x40 = true then (none) else ((laws_toColored.f k x453000 x453001 x453002 x453003).bind fun bt508 => ((laws_eqColored.f k x493000 x493001 x493002 x493003 bt508.1 bt508.2.1 bt508.2.2.1 bt508.2.2.2).bind fun t520 => (if t520 = true then ((laws_markColored.f k x493000 x493001 x493002 x493003 1).bind fun bt521 => (if bt521.1 < 0 then (laws_FnExactShadeRoots.j1 k x5 true x453000 x453001 x453002 x453003 x480000 x480001 x480002 x480003 x507000 x507001 x507002 x507003) else ((laws_eqColored.f k x507000 x507001 x507002 x507003 x480000 x480001 x480002 x480003).bind fun t526 => (if t526 = true then (laws_FnExactShadeRoots.j1 k x5 (x8 != x5) x453000 x453001 x453002 x453003 x480000 x480001 x480002 x480003 x507000 x507001 x507002 x507003) else (laws_FnExactShadeRoots.j1 k x5 true x453000 x453001 x453002 x453003 x480000 x480001 x480002 x480003 x507000 x507001 x507002 x507003))))) else (none))))
def laws_FnExactShadeRoots.j1 : Nat → Bool → Bool → List Int → List Int → List Int → List Int → List Int → List Int → List Int → List Int → List Int → List Int → List Int → List Int → Option (Bool)
 | 0, _, _, _, _, _, _, _, _, _, _, _, _, _, _ => none
 | k + 1, x5, x61, x453000, x453001, x453002, x453003, x480000, x480001, x480002, x480003, x507000, x507001, x507002, x507003 => if x61 = true then (none) else ((laws_markColored.f k x507000 x507001 x507002 x507003 1).bind fun bt527 => ((laws_heldColored.f k bt527.2.1 bt527.2.2.1 bt527.2.2.2.1 bt527.2.2.2.2 1).bind fun t532 => (if t532 < 0 then (none) else (if t532 = bt527.1 then ((laws_toColored.f k x453000 x453001 x453002 x453003).bind fun bt533 => ((impl_ShadeRoots.f k bt533.1 bt533.2.1 bt533.2.2.1 bt533.2.2.2).bind fun bt545 => ((laws_eqColored.f k bt545.1 bt545.2.1 bt545.2.2.1 bt545.2.2.2.1 x480000 x480001 x480002 x480003).bind fun t559 => (if t559 = true then (laws_FnExactShadeRoots.j2 k bt527.1 (bt545.2.2.2.2 != x5) bt527.2.1 bt527.2.2.1 bt527.2.2.2.1 bt527.2.2.2.2) else (laws_FnExactShadeRoots.j2 k bt527.1 true bt527.2.1 bt527.2.2.1 bt527.2.2.2.1 bt527.2.2.2.2))))) else (none)))))
def laws_FnExactShadeRoots.j2 : Nat → Int → Bool → List Int → List Int → List Int → List Int → Option (Bool)
 | 0, _, _, _, _, _, _ => none
 | k + 1, x10, x87, x507000, x507001, x507002, x507003 => if x87 = true then (none) else ((laws_heldColored.f k x507000 x507001 x507002 x507003 1).bind fun t560 => (if t560 < 0 then (none) else (if t560 = x10 then (some true) else (none))))
end
def laws_FnExactShadeRoots.f (k : Nat) (l0_0 : List Int) (l0_1 : List Int) (l0_2 : List Int) (l0_3 : List Int) : Option (Bool) := (laws_szColored.f l0_0 l0_1 l0_2 l0_3 1048576).bind fun t453 => (if t453 < 0 then (some true) else ((laws_toColored.f k l0_0 l0_1 l0_2 l0_3).bind fun bt454 => ((spec_ShadeRoots.f k bt454.1 bt454.2.1 bt454.2.2.1 bt454.2.2.2).bind fun bt466 => ((laws_toColored.f k l0_0 l0_1 l0_2 l0_3).bind fun bt480 => ((impl_ShadeRoots.f k bt480.1 bt480.2.1 bt480.2.2.1 bt480.2.2.2).bind fun bt493 => ((laws_eqColored.f k bt493.1 bt493.2.1 bt493.2.2.1 bt493.2.2.2.1 bt466.1 bt466.2.1 bt466.2.2.1 bt466.2.2.2.1).bind fun t507 => (if t507 = true then (laws_FnExactShadeRoots.j0 k bt466.2.2.2.2 bt493.2.2.2.2 (bt493.2.2.2.2 != bt466.2.2.2.2) l0_0 l0_1 l0_2 l0_3 bt466.1 bt466.2.1 bt466.2.2.1 bt466.2.2.2.1 bt480.1 bt480.2.1 bt480.2.2.1 bt480.2.2.2 bt493.1 bt493.2.1 bt493.2.2.1 bt493.2.2.2.1) else (laws_FnExactShadeRoots.j0 k bt466.2.2.2.2 bt493.2.2.2.2 true l0_0 l0_1 l0_2 l0_3 bt466.1 bt466.2.1 bt466.2.2.1 bt466.2.2.2.1 bt480.1 bt480.2.1 bt480.2.2.1 bt480.2.2.2 bt493.1 bt493.2.1 bt493.2.2.1 bt493.2.2.2.1))))))))
theorem laws_FnExactShadeRoots.mono_l : ∀ k, (∀ y0 y1 y2 y3 y4 y5 y6 y7 y8 y9 y10 y11 y12 y13 y14 y15 y16 y17 y18, LeO (laws_FnExactShadeRoots.j0 k y0 y1 y2 y3 y4 y5 y6 y7 y8 y9 y10 y11 y12 y13 y14 y15 y16 y17 y18) (laws_FnExactShadeRoots.j0 (k + 1) y0 y1 y2 y3 y4 y5 y6 y7 y8 y9 y10 y11 y12 y13 y14 y15 y16 y17 y18)) ∧ (∀ y0 y1 y2 y3 y4 y5 y6 y7 y8 y9 y10 y11 y12 y13, LeO (laws_FnExactShadeRoots.j1 k y0 y1 y2 y3 y4 y5 y6 y7 y8 y9 y10 y11 y12 y13) (laws_FnExactShadeRoots.j1 (k + 1) y0 y1 y2 y3 y4 y5 y6 y7 y8 y9 y10 y11 y12 y13)) ∧ (∀ y0 y1 y2 y3 y4 y5, LeO (laws_FnExactShadeRoots.j2 k y0 y1 y2 y3 y4 y5) (laws_FnExactShadeRoots.j2 (k + 1) y0 y1 y2 y3 y4 y5))
 | 0 => ⟨fun _ _ _ _ _ _ _ _ _ _ _ _ _ _ _ _ _ _ _ r h => by simp [laws_FnExactShadeRoots.j0] at h, fun _ _ _ _ _ _ _ _ _ _ _ _ _ _ r h => by simp [laws_FnExactShadeRoots.j1] at h, fun _ _ _ _ _ _ r h => by simp [laws_FnExactShadeRoots.j2] at h⟩
 | k + 1 => by
  obtain ⟨ih0, ih1, ih2⟩ := laws_FnExactShadeRoots.mono_l k
  refine ⟨?_, ?_, ?_⟩
  ·intro y0 y1 y2 y3 y4 y5 y6 y7 y8 y9 y10 y11 y12 y13 y14 y15 y16 y17 y18
   unfold laws_FnExactShadeRoots.j0
   repeat' first
   | (with_reducible exact ih0 _ _ _ _ _ _ _ _ _ _ _ _ _ _ _ _ _ _ _)
   | (with_reducible exact ih1 _ _ _ _ _ _ _ _ _ _ _ _ _ _)
   | (with_reducible exact ih2 _ _ _ _ _ _)
   | (with_reducible exact impl_ShadeRoots.mono _ _ _ _ _)
   | (with_reducible exact laws_eqColored.mono _ _ _ _ _ _ _ _ _)
   | (with_reducible exact laws_heldColored.mono _ _ _ _ _ _)
   | (with_reducible exact laws_markColored.mono _ _ _ _ _ _)
   | (with_reducible exact laws_toColored.mono _ _ _ _ _)
   | (with_reducible exact spec_ShadeRoots.mono _ _ _ _ _)
   | (with_reducible exact LeO.refl _)
   | (with_reducible exact LeO.none _)
   | (with_reducible refine LeO.ite ?_ ?_)
   | (with_reducible refine LeO.bind ?_ (fun _ => ?_))
   | exact ih0 _ _ _ _ _ _ _ _ _ _ _ _ _ _ _ _ _ _ _
   | exact ih1 _ _ _ _ _ _ _ _ _ _ _ _ _ _
   | exact ih2 _ _ _ _ _ _
   | exact impl_ShadeRoots.mono _ _ _ _ _
   | exact laws_eqColored.mono _ _ _ _ _ _ _ _ _
   | exact laws_heldColored.mono _ _ _ _ _ _
   | exact laws_markColored.mono _ _ _ _ _ _
   | exact laws_toColored.mono _ _ _ _ _
   | exact spec_ShadeRoots.mono _ _ _ _ _
   | exact LeO.none _
   | refine LeO.ite ?_ ?_
   | refine LeO.bind ?_ (fun _ => ?_)
  ·intro y0 y1 y2 y3 y4 y5 y6 y7 y8 y9 y10 y11 y12 y13
   unfold laws_FnExactShadeRoots.j1
   repeat' first
   | (with_reducible exact ih0 _ _ _ _ _ _ _ _ _ _ _ _ _ _ _ _ _ _ _)
   | (with_reducible exact ih1 _ _ _ _ _ _ _ _ _ _ _ _ _ _)
   | (with_reducible exact ih2 _ _ _ _ _ _)
   | (with_reducible exact impl_ShadeRoots.mono _ _ _ _ _)
   | (with_reducible exact laws_eqColored.mono _ _ _ _ _ _ _ _ _)
   | (with_reducible exact laws_heldColored.mono _ _ _ _ _ _)
   | (with_reducible exact laws_markColored.mono _ _ _ _ _ _)
   | (with_reducible exact laws_toColored.mono _ _ _ _ _)
   | (with_reducible exact spec_ShadeRoots.mono _ _ _ _ _)
   | (with_reducible exact LeO.refl _)
   | (with_reducible exact LeO.none _)
   | (with_reducible refine LeO.ite ?_ ?_)
   | (with_reducible refine LeO.bind ?_ (fun _ => ?_))
   | exact ih0 _ _ _ _ _ _ _ _ _ _ _ _ _ _ _ _ _ _ _
   | exact ih1 _ _ _ _ _ _ _ _ _ _ _ _ _ _
   | exact ih2 _ _ _ _ _ _
   | exact impl_ShadeRoots.mono _ _ _ _ _
   | exact laws_eqColored.mono _ _ _ _ _ _ _ _ _
   | exact laws_heldColored.mono _ _ _ _ _ _
   | exact laws_markColored.mono _ _ _ _ _ _
   | exact laws_toColored.mono _ _ _ _ _
   | exact spec_ShadeRoots.mono _ _ _ _ _
   | exact LeO.none _
   | refine LeO.ite ?_ ?_
   | refine LeO.bind ?_ (fun _ => ?_)
  ·intro y0 y1 y2 y3 y4 y5
   unfold laws_FnExactShadeRoots.j2
   repeat' first
   | (with_reducible exact ih0 _ _ _ _ _ _ _ _ _ _ _ _ _ _ _ _ _ _ _)
   | (with_reducible exact ih1 _ _ _ _ _ _ _ _ _ _ _ _ _ _)
   | (with_reducible exact ih2 _ _ _ _ _ _)
   | (with_reducible exact impl_ShadeRoots.mono _ _ _ _ _)
   | (with_reducible exact laws_eqColored.mono _ _ _ _ _ _ _ _ _)
   | (with_reducible exact laws_heldColored.mono _ _ _ _ _ _)
   | (with_reducible exact laws_markColored.mono _ _ _ _ _ _)
   | (with_reducible exact laws_toColored.mono _ _ _ _ _)
   | (with_reducible exact spec_ShadeRoots.mono _ _ _ _ _)
   | (with_reducible exact LeO.refl _)
   | (with_reducible exact LeO.none _)
   | (with_reducible refine LeO.ite ?_ ?_)
   | (with_reducible refine LeO.bind ?_ (fun _ => ?_))
   | exact ih0 _ _ _ _ _ _ _ _ _ _ _ _ _ _ _ _ _ _ _
   | exact ih1 _ _ _ _ _ _ _ _ _ _ _ _ _ _
   | exact ih2 _ _ _ _ _ _
   | exact impl_ShadeRoots.mono _ _ _ _ _
   | exact laws_eqColored.mono _ _ _ _ _ _ _ _ _
   | exact laws_heldColored.mono _ _ _ _ _ _
   | exact laws_markColored.mono _ _ _ _ _ _
   | exact laws_toColored.mono _ _ _ _ _
   | exact spec_ShadeRoots.mono _ _ _ _ _
   | exact LeO.none _
   | refine LeO.ite ?_ ?_
   | refine LeO.bind ?_ (fun _ => ?_)
theorem laws_FnExactShadeRoots.mono : ∀ a0 a1 a2 a3 k, LeO (laws_FnExactShadeRoots.f k a0 a1 a2 a3) (laws_FnExactShadeRoots.f (k + 1) a0 a1 a2 a3) := by
 intro a0 a1 a2 a3 k
 obtain ⟨ih0, ih1, ih2⟩ := laws_FnExactShadeRoots.mono_l k
 unfold laws_FnExactShadeRoots.f
 repeat' first
   | (with_reducible exact ih0 _ _ _ _ _ _ _ _ _ _ _ _ _ _ _ _ _ _ _)
   | (with_reducible exact ih1 _ _ _ _ _ _ _ _ _ _ _ _ _ _)
   | (with_reducible exact ih2 _ _ _ _ _ _)
   | (with_reducible exact impl_ShadeRoots.mono _ _ _ _ _)
   | (with_reducible exact laws_eqColored.mono _ _ _ _ _ _ _ _ _)
   | (with_reducible exact laws_heldColored.mono _ _ _ _ _ _)
   | (with_reducible exact laws_markColored.mono _ _ _ _ _ _)
   | (with_reducible exact laws_toColored.mono _ _ _ _ _)
   | (with_reducible exact spec_ShadeRoots.mono _ _ _ _ _)
   | (with_reducible exact LeO.refl _)
   | (with_reducible exact LeO.none _)
   | (with_reducible refine LeO.ite ?_ ?_)
   | (with_reducible refine LeO.bind ?_ (fun _ => ?_))
   | exact ih0 _ _ _ _ _ _ _ _ _ _ _ _ _ _ _ _ _ _ _
   | exact ih1 _ _ _ _ _ _ _ _ _ _ _ _ _ _
   | exact ih2 _ _ _ _ _ _
   | exact impl_ShadeRoots.mono _ _ _ _ _
   | exact laws_eqColored.mono _ _ _ _ _ _ _ _ _
   | exact laws_heldColored.mono _ _ _ _ _ _
   | exact laws_markColored.mono _ _ _ _ _ _
   | exact laws_toColored.mono _ _ _ _ _
   | exact spec_ShadeRoots.mono _ _ _ _ _
   | exact LeO.none _
   | refine LeO.ite ?_ ?_
   | refine LeO.bind ?_ (fun _ => ?_)
set_option maxHeartbeats 8000000 in
set_option maxRecDepth 100000 in
theorem laws_FnExactShadeRoots.calls (k : Nat) (A0_0 : Option Addr) (c0_0 : Nat) (l0_0 : List Int) (A0_1 : Option Addr) (c0_1 : Nat) (l0_1 : List Int) (A0_2 : Option Addr) (c0_2 : Nat) (l0_2 : List Int) (A0_3 : Option Addr) (c0_3 : Nat) (l0_3 : List Int) (r : Bool) (w : World) (hr0_0 : Kd.C (Kd.int .i64) w A0_0 l0_0.length l0_0) (hc0_0 : l0_0.length ≤ c0_0) (hr0_1 : Kd.C (Kd.int .i64) w A0_1 l0_1.length l0_1) (hc0_1 : l0_1.length ≤ c0_1) (hr0_2 : Kd.C (Kd.int .i64) w A0_2 l0_2.length l0_2) (hc0_2 : l0_2.length ≤ c0_2) (hr0_3 : Kd.C (Kd.int .i64) w A0_3 l0_3.length l0_3) (hc0_3 : l0_3.length ≤ c0_3) (h : laws_FnExactShadeRoots.f k l0_0 l0_1 l0_2 l0_3 = some r) :
  Calls Try.prog 4 #[.agg #[.slice A0_0 l0_0.length c0_0, .slice A0_1 l0_1.length c0_1, .slice A0_2 l0_2.length c0_2, .slice A0_3 l0_3.length c0_3]] w fun e w' => e = .returned (.bool r) ∧ Below w.heap.size w w' := by
 have hu26 := Try.underlying26
 have hu30 := Try.underlying30
 have HR0_0 := am hr0_0
 have HC0_0 := am hc0_0
 clear hr0_0 hc0_0
 have HR0_1 := am hr0_1
 have HC0_1 := am hc0_1
 clear hr0_1 hc0_1
 have HR0_2 := am hr0_2
 have HC0_2 := am hc0_2
 clear hr0_2 hc0_2
 have HR0_3 := am hr0_3
 have HC0_3 := am hc0_3
 clear hr0_3 hc0_3
 have HB := am (Below.refl w.heap.size w)
 have H : ((laws_szColored.f l0_0 l0_1 l0_2 l0_3 1048576).bind fun t453 => (if t453 < 0 then (some true) else ((laws_toColored.f k l0_0 l0_1 l0_2 l0_3).bind fun bt454 => ((spec_ShadeRoots.f k bt454.1 bt454.2.1 bt454.2.2.1 bt454.2.2.2).bind fun bt466 => ((laws_toColored.f k l0_0 l0_1 l0_2 l0_3).bind fun bt480 => ((impl_ShadeRoots.f k bt480.1 bt480.2.1 bt480.2.2.1 bt480.2.2.2).bind fun bt493 => ((laws_eqColored.f k bt493.1 bt493.2.1 bt493.2.2.1 bt493.2.2.2.1 bt466.1 bt466.2.1 bt466.2.2.1 bt466.2.2.2.1).bind fun t507 => (if t507 = true then (laws_FnExactShadeRoots.j0 k bt466.2.2.2.2 bt493.2.2.2.2 (bt493.2.2.2.2 != bt466.2.2.2.2) l0_0 l0_1 l0_2 l0_3 bt466.1 bt466.2.1 bt466.2.2.1 bt466.2.2.2.1 bt480.1 bt480.2.1 bt480.2.2.1 bt480.2.2.2 bt493.1 bt493.2.1 bt493.2.2.1 bt493.2.2.2.1) else (laws_FnExactShadeRoots.j0 k bt466.2.2.2.2 bt493.2.2.2.2 true l0_0 l0_1 l0_2 l0_3 bt466.1 bt466.2.1 bt466.2.2.1 bt466.2.2.2.1 bt480.1 bt480.2.1 bt480.2.2.1 bt480.2.2.2 bt493.1 bt493.2.1 bt493.2.2.1 bt493.2.2.2.1))))))))) = some r := h
 clear h
 replace H := Option.bind_eq_some_iff.mp H
 obtain ⟨t453, A20, H⟩ := H
 replace H : (if t453 < 0 then (some true) else ((laws_toColored.f k l0_0 l0_1 l0_2 l0_3).bind fun bt454 => ((spec_ShadeRoots.f k bt454.1 bt454.2.1 bt454.2.2.1 bt454.2.2.2).bind fun bt466 => ((laws_toColored.f k l0_0 l0_1 l0_2 l0_3).bind fun bt480 => ((impl_ShadeRoots.f k bt480.1 bt480.2.1 bt480.2.2.1 bt480.2.2.2).bind fun bt493 => ((laws_eqColored.f k bt493.1 bt493.2.1 bt493.2.2.1 bt493.2.2.2.1 bt466.1 bt466.2.1 bt466.2.2.1 bt466.2.2.2.1).bind fun t507 => (if t507 = true then (laws_FnExactShadeRoots.j0 k bt466.2.2.2.2 bt493.2.2.2.2 (bt493.2.2.2.2 != bt466.2.2.2.2) l0_0 l0_1 l0_2 l0_3 bt466.1 bt466.2.1 bt466.2.2.1 bt466.2.2.2.1 bt480.1 bt480.2.1 bt480.2.2.1 bt480.2.2.2 bt493.1 bt493.2.1 bt493.2.2.1 bt493.2.2.2.1) else (laws_FnExactShadeRoots.j0 k bt466.2.2.2.2 bt493.2.2.2.2 true l0_0 l0_1 l0_2 l0_3 bt466.1 bt466.2.1 bt466.2.2.1 bt466.2.2.2.1 bt480.1 bt480.2.1 bt480.2.2.1 bt480.2.2.2 bt493.1 bt493.2.1 bt493.2.2.1 bt493.2.2.2.1)))))))) = some r := H
 have A2 := am A20
 clear A20
 by_cases c3 : t453 < 0
 ·rw [if_pos c3] at H
  have c3b0 : decide (t453 < 0) = true := decide_eq_true c3
  clear c3
  obtain rfl := Option.some.inj H
  go_enter Try.func4, Try.ntmps4
  go_wp2_with (first | ((with_reducible refine gate_dst (N := 1) rfl ?_); refine box_event ?hg (N := 1) ?hd (cs := #[.slice A0_0 l0_0.length c0_0, .slice A0_1 l0_1.length c0_1, .slice A0_2 l0_2.length c0_2, .slice A0_3 l0_3.length c0_3]) (t := 26) ?hr ?_; (case hd => rfl); (case hg => rfl); (case hr => first | (go_simp; done) | (go_simp; rfl)); intro gb452 hg w4 hbox hb; have BK452 := am (hbox); have GW452 := am ((by rw [hg]; exact (below_size (bl HB.out)) : w.heap.size ≤ gb452)); have GE452 := am ((by rw [hg]; exact (below_size (bl HB.out)) : w.heap.size ≤ gb452)); replace HB := am (below_step (bl HB.out) hb); clear hb hbox hg; have hcz5_0 : w4.cell? ⟨gb452, 0, none⟩ = some (.slice A0_0 l0_0.length c0_0) := (blk_cell BK452.out 0).trans rfl; have hcz5_1 : w4.cell? ⟨gb452, 1, none⟩ = some (.slice A0_1 l0_1.length c0_1) := (blk_cell BK452.out 1).trans rfl; have hcz5_2 : w4.cell? ⟨gb452, 2, none⟩ = some (.slice A0_2 l0_2.length c0_2) := (blk_cell BK452.out 2).trans rfl; have hcz5_3 : w4.cell? ⟨gb452, 3, none⟩ = some (.slice A0_3 l0_3.length c0_3) := (blk_cell BK452.out 3).trans rfl; have hfz5_0 := blk_frozen BK452.out 0; have hfz5_1 := blk_frozen BK452.out 1; have hfz5_2 := blk_frozen BK452.out 2; have hfz5_3 := blk_frozen BK452.out 3) | ((with_reducible refine gate_callee (f := 17) rfl ?_); refine goesL_ (some 16) rfl rfl Try.func17 (by kernel_rfl) rfl #[.agg #[.slice A0_0 l0_0.length c0_0, .slice A0_1 l0_1.length c0_1, .slice A0_2 l0_2.length c0_2, .slice A0_3 l0_3.length c0_3], .int .i64 1048576] rfl (by (try simp only [List.map_toArray, List.map_cons, List.map_nil]); first | done | rfl | (simp only [List.length_drop, List.length_take]; rfl)) ?_; (with_reducible refine (laws_szColored.calls _ _ l0_0 _ _ l0_1 _ _ l0_2 _ _ l0_3 1048576 t453 _ ?side1 ?side2 ?side3 ?side4 ?side5 ?side6 ?side7 ?side8 A2.out).mono ?_); (case side1 => exact cl (Kd.C_below HR0_0.out HB.out)); (case side2 => exact HC0_0.out); (case side3 => exact cl (Kd.C_below HR0_1.out HB.out)); (case side4 => exact HC0_1.out); (case side5 => exact cl (Kd.C_below HR0_2.out HB.out)); (case side6 => exact HC0_2.out); (case side7 => exact cl (Kd.C_below HR0_3.out HB.out)); (case side8 => exact HC0_3.out); rintro e w6 ⟨rfl, hb⟩; refine ⟨_, rfl, ?_⟩; replace BK452 := am (blk_below (g := gb452) (o := .cells #[.slice A0_0 l0_0.length c0_0, .slice A0_1 l0_1.length c0_1, .slice A0_2 l0_2.length c0_2, .slice A0_3 l0_3.length c0_3] 26 (0, 0)) (kl BK452.out) hb); replace HB := am (below_step (bs1 GE452.out HB.out) hb); (try clear hb); (try clear hb2); (try clear hk); (try clear hi)))
  go_ret
  exact ⟨by first | rfl | (simp [errW_none, errW_some] <;> rfl) | (simp [*, errW_none, errW_some] <;> rfl), by exact bs1 GE452.out HB.out⟩
 ·rw [if_neg c3] at H
  have c3b0 : decide (t453 < 0) = false := decide_eq_false c3
  clear c3
  replace H := Option.bind_eq_some_iff.mp H
  obtain ⟨⟨t454, t457, t460, t463⟩, A70, H⟩ := H
  replace H : ((spec_ShadeRoots.f k t454 t457 t460 t463).bind fun bt466 => ((laws_toColored.f k l0_0 l0_1 l0_2 l0_3).bind fun bt480 => ((impl_ShadeRoots.f k bt480.1 bt480.2.1 bt480.2.2.1 bt480.2.2.2).bind fun bt493 => ((laws_eqColored.f k bt493.1 bt493.2.1 bt493.2.2.1 bt493.2.2.2.1 bt466.1 bt466.2.1 bt466.2.2.1 bt466.2.2.2.1).bind fun t507 => (if t507 = true then (laws_FnExactShadeRoots.j0 k bt466.2.2.2.2 bt493.2.2.2.2 (bt493.2.2.2.2 != bt466.2.2.2.2) l0_0 l0_1 l0_2 l0_3 bt466.1 bt466.2.1 bt466.2.2.1 bt466.2.2.2.1 bt480.1 bt480.2.1 bt480.2.2.1 bt480.2.2.2 bt493.1 bt493.2.1 bt493.2.2.1 bt493.2.2.2.1) else (laws_FnExactShadeRoots.j0 k bt466.2.2.2.2 bt493.2.2.2.2 true l0_0 l0_1 l0_2 l0_3 bt466.1 bt466.2.1 bt466.2.2.1 bt466.2.2.2.1 bt480.1 bt480.2.1 bt480.2.2.1 bt480.2.2.2 bt493.1 bt493.2.1 bt493.2.2.1 bt493.2.2.2.1)))))) = some r := H
  have A7 := am A70
  clear A70
  replace H := Option.bind_eq_some_iff.mp H
  obtain ⟨⟨t466, t469, t472, t475, t478⟩, A80, H⟩ := H
  replace H : ((laws_toColored.f k l0_0 l0_1 l0_2 l0_3).bind fun bt480 => ((impl_ShadeRoots.f k bt480.1 bt480.2.1 bt480.2.2.1 bt480.2.2.2).bind fun bt493 => ((laws_eqColored.f k bt493.1 bt493.2.1 bt493.2.2.1 bt493.2.2.2.1 t466 t469 t472 t475).bind fun t507 => (if t507 = true then (laws_FnExactShadeRoots.j0 k t478 bt493.2.2.2.2 (bt493.2.2.2.2 != t478) l0_0 l0_1 l0_2 l0_3 t466 t469 t472 t475 bt480.1 bt480.2.1 bt480.2.2.1 bt480.2.2.2 bt493.1 bt493.2.1 bt493.2.2.1 bt493.2.2.2.1) else (laws_FnExactShadeRoots.j0 k t478 bt493.2.2.2.2 true l0_0 l0_1 l0_2 l0_3 t466 t469 t472 t475 bt480.1 bt480.2.1 bt480.2.2.1 bt480.2.2.2 bt493.1 bt493.2.1 bt493.2.2.1 bt493.2.2.2.1))))) = some r := H
  have A8 := am A80
  clear A80
  replace H := Option.bind_eq_some_iff.mp H
  obtain ⟨⟨t480, t483, t486, t489⟩, A90, H⟩ := H
  replace H : ((impl_ShadeRoots.f k t480 t483 t486 t489).bind fun bt493 => ((laws_eqColored.f k bt493.1 bt493.2.1 bt493.2.2.1 bt493.2.2.2.1 t466 t469 t472 t475).bind fun t507 => (if t507 = true then (laws_FnExactShadeRoots.j0 k t478 bt493.2.2.2.2 (bt493.2.2.2.2 != t478) l0_0 l0_1 l0_2 l0_3 t466 t469 t472 t475 t480 t483 t486 t489 bt493.1 bt493.2.1 bt493.2.2.1 bt493.2.2.2.1) else (laws_FnExactShadeRoots.j0 k t478 bt493.2.2.2.2 true l0_0 l0_1 l0_2 l0_3 t466 t469 t472 t475 t480 t483 t486 t489 bt493.1 bt493.2.1 bt493.2.2.1 bt493.2.2.2.1)))) = some r := H
  have A9 := am A90
  clear A90
  replace H := Option.bind_eq_some_iff.mp H
  obtain ⟨⟨t493, t496, t499, t502, t505⟩, A100, H⟩ := H
  replace H : ((laws_eqColored.f k t493 t496 t499 t502 t466 t469 t472 t475).bind fun t507 => (if t507 = true then (laws_FnExactShadeRoots.j0 k t478 t505 (t505 != t478) l0_0 l0_1 l0_2 l0_3 t466 t469 t472 t475 t480 t483 t486 t489 t493 t496 t499 t502) else (laws_FnExactShadeRoots.j0 k t478 t505 true l0_0 l0_1 l0_2 l0_3 t466 t469 t472 t475 t480 t483 t486 t489 t493 t496 t499 t502))) = some r := H
  have A10 := am A100
  clear A100
  have HC11 := am H
  clear H
  go_enter Try.func4, Try.ntmps4
  go_upto_region 8 with (first | ((with_reducible refine gate_dst (N := 1) rfl ?_); refine box_event ?hg (N := 1) ?hd (cs := #[.slice A0_0 l0_0.length c0_0, .slice A0_1 l0_1.length c0_1, .slice A0_2 l0_2.length c0_2, .slice A0_3 l0_3.length c0_3]) (t := 26) ?hr ?_; (case hd => rfl); (case hg => rfl); (case hr => first | (go_simp; done) | (go_simp; rfl)); intro gb452 hg w12 hbox hb; have BK452 := am (hbox); have GW452 := am ((by rw [hg]; exact (below_size (bl HB.out)) : w.heap.size ≤ gb452)); have GE452 := am ((by rw [hg]; exact (below_size (bl HB.out)) : w.heap.size ≤ gb452)); replace HB := am (below_step (bl HB.out) hb); clear hb hbox hg; have hcz13_0 : w12.cell? ⟨gb452, 0, none⟩ = some (.slice A0_0 l0_0.length c0_0) := (blk_cell BK452.out 0).trans rfl; have hcz13_1 : w12.cell? ⟨gb452, 1, none⟩ = some (.slice A0_1 l0_1.length c0_1) := (blk_cell BK452.out 1).trans rfl; have hcz13_2 : w12.cell? ⟨gb452, 2, none⟩ = some (.slice A0_2 l0_2.length c0_2) := (blk_cell BK452.out 2).trans rfl; have hcz13_3 : w12.cell? ⟨gb452, 3, none⟩ = some (.slice A0_3 l0_3.length c0_3) := (blk_cell BK452.out 3).trans rfl; have hfz13_0 := blk_frozen BK452.out 0; have hfz13_1 := blk_frozen BK452.out 1; have hfz13_2 := blk_frozen BK452.out 2; have hfz13_3 := blk_frozen BK452.out 3) | ((with_reducible refine gate_callee (f := 17) rfl ?_); refine goesL_ (some 16) rfl rfl Try.func17 (by kernel_rfl) rfl #[.agg #[.slice A0_0 l0_0.length c0_0, .slice A0_1 l0_1.length c0_1, .slice A0_2 l0_2.length c0_2, .slice A0_3 l0_3.length c0_3], .int .i64 1048576] rfl (by (try simp only [List.map_toArray, List.map_cons, List.map_nil]); first | done | rfl | (simp only [List.length_drop, List.length_take]; rfl)) ?_; (with_reducible refine (laws_szColored.calls _ _ l0_0 _ _ l0_1 _ _ l0_2 _ _ l0_3 1048576 t453 _ ?side1 ?side2 ?side3 ?side4 ?side5 ?side6 ?side7 ?side8 A2.out).mono ?_); (case side1 => exact cl (Kd.C_below HR0_0.out HB.out)); (case side2 => exact HC0_0.out); (case side3 => exact cl (Kd.C_below HR0_1.out HB.out)); (case side4 => exact HC0_1.out); (case side5 => exact cl (Kd.C_below HR0_2.out HB.out)); (case side6 => exact HC0_2.out); (case side7 => exact cl (Kd.C_below HR0_3.out HB.out)); (case side8 => exact HC0_3.out); rintro e w14 ⟨rfl, hb⟩; refine ⟨_, rfl, ?_⟩; replace BK452 := am (blk_below (g := gb452) (o := .cells #[.slice A0_0 l0_0.length c0_0, .slice A0_1 l0_1.length c0_1, .slice A0_2 l0_2.length c0_2, .slice A0_3 l0_3.length c0_3] 26 (0, 0)) (kl BK452.out) hb); replace HB := am (below_step (bs1 GE452.out HB.out) hb); (try clear hb); (try clear hb2); (try clear hk); (try clear hi); have hcz15_0 : w14.cell? ⟨gb452, 0, none⟩ = some (.slice A0_0 l0_0.length c0_0) := (blk_cell BK452.out 0).trans rfl; have hcz15_1 : w14.cell? ⟨gb452, 1, none⟩ = some (.slice A0_1 l0_1.length c0_1) := (blk_cell BK452.out 1).trans rfl; have hcz15_2 : w14.cell? ⟨gb452, 2, none⟩ = some (.slice A0_2 l0_2.length c0_2) := (blk_cell BK452.out 2).trans rfl; have hcz15_3 : w14.cell? ⟨gb452, 3, none⟩ = some (.slice A0_3 l0_3.length c0_3) := (blk_cell BK452.out 3).trans rfl; have hfz15_0 := blk_frozen BK452.out 0; have hfz15_1 := blk_frozen BK452.out 1; have hfz15_2 := blk_frozen BK452.out 2; have hfz15_3 := blk_frozen BK452.out 3) | ((with_reducible refine gate_callee (f := 19) rfl ?_); refine goesL_ (some 21) rfl rfl Try.func19 (by kernel_rfl) rfl #[.agg #[.slice A0_0 l0_0.length c0_0, .slice A0_1 l0_1.length c0_1, .slice A0_2 l0_2.length c0_2, .slice A0_3 l0_3.length c0_3]] rfl (by (try simp only [List.map_toArray, List.map_cons, List.map_nil]); first | done | rfl | (simp only [List.length_drop, List.length_take]; rfl)) ?_; (with_reducible refine (laws_toColored.calls k _ _ l0_0 _ _ l0_1 _ _ l0_2 _ _ l0_3 t454 t457 t460 t463 _ ?side1 ?side2 ?side3 ?side4 ?side5 ?side6 ?side7 ?side8 A7.out).mono ?_); (case side1 => exact cl (Kd.C_below HR0_0.out HB.out)); (case side2 => exact HC0_0.out); (case side3 => exact cl (Kd.C_below HR0_1.out HB.out)); (case side4 => exact HC0_1.out); (case side5 => exact cl (Kd.C_below HR0_2.out HB.out)); (case side6 => exact HC0_2.out); (case side7 => exact cl (Kd.C_below HR0_3.out HB.out)); (case side8 => exact HC0_3.out); rintro e w16 ⟨v455, v458, v461, v464, rfl, ho0, ho1, ho2, ho3, hb⟩; refine ⟨_, rfl, ?_⟩; have HO456 := am (Kd.R_lower ho0 (below_size (bs1 GE452.out HB.out))); have HO459 := am (Kd.R_lower ho1 (below_size (bs1 GE452.out HB.out))); have HO462 := am (Kd.R_lower ho2 (below_size (bs1 GE452.out HB.out))); have HO465 := am (Kd.R_lower ho3 (below_size (bs1 GE452.out HB.out))); replace BK452 := am (blk_below (g := gb452) (o := .cells #[.slice A0_0 l0_0.length c0_0, .slice A0_1 l0_1.length c0_1, .slice A0_2 l0_2.length c0_2, .slice A0_3 l0_3.length c0_3] 26 (0, 0)) (kl BK452.out) hb); replace HB := am (below_step (bs1 GE452.out HB.out) hb); (try clear hb); (try clear hb2); (try clear hk); (try clear hi); (try clear ho0); (try clear ho1); (try clear ho2); (try clear ho3); obtain ⟨Ao17, co17, eo17⟩ := Kd.R_slice HO456.out; subst eo17; obtain ⟨Ao18, co18, eo18⟩ := Kd.R_slice HO459.out; subst eo18; obtain ⟨Ao19, co19, eo19⟩ := Kd.R_slice HO462.out; subst eo19; obtain ⟨Ao20, co20, eo20⟩ := Kd.R_slice HO465.out; subst eo20) | ((with_reducible refine gate_callee (f := 24) rfl ?_); refine goesL_ (some 22) rfl rfl Try.func24 (by kernel_rfl) rfl #[.agg #[.slice Ao17 t454.length co17, .slice Ao18 t457.length co18, .slice Ao19 t460.length co19, .slice Ao20 t463.length co20]] rfl (by (try simp only [List.map_toArray, List.map_cons, List.map_nil]); first | done | rfl | (simp only [List.length_drop, List.length_take]; rfl)) ?_; (with_reducible refine (spec_ShadeRoots.calls k _ _ t454 _ _ t457 _ _ t460 _ _ t463 t466 t469 t472 t475 t478 _ ?side1 ?side2 ?side3 ?side4 ?side5 ?side6 ?side7 ?side8 A8.out).mono ?_); (case side1 => exact cl ((Kd.R_reads' HO456.out).2.2)); (case side2 => exact (Kd.R_reads' HO456.out).2.1); (case side3 => exact cl ((Kd.R_reads' HO459.out).2.2)); (case side4 => exact (Kd.R_reads' HO459.out).2.1); (case side5 => exact cl ((Kd.R_reads' HO462.out).2.2)); (case side6 => exact (Kd.R_reads' HO462.out).2.1); (case side7 => exact cl ((Kd.R_reads' HO465.out).2.2)); (case side8 => exact (Kd.R_reads' HO465.out).2.1); rintro e w21 ⟨v467, v470, v473, v476, rfl, ho0, ho1, ho2, ho3, hb⟩; refine ⟨_, rfl, ?_⟩; have HO468 := am (Kd.R_lower (Kd.R_new' (Kd.R_new' (Kd.R_new' (Kd.R_new' ho0 (Kd.R_lt (rl HO456.out))) (Kd.R_lt (rl HO459.out))) (Kd.R_lt (rl HO462.out))) (Kd.R_lt (rl HO465.out))) (below_size (bs1 GE452.out HB.out))); have HO471 := am (Kd.R_lower (Kd.R_new' (Kd.R_new' (Kd.R_new' (Kd.R_new' ho1 (Kd.R_lt (rl HO456.out))) (Kd.R_lt (rl HO459.out))) (Kd.R_lt (rl HO462.out))) (Kd.R_lt (rl HO465.out))) (below_size (bs1 GE452.out HB.out))); have HO474 := am (Kd.R_lower (Kd.R_new' (Kd.R_new' (Kd.R_new' (Kd.R_new' ho2 (Kd.R_lt (rl HO456.out))) (Kd.R_lt (rl HO459.out))) (Kd.R_lt (rl HO462.out))) (Kd.R_lt (rl HO465.out))) (below_size (bs1 GE452.out HB.out))); have HO477 := am (Kd.R_lower (Kd.R_new' (Kd.R_new' (Kd.R_new' (Kd.R_new' ho3 (Kd.R_lt (rl HO456.out))) (Kd.R_lt (rl HO459.out))) (Kd.R_lt (rl HO462.out))) (Kd.R_lt (rl HO465.out))) (below_size (bs1 GE452.out HB.out))); replace HO456 := am (Kd.R_mono (Kd.R_told (Kd.R_told (Kd.R_told (Kd.R_told (Kd.R_old (rl HO456.out) hb) (Kd.R_base ho0)) (Kd.R_base ho1)) (Kd.R_base ho2)) (Kd.R_base ho3)) (fun _ h_ => h_.1)); replace HO459 := am (Kd.R_mono (Kd.R_told (Kd.R_told (Kd.R_told (Kd.R_told (Kd.R_old (rl HO459.out) hb) (Kd.R_base ho0)) (Kd.R_base ho1)) (Kd.R_base ho2)) (Kd.R_base ho3)) (fun _ h_ => h_.1)); replace HO462 := am (Kd.R_mono (Kd.R_told (Kd.R_told (Kd.R_told (Kd.R_told (Kd.R_old (rl HO462.out) hb) (Kd.R_base ho0)) (Kd.R_base ho1)) (Kd.R_base ho2)) (Kd.R_base ho3)) (fun _ h_ => h_.1)); replace HO465 := am (Kd.R_mono (Kd.R_told (Kd.R_told (Kd.R_told (Kd.R_told (Kd.R_old (rl HO465.out) hb) (Kd.R_base ho0)) (Kd.R_base ho1)) (Kd.R_base ho2)) (Kd.R_base ho3)) (fun _ h_ => h_.1)); replace BK452 := am (blk_below (g := gb452) (o := .cells #[.slice A0_0 l0_0.length c0_0, .slice A0_1 l0_1.length c0_1, .slice A0_2 l0_2.length c0_2, .slice A0_3 l0_3.length c0_3] 26 (0, 0)) (kl BK452.out) hb); replace HB := am (below_step (bs1 GE452.out HB.out) hb); (try clear hb); (try clear hb2); (try clear hk); (try clear hi); (try clear ho0); (try clear ho1); (try clear ho2); (try clear ho3)) | ((with_reducible refine gate_dst (N := 4) rfl ?_); refine box_event ?hg (N := 4) ?hd (cs := #[.slice none 0 0, .slice none 0 0, .slice none 0 0, .slice none 0 0]) (t := 30) ?hr ?_; (case hd => rfl); (case hg => rfl); (case hr => first | (go_simp; done) | (go_simp; rfl)); intro gb479 hg w22 hbox hb; replace HO456 := am (Kd.R_below (rl HO456.out) hb); replace HO459 := am (Kd.R_below (rl HO459.out) hb); replace HO462 := am (Kd.R_below (rl HO462.out) hb); replace HO465 := am (Kd.R_below (rl HO465.out) hb); replace HO468 := am (Kd.R_below (rl HO468.out) hb); replace HO471 := am (Kd.R_below (rl HO471.out) hb); replace HO474 := am (Kd.R_below (rl HO474.out) hb); replace HO477 := am (Kd.R_below (rl HO477.out) hb); have BK479 := am (hbox); have GW479 := am ((by rw [hg]; exact (below_size (bs1 GE452.out HB.out)) : w.heap.size ≤ gb479)); have GE479 := am ((by rw [hg]; exact (below_size (bs1 GE452.out HB.out)) : w.heap.size ≤ gb479)); replace HB := am (below_step (bs1 GE452.out HB.out) hb); have NB452_479 := am ((by rw [hg]; exact Nat.ne_of_lt (blk_lt (g := gb452) (o := .cells #[.slice A0_0 l0_0.length c0_0, .slice A0_1 l0_1.length c0_1, .slice A0_2 l0_2.length c0_2, .slice A0_3 l0_3.length c0_3] 26 (0, 0)) (kl BK452.out)) : gb452 ≠ gb479)); have NB479_452 := am ((by rw [hg]; exact Nat.ne_of_gt (blk_lt (g := gb452) (o := .cells #[.slice A0_0 l0_0.length c0_0, .slice A0_1 l0_1.length c0_1, .slice A0_2 l0_2.length c0_2, .slice A0_3 l0_3.length c0_3] 26 (0, 0)) (kl BK452.out)) : gb479 ≠ gb452)); replace BK452 := am (blk_below (g := gb452) (o := .cells #[.slice A0_0 l0_0.length c0_0, .slice A0_1 l0_1.length c0_1, .slice A0_2 l0_2.length c0_2, .slice A0_3 l0_3.length c0_3] 26 (0, 0)) (kl BK452.out) hb); clear hb hbox hg; obtain ⟨Ao23, co23, eo23⟩ := Kd.R_slice HO468.out; subst eo23; have hnb24 := NB479_452.out; have hnc24 := NB452_479.out; have hcz25_0 : w22.cell? ⟨gb479, 0, none⟩ = some (.slice none 0 0) := (blk_cell BK479.out 0).trans rfl; have hcz25_1 : w22.cell? ⟨gb479, 1, none⟩ = some (.slice none 0 0) := (blk_cell BK479.out 1).trans rfl; have hcz25_2 : w22.cell? ⟨gb479, 2, none⟩ = some (.slice none 0 0) := (blk_cell BK479.out 2).trans rfl; have hcz25_3 : w22.cell? ⟨gb479, 3, none⟩ = some (.slice none 0 0) := (blk_cell BK479.out 3).trans rfl; have hfz25_0 := blk_frozen BK479.out 0; have hfz25_1 := blk_frozen BK479.out 1; have hfz25_2 := blk_frozen BK479.out 2; have hfz25_3 := blk_frozen BK479.out 3; obtain ⟨Ao26, co26, eo26⟩ := Kd.R_slice HO471.out; subst eo26; obtain ⟨Ao27, co27, eo27⟩ := Kd.R_slice HO474.out; subst eo27; obtain ⟨Ao28, co28, eo28⟩ := Kd.R_slice HO477.out; subst eo28; have hcz29_0 : w22.cell? ⟨gb452, 0, none⟩ = some (.slice A0_0 l0_0.length c0_0) := (blk_cell BK452.out 0).trans rfl; have hcz29_1 : w22.cell? ⟨gb452, 1, none⟩ = some (.slice A0_1 l0_1.length c0_1) := (blk_cell BK452.out 1).trans rfl; have hcz29_2 : w22.cell? ⟨gb452, 2, none⟩ = some (.slice A0_2 l0_2.length c0_2) := (blk_cell BK452.out 2).trans rfl; have hcz29_3 : w22.cell? ⟨gb452, 3, none⟩ = some (.slice A0_3 l0_3.length c0_3) := (blk_cell BK452.out 3).trans rfl; have hfz29_0 := blk_frozen BK452.out 0; have hfz29_1 := blk_frozen BK452.out 1; have hfz29_2 := blk_frozen BK452.out 2; have hfz29_3 := blk_frozen BK452.out 3) | ((with_reducible refine gate_callee (f := 19) rfl ?_); refine goesL_ (some 26) rfl rfl Try.func19 (by kernel_rfl) rfl #[.agg #[.slice A0_0 l0_0.length c0_0, .slice A0_1 l0_1.length c0_1, .slice A0_2 l0_2.length c0_2, .slice A0_3 l0_3.length c0_3]] rfl (by (try simp only [List.map_toArray, List.map_cons, List.map_nil]); first | done | rfl | (simp only [List.length_drop, List.length_take]; rfl)) ?_; (with_reducible refine (laws_toColored.calls k _ _ l0_0 _ _ l0_1 _ _ l0_2 _ _ l0_3 t480 t483 t486 t489 _ ?side1 ?side2 ?side3 ?side4 ?side5 ?side6 ?side7 ?side8 A9.out).mono ?_); (case side1 => exact Kd.C_below HR0_0.out (bs2 GE452.out GE479.out HB.out)); (case side2 => exact HC0_0.out); (case side3 => exact Kd.C_below HR0_1.out (bs2 GE452.out GE479.out HB.out)); (case side4 => exact HC0_1.out); (case side5 => exact Kd.C_below HR0_2.out (bs2 GE452.out GE479.out HB.out)); (case side6 => exact HC0_2.out); (case side7 => exact Kd.C_below HR0_3.out (bs2 GE452.out GE479.out HB.out)); (case side8 => exact HC0_3.out); rintro e w30 ⟨v481, v484, v487, v490, rfl, ho0, ho1, ho2, ho3, hb⟩; refine ⟨_, rfl, ?_⟩; have HO482 := am (Kd.R_lower (Kd.R_new' (Kd.R_new' (Kd.R_new' (Kd.R_new' (Kd.R_new' (Kd.R_new' (Kd.R_new' (Kd.R_new' ho0 (Kd.R_lt (rf1 BK479.out HO456.out))) (Kd.R_lt (rf1 BK479.out HO459.out))) (Kd.R_lt (rf1 BK479.out HO462.out))) (Kd.R_lt (rf1 BK479.out HO465.out))) (Kd.R_lt (rf1 BK479.out HO468.out))) (Kd.R_lt (rf1 BK479.out HO471.out))) (Kd.R_lt (rf1 BK479.out HO474.out))) (Kd.R_lt (rf1 BK479.out HO477.out))) (below_size (bs2 GE452.out GE479.out HB.out))); have HO485 := am (Kd.R_lower (Kd.R_new' (Kd.R_new' (Kd.R_new' (Kd.R_new' (Kd.R_new' (Kd.R_new' (Kd.R_new' (Kd.R_new' ho1 (Kd.R_lt (rf1 BK479.out HO456.out))) (Kd.R_lt (rf1 BK479.out HO459.out))) (Kd.R_lt (rf1 BK479.out HO462.out))) (Kd.R_lt (rf1 BK479.out HO465.out))) (Kd.R_lt (rf1 BK479.out HO468.out))) (Kd.R_lt (rf1 BK479.out HO471.out))) (Kd.R_lt (rf1 BK479.out HO474.out))) (Kd.R_lt (rf1 BK479.out HO477.out))) (below_size (bs2 GE452.out GE479.out HB.out))); have HO488 := am (Kd.R_lower (Kd.R_new' (Kd.R_new' (Kd.R_new' (Kd.R_new' (Kd.R_new' (Kd.R_new' (Kd.R_new' (Kd.R_new' ho2 (Kd.R_lt (rf1 BK479.out HO456.out))) (Kd.R_lt (rf1 BK479.out HO459.out))) (Kd.R_lt (rf1 BK479.out HO462.out))) (Kd.R_lt (rf1 BK479.out HO465.out))) (Kd.R_lt (rf1 BK479.out HO468.out))) (Kd.R_lt (rf1 BK479.out HO471.out))) (Kd.R_lt (rf1 BK479.out HO474.out))) (Kd.R_lt (rf1 BK479.out HO477.out))) (below_size (bs2 GE452.out GE479.out HB.out))); have HO491 := am (Kd.R_lower (Kd.R_new' (Kd.R_new' (Kd.R_new' (Kd.R_new' (Kd.R_new' (Kd.R_new' (Kd.R_new' (Kd.R_new' ho3 (Kd.R_lt (rf1 BK479.out HO456.out))) (Kd.R_lt (rf1 BK479.out HO459.out))) (Kd.R_lt (rf1 BK479.out HO462.out))) (Kd.R_lt (rf1 BK479.out HO465.out))) (Kd.R_lt (rf1 BK479.out HO468.out))) (Kd.R_lt (rf1 BK479.out HO471.out))) (Kd.R_lt (rf1 BK479.out HO474.out))) (Kd.R_lt (rf1 BK479.out HO477.out))) (below_size (bs2 GE452.out GE479.out HB.out))); replace HO456 := am (Kd.R_mono (Kd.R_told (Kd.R_told (Kd.R_told (Kd.R_told (Kd.R_old (rf1 BK479.out HO456.out) hb) (Kd.R_base ho0)) (Kd.R_base ho1)) (Kd.R_base ho2)) (Kd.R_base ho3)) (fun _ h_ => h_.1)); replace HO459 := am (Kd.R_mono (Kd.R_told (Kd.R_told (Kd.R_told (Kd.R_told (Kd.R_old (rf1 BK479.out HO459.out) hb) (Kd.R_base ho0)) (Kd.R_base ho1)) (Kd.R_base ho2)) (Kd.R_base ho3)) (fun _ h_ => h_.1)); replace HO462 := am (Kd.R_mono (Kd.R_told (Kd.R_told (Kd.R_told (Kd.R_told (Kd.R_old (rf1 BK479.out HO462.out) hb) (Kd.R_base ho0)) (Kd.R_base ho1)) (Kd.R_base ho2)) (Kd.R_base ho3)) (fun _ h_ => h_.1)); replace HO465 := am (Kd.R_mono (Kd.R_told (Kd.R_told (Kd.R_told (Kd.R_told (Kd.R_old (rf1 BK479.out HO465.out) hb) (Kd.R_base ho0)) (Kd.R_base ho1)) (Kd.R_base ho2)) (Kd.R_base ho3)) (fun _ h_ => h_.1)); replace HO468 := am (Kd.R_mono (Kd.R_told (Kd.R_told (Kd.R_told (Kd.R_told (Kd.R_old (rf1 BK479.out HO468.out) hb) (Kd.R_base ho0)) (Kd.R_base ho1)) (Kd.R_base ho2)) (Kd.R_base ho3)) (fun _ h_ => h_.1)); replace HO471 := am (Kd.R_mono (Kd.R_told (Kd.R_told (Kd.R_told (Kd.R_told (Kd.R_old (rf1 BK479.out HO471.out) hb) (Kd.R_base ho0)) (Kd.R_base ho1)) (Kd.R_base ho2)) (Kd.R_base ho3)) (fun _ h_ => h_.1)); replace HO474 := am (Kd.R_mono (Kd.R_told (Kd.R_told (Kd.R_told (Kd.R_told (Kd.R_old (rf1 BK479.out HO474.out) hb) (Kd.R_base ho0)) (Kd.R_base ho1)) (Kd.R_base ho2)) (Kd.R_base ho3)) (fun _ h_ => h_.1)); replace HO477 := am (Kd.R_mono (Kd.R_told (Kd.R_told (Kd.R_told (Kd.R_told (Kd.R_old (rf1 BK479.out HO477.out) hb) (Kd.R_base ho0)) (Kd.R_base ho1)) (Kd.R_base ho2)) (Kd.R_base ho3)) (fun _ h_ => h_.1)); replace BK452 := am (blk_below (g := gb452) (o := .cells #[.slice A0_0 l0_0.length c0_0, .slice A0_1 l0_1.length c0_1, .slice A0_2 l0_2.length c0_2, .slice A0_3 l0_3.length c0_3] 26 (0, 0)) (kf1 NB452_479.out BK452.out) hb); replace BK479 := am (blk_below (g := gb479) (o := .cells #[.slice Ao23 t466.length co23, .slice Ao26 t469.length co26, .slice Ao27 t472.length co27, .slice Ao28 t475.length co28] 30 (0, 0)) (kp4 (kf0 BK479.out)) hb); replace HB := am (below_step (bs2 GE452.out GE479.out HB.out) hb); (try clear hb); (try clear hb2); (try clear hk); (try clear hi); (try clear ho0); (try clear ho1); (try clear ho2); (try clear ho3)) | ((with_reducible refine gate_dst (N := 6) rfl ?_); refine box_event ?hg (N := 6) ?hd (cs := #[.slice none 0 0, .slice none 0 0, .slice none 0 0, .slice none 0 0]) (t := 30) ?hr ?_; (case hd => rfl); (case hg => rfl); (case hr => first | (go_simp; done) | (go_simp; rfl)); intro gb492 hg w31 hbox hb; replace HO456 := am (Kd.R_below (rl HO456.out) hb); replace HO459 := am (Kd.R_below (rl HO459.out) hb); replace HO462 := am (Kd.R_below (rl HO462.out) hb); replace HO465 := am (Kd.R_below (rl HO465.out) hb); replace HO468 := am (Kd.R_below (rl HO468.out) hb); replace HO471 := am (Kd.R_below (rl HO471.out) hb); replace HO474 := am (Kd.R_below (rl HO474.out) hb); replace HO477 := am (Kd.R_below (rl HO477.out) hb); replace HO482 := am (Kd.R_below (rl HO482.out) hb); replace HO485 := am (Kd.R_below (rl HO485.out) hb); replace HO488 := am (Kd.R_below (rl HO488.out) hb); replace HO491 := am (Kd.R_below (rl HO491.out) hb); have BK492 := am (hbox); have GW492 := am ((by rw [hg]; exact (below_size (bs2 GE452.out GE479.out HB.out)) : w.heap.size ≤ gb492)); have GE492 := am ((by rw [hg]; exact (below_size (bs2 GE452.out GE479.out HB.out)) : w.heap.size ≤ gb492)); replace HB := am (below_step (bs2 GE452.out GE479.out HB.out) hb); have NB452_492 := am ((by rw [hg]; exact Nat.ne_of_lt (blk_lt (g := gb452) (o := .cells #[.slice A0_0 l0_0.length c0_0, .slice A0_1 l0_1.length c0_1, .slice A0_2 l0_2.length c0_2, .slice A0_3 l0_3.length c0_3] 26 (0, 0)) (kl BK452.out)) : gb452 ≠ gb492)); have NB492_452 := am ((by rw [hg]; exact Nat.ne_of_gt (blk_lt (g := gb452) (o := .cells #[.slice A0_0 l0_0.length c0_0, .slice A0_1 l0_1.length c0_1, .slice A0_2 l0_2.length c0_2, .slice A0_3 l0_3.length c0_3] 26 (0, 0)) (kl BK452.out)) : gb492 ≠ gb452)); replace BK452 := am (blk_below (g := gb452) (o := .cells #[.slice A0_0 l0_0.length c0_0, .slice A0_1 l0_1.length c0_1, .slice A0_2 l0_2.length c0_2, .slice A0_3 l0_3.length c0_3] 26 (0, 0)) (kl BK452.out) hb); have NB479_492 := am ((by rw [hg]; exact Nat.ne_of_lt (blk_lt (g := gb479) (o := .cells #[.slice Ao23 t466.length co23, .slice Ao26 t469.length co26, .slice Ao27 t472.length co27, .slice Ao28 t475.length co28] 30 (0, 0)) (kl BK479.out)) : gb479 ≠ gb492)); have NB492_479 := am ((by rw [hg]; exact Nat.ne_of_gt (blk_lt (g := gb479) (o := .cells #[.slice Ao23 t466.length co23, .slice Ao26 t469.length co26, .slice Ao27 t472.length co27, .slice Ao28 t475.length co28] 30 (0, 0)) (kl BK479.out)) : gb492 ≠ gb479)); replace BK479 := am (blk_below (g := gb479) (o := .cells #[.slice Ao23 t466.length co23, .slice Ao26 t469.length co26, .slice Ao27 t472.length co27, .slice Ao28 t475.length co28] 30 (0, 0)) (kl BK479.out) hb); clear hb hbox hg; obtain ⟨Ao32, co32, eo32⟩ := Kd.R_slice HO482.out; subst eo32; have hnb33 := NB492_452.out; have hnc33 := NB452_492.out; have hnb34 := NB492_479.out; have hnc34 := NB479_492.out; have hcz35_0 : w31.cell? ⟨gb492, 0, none⟩ = some (.slice none 0 0) := (blk_cell BK492.out 0).trans rfl; have hcz35_1 : w31.cell? ⟨gb492, 1, none⟩ = some (.slice none 0 0) := (blk_cell BK492.out 1).trans rfl; have hcz35_2 : w31.cell? ⟨gb492, 2, none⟩ = some (.slice none 0 0) := (blk_cell BK492.out 2).trans rfl; have hcz35_3 : w31.cell? ⟨gb492, 3, none⟩ = some (.slice none 0 0) := (blk_cell BK492.out 3).trans rfl; have hfz35_0 := blk_frozen BK492.out 0; have hfz35_1 := blk_frozen BK492.out 1; have hfz35_2 := blk_frozen BK492.out 2; have hfz35_3 := blk_frozen BK492.out 3; obtain ⟨Ao36, co36, eo36⟩ := Kd.R_slice HO485.out; subst eo36; obtain ⟨Ao37, co37, eo37⟩ := Kd.R_slice HO488.out; subst eo37; obtain ⟨Ao38, co38, eo38⟩ := Kd.R_slice HO491.out; subst eo38) | ((with_reducible refine gate_callee (f := 25) rfl ?_); refine goesL_ (some 29) rfl rfl Try.func25 (by kernel_rfl) rfl #[.agg #[.slice Ao32 t480.length co32, .slice Ao36 t483.length co36, .slice Ao37 t486.length co37, .slice Ao38 t489.length co38]] rfl (by (try simp only [List.map_toArray, List.map_cons, List.map_nil]); first | done | rfl | (simp only [List.length_drop, List.length_take]; rfl)) ?_; (with_reducible refine (impl_ShadeRoots.calls k _ _ t480 _ _ t483 _ _ t486 _ _ t489 t493 t496 t499 t502 t505 _ ?side1 ?side2 ?side3 ?side4 ?side5 ?side6 ?side7 ?side8 A10.out).mono ?_); (case side1 => exact (Kd.R_reads' (rf1 BK492.out HO482.out)).2.2); (case side2 => exact (Kd.R_reads' HO482.out).2.1); (case side3 => exact (Kd.R_reads' (rf1 BK492.out HO485.out)).2.2); (case side4 => exact (Kd.R_reads' HO485.out).2.1); (case side5 => exact (Kd.R_reads' (rf1 BK492.out HO488.out)).2.2); (case side6 => exact (Kd.R_reads' HO488.out).2.1); (case side7 => exact (Kd.R_reads' (rf1 BK492.out HO491.out)).2.2); (case side8 => exact (Kd.R_reads' HO491.out).2.1); rintro e w39 ⟨v494, v497, v500, v503, rfl, ho0, ho1, ho2, ho3, hb⟩; refine ⟨_, rfl, ?_⟩; have HO495 := am (Kd.R_lower (Kd.R_new' (Kd.R_new' (Kd.R_new' (Kd.R_new' (Kd.R_new' (Kd.R_new' (Kd.R_new' (Kd.R_new' (Kd.R_new' (Kd.R_new' (Kd.R_new' (Kd.R_new' ho0 (Kd.R_lt (rf1 BK492.out HO456.out))) (Kd.R_lt (rf1 BK492.out HO459.out))) (Kd.R_lt (rf1 BK492.out HO462.out))) (Kd.R_lt (rf1 BK492.out HO465.out))) (Kd.R_lt (rf1 BK492.out HO468.out))) (Kd.R_lt (rf1 BK492.out HO471.out))) (Kd.R_lt (rf1 BK492.out HO474.out))) (Kd.R_lt (rf1 BK492.out HO477.out))) (Kd.R_lt (rf1 BK492.out HO482.out))) (Kd.R_lt (rf1 BK492.out HO485.out))) (Kd.R_lt (rf1 BK492.out HO488.out))) (Kd.R_lt (rf1 BK492.out HO491.out))) (below_size (bs3 GE452.out GE479.out GE492.out HB.out))); have HO498 := am (Kd.R_lower (Kd.R_new' (Kd.R_new' (Kd.R_new' (Kd.R_new' (Kd.R_new' (Kd.R_new' (Kd.R_new' (Kd.R_new' (Kd.R_new' (Kd.R_new' (Kd.R_new' (Kd.R_new' ho1 (Kd.R_lt (rf1 BK492.out HO456.out))) (Kd.R_lt (rf1 BK492.out HO459.out))) (Kd.R_lt (rf1 BK492.out HO462.out))) (Kd.R_lt (rf1 BK492.out HO465.out))) (Kd.R_lt (rf1 BK492.out HO468.out))) (Kd.R_lt (rf1 BK492.out HO471.out))) (Kd.R_lt (rf1 BK492.out HO474.out))) (Kd.R_lt (rf1 BK492.out HO477.out))) (Kd.R_lt (rf1 BK492.out HO482.out))) (Kd.R_lt (rf1 BK492.out HO485.out))) (Kd.R_lt (rf1 BK492.out HO488.out))) (Kd.R_lt (rf1 BK492.out HO491.out))) (below_size (bs3 GE452.out GE479.out GE492.out HB.out))); have HO501 := am (Kd.R_lower (Kd.R_new' (Kd.R_new' (Kd.R_new' (Kd.R_new' (Kd.R_new' (Kd.R_new' (Kd.R_new' (Kd.R_new' (Kd.R_new' (Kd.R_new' (Kd.R_new' (Kd.R_new' ho2 (Kd.R_lt (rf1 BK492.out HO456.out))) (Kd.R_lt (rf1 BK492.out HO459.out))) (Kd.R_lt (rf1 BK492.out HO462.out))) (Kd.R_lt (rf1 BK492.out HO465.out))) (Kd.R_lt (rf1 BK492.out HO468.out))) (Kd.R_lt (rf1 BK492.out HO471.out))) (Kd.R_lt (rf1 BK492.out HO474.out))) (Kd.R_lt (rf1 BK492.out HO477.out))) (Kd.R_lt (rf1 BK492.out HO482.out))) (Kd.R_lt (rf1 BK492.out HO485.out))) (Kd.R_lt (rf1 BK492.out HO488.out))) (Kd.R_lt (rf1 BK492.out HO491.out))) (below_size (bs3 GE452.out GE479.out GE492.out HB.out))); have HO504 := am (Kd.R_lower (Kd.R_new' (Kd.R_new' (Kd.R_new' (Kd.R_new' (Kd.R_new' (Kd.R_new' (Kd.R_new' (Kd.R_new' (Kd.R_new' (Kd.R_new' (Kd.R_new' (Kd.R_new' ho3 (Kd.R_lt (rf1 BK492.out HO456.out))) (Kd.R_lt (rf1 BK492.out HO459.out))) (Kd.R_lt (rf1 BK492.out HO462.out))) (Kd.R_lt (rf1 BK492.out HO465.out))) (Kd.R_lt (rf1 BK492.out HO468.out))) (Kd.R_lt (rf1 BK492.out HO471.out))) (Kd.R_lt (rf1 BK492.out HO474.out))) (Kd.R_lt (rf1 BK492.out HO477.out))) (Kd.R_lt (rf1 BK492.out HO482.out))) (Kd.R_lt (rf1 BK492.out HO485.out))) (Kd.R_lt (rf1 BK492.out HO488.out))) (Kd.R_lt (rf1 BK492.out HO491.out))) (below_size (bs3 GE452.out GE479.out GE492.out HB.out))); replace HO456 := am (Kd.R_mono (Kd.R_told (Kd.R_told (Kd.R_told (Kd.R_told (Kd.R_old (rf1 BK492.out HO456.out) hb) (Kd.R_base ho0)) (Kd.R_base ho1)) (Kd.R_base ho2)) (Kd.R_base ho3)) (fun _ h_ => h_.1)); replace HO459 := am (Kd.R_mono (Kd.R_told (Kd.R_told (Kd.R_told (Kd.R_told (Kd.R_old (rf1 BK492.out HO459.out) hb) (Kd.R_base ho0)) (Kd.R_base ho1)) (Kd.R_base ho2)) (Kd.R_base ho3)) (fun _ h_ => h_.1)); replace HO462 := am (Kd.R_mono (Kd.R_told (Kd.R_told (Kd.R_told (Kd.R_told (Kd.R_old (rf1 BK492.out HO462.out) hb) (Kd.R_base ho0)) (Kd.R_base ho1)) (Kd.R_base ho2)) (Kd.R_base ho3)) (fun _ h_ => h_.1)); replace HO465 := am (Kd.R_mono (Kd.R_told (Kd.R_told (Kd.R_told (Kd.R_told (Kd.R_old (rf1 BK492.out HO465.out) hb) (Kd.R_base ho0)) (Kd.R_base ho1)) (Kd.R_base ho2)) (Kd.R_base ho3)) (fun _ h_ => h_.1)); replace HO468 := am (Kd.R_mono (Kd.R_told (Kd.R_told (Kd.R_told (Kd.R_told (Kd.R_old (rf1 BK492.out HO468.out) hb) (Kd.R_base ho0)) (Kd.R_base ho1)) (Kd.R_base ho2)) (Kd.R_base ho3)) (fun _ h_ => h_.1)); replace HO471 := am (Kd.R_mono (Kd.R_told (Kd.R_told (Kd.R_told (Kd.R_told (Kd.R_old (rf1 BK492.out HO471.out) hb) (Kd.R_base ho0)) (Kd.R_base ho1)) (Kd.R_base ho2)) (Kd.R_base ho3)) (fun _ h_ => h_.1)); replace HO474 := am (Kd.R_mono (Kd.R_told (Kd.R_told (Kd.R_told (Kd.R_told (Kd.R_old (rf1 BK492.out HO474.out) hb) (Kd.R_base ho0)) (Kd.R_base ho1)) (Kd.R_base ho2)) (Kd.R_base ho3)) (fun _ h_ => h_.1)); replace HO477 := am (Kd.R_mono (Kd.R_told (Kd.R_told (Kd.R_told (Kd.R_told (Kd.R_old (rf1 BK492.out HO477.out) hb) (Kd.R_base ho0)) (Kd.R_base ho1)) (Kd.R_base ho2)) (Kd.R_base ho3)) (fun _ h_ => h_.1)); replace HO482 := am (Kd.R_mono (Kd.R_told (Kd.R_told (Kd.R_told (Kd.R_told (Kd.R_old (rf1 BK492.out HO482.out) hb) (Kd.R_base ho0)) (Kd.R_base ho1)) (Kd.R_base ho2)) (Kd.R_base ho3)) (fun _ h_ => h_.1)); replace HO485 := am (Kd.R_mono (Kd.R_told (Kd.R_told (Kd.R_told (Kd.R_told (Kd.R_old (rf1 BK492.out HO485.out) hb) (Kd.R_base ho0)) (Kd.R_base ho1)) (Kd.R_base ho2)) (Kd.R_base ho3)) (fun _ h_ => h_.1)); replace HO488 := am (Kd.R_mono (Kd.R_told (Kd.R_told (Kd.R_told (Kd.R_told (Kd.R_old (rf1 BK492.out HO488.out) hb) (Kd.R_base ho0)) (Kd.R_base ho1)) (Kd.R_base ho2)) (Kd.R_base ho3)) (fun _ h_ => h_.1)); replace HO491 := am (Kd.R_mono (Kd.R_told (Kd.R_told (Kd.R_told (Kd.R_told (Kd.R_old (rf1 BK492.out HO491.out) hb) (Kd.R_base ho0)) (Kd.R_base ho1)) (Kd.R_base ho2)) (Kd.R_base ho3)) (fun _ h_ => h_.1)); replace BK452 := am (blk_below (g := gb452) (o := .cells #[.slice A0_0 l0_0.length c0_0, .slice A0_1 l0_1.length c0_1, .slice A0_2 l0_2.length c0_2, .slice A0_3 l0_3.length c0_3] 26 (0, 0)) (kf1 NB452_492.out BK452.out) hb); replace BK479 := am (blk_below (g := gb479) (o := .cells #[.slice Ao23 t466.length co23, .slice Ao26 t469.length co26, .slice Ao27 t472.length co27, .slice Ao28 t475.length co28] 30 (0, 0)) (kf1 NB479_492.out BK479.out) hb); replace BK492 := am (blk_below (g := gb492) (o := .cells #[.slice Ao32 t480.length co32, .slice Ao36 t483.length co36, .slice Ao37 t486.length co37, .slice Ao38 t489.length co38] 30 (0, 0)) (kp4 (kf0 BK492.out)) hb); replace HB := am (below_step (bs3 GE452.out GE479.out GE492.out HB.out) hb); (try clear hb); (try clear hb2); (try clear hk); (try clear hi); (try clear ho0); (try clear ho1); (try clear ho2); (try clear ho3)) | ((with_reducible refine gate_dst (N := 7) rfl ?_); refine box_event ?hg (N := 7) ?hd (cs := #[.slice none 0 0, .slice none 0 0, .slice none 0 0, .slice none 0 0]) (t := 30) ?hr ?_; (case hd => rfl); (case hg => rfl); (case hr => first | (go_simp; done) | (go_simp; rfl)); intro gb506 hg w40 hbox hb; replace HO456 := am (Kd.R_below (rl HO456.out) hb); replace HO459 := am (Kd.R_below (rl HO459.out) hb); replace HO462 := am (Kd.R_below (rl HO462.out) hb); replace HO465 := am (Kd.R_below (rl HO465.out) hb); replace HO468 := am (Kd.R_below (rl HO468.out) hb); replace HO471 := am (Kd.R_below (rl HO471.out) hb); replace HO474 := am (Kd.R_below (rl HO474.out) hb); replace HO477 := am (Kd.R_below (rl HO477.out) hb); replace HO482 := am (Kd.R_below (rl HO482.out) hb); replace HO485 := am (Kd.R_below (rl HO485.out) hb); replace HO488 := am (Kd.R_below (rl HO488.out) hb); replace HO491 := am (Kd.R_below (rl HO491.out) hb); replace HO495 := am (Kd.R_below (rl HO495.out) hb); replace HO498 := am (Kd.R_below (rl HO498.out) hb); replace HO501 := am (Kd.R_below (rl HO501.out) hb); replace HO504 := am (Kd.R_below (rl HO504.out) hb); have BK506 := am (hbox); have GW506 := am ((by rw [hg]; exact (below_size (bs3 GE452.out GE479.out GE492.out HB.out)) : w.heap.size ≤ gb506)); have GE506 := am ((by rw [hg]; exact (below_size (bs3 GE452.out GE479.out GE492.out HB.out)) : w.heap.size ≤ gb506)); replace HB := am (below_step (bs3 GE452.out GE479.out GE492.out HB.out) hb); have NB452_506 := am ((by rw [hg]; exact Nat.ne_of_lt (blk_lt (g := gb452) (o := .cells #[.slice A0_0 l0_0.length c0_0, .slice A0_1 l0_1.length c0_1, .slice A0_2 l0_2.length c0_2, .slice A0_3 l0_3.length c0_3] 26 (0, 0)) (kl BK452.out)) : gb452 ≠ gb506)); have NB506_452 := am ((by rw [hg]; exact Nat.ne_of_gt (blk_lt (g := gb452) (o := .cells #[.slice A0_0 l0_0.length c0_0, .slice A0_1 l0_1.length c0_1, .slice A0_2 l0_2.length c0_2, .slice A0_3 l0_3.length c0_3] 26 (0, 0)) (kl BK452.out)) : gb506 ≠ gb452)); replace BK452 := am (blk_below (g := gb452) (o := .cells #[.slice A0_0 l0_0.length c0_0, .slice A0_1 l0_1.length c0_1, .slice A0_2 l0_2.length c0_2, .slice A0_3 l0_3.length c0_3] 26 (0, 0)) (kl BK452.out) hb); have NB479_506 := am ((by rw [hg]; exact Nat.ne_of_lt (blk_lt (g := gb479) (o := .cells #[.slice Ao23 t466.length co23, .slice Ao26 t469.length co26, .slice Ao27 t472.length co27, .slice Ao28 t475.length co28] 30 (0, 0)) (kl BK479.out)) : gb479 ≠ gb506)); have NB506_479 := am ((by rw [hg]; exact Nat.ne_of_gt (blk_lt (g := gb479) (o := .cells #[.slice Ao23 t466.length co23, .slice Ao26 t469.length co26, .slice Ao27 t472.length co27, .slice Ao28 t475.length co28] 30 (0, 0)) (kl BK479.out)) : gb506 ≠ gb479)); replace BK479 := am (blk_below (g := gb479) (o := .cells #[.slice Ao23 t466.length co23, .slice Ao26 t469.length co26, .slice Ao27 t472.length co27, .slice Ao28 t475.length co28] 30 (0, 0)) (kl BK479.out) hb); have NB492_506 := am ((by rw [hg]; exact Nat.ne_of_lt (blk_lt (g := gb492) (o := .cells #[.slice Ao32 t480.length co32, .slice Ao36 t483.length co36, .slice Ao37 t486.length co37, .slice Ao38 t489.length co38] 30 (0, 0)) (kl BK492.out)) : gb492 ≠ gb506)); have NB506_492 := am ((by rw [hg]; exact Nat.ne_of_gt (blk_lt (g := gb492) (o := .cells #[.slice Ao32 t480.length co32, .slice Ao36 t483.length co36, .slice Ao37 t486.length co37, .slice Ao38 t489.length co38] 30 (0, 0)) (kl BK492.out)) : gb506 ≠ gb492)); replace BK492 := am (blk_below (g := gb492) (o := .cells #[.slice Ao32 t480.length co32, .slice Ao36 t483.length co36, .slice Ao37 t486.length co37, .slice Ao38 t489.length co38] 30 (0, 0)) (kl BK492.out) hb); clear hb hbox hg; obtain ⟨Ao41, co41, eo41⟩ := Kd.R_slice HO495.out; subst eo41; have hnb42 := NB506_452.out; have hnc42 := NB452_506.out; have hnb43 := NB506_479.out; have hnc43 := NB479_506.out; have hnb44 := NB506_492.out; have hnc44 := NB492_506.out; have hcz45_0 : w40.cell? ⟨gb506, 0, none⟩ = some (.slice none 0 0) := (blk_cell BK506.out 0).trans rfl; have hcz45_1 : w40.cell? ⟨gb506, 1, none⟩ = some (.slice none 0 0) := (blk_cell BK506.out 1).trans rfl; have hcz45_2 : w40.cell? ⟨gb506, 2, none⟩ = some (.slice none 0 0) := (blk_cell BK506.out 2).trans rfl; have hcz45_3 : w40.cell? ⟨gb506, 3, none⟩ = some (.slice none 0 0) := (blk_cell BK506.out 3).trans rfl; have hfz45_0 := blk_frozen BK506.out 0; have hfz45_1 := blk_frozen BK506.out 1; have hfz45_2 := blk_frozen BK506.out 2; have hfz45_3 := blk_frozen BK506.out 3; obtain ⟨Ao46, co46, eo46⟩ := Kd.R_slice HO498.out; subst eo46; obtain ⟨Ao47, co47, eo47⟩ := Kd.R_slice HO501.out; subst eo47; obtain ⟨Ao48, co48, eo48⟩ := Kd.R_slice HO504.out; subst eo48))
  (try simp only [Act.put, List.setIfInBounds_toArray, List.set_cons_zero, List.set_cons_succ])
  go_cut [40] (fun v40 wc => ∃ (kq : Nat) (x40_10 : Bool), v40 = .bool x40_10 ∧ Aside0 (laws_FnExactShadeRoots.j0 kq t478 t505 x40_10 l0_0 l0_1 l0_2 l0_3 t466 t469 t472 t475 t480 t483 t486 t489 t493 t496 t499 t502 = some r) ∧ Aside0 (kq ≤ k) ∧ Aside0 (Kd.R (Kd.int .i64) 3 wc w.heap.size (fun k_ => some k_ ≠ ((.slice Ao26 t469.length co26) : Value).ownBlock ∧ some k_ ≠ ((.slice Ao27 t472.length co27) : Value).ownBlock ∧ some k_ ≠ ((.slice Ao28 t475.length co28) : Value).ownBlock ∧ some k_ ≠ ((.slice Ao32 t480.length co32) : Value).ownBlock ∧ some k_ ≠ ((.slice Ao36 t483.length co36) : Value).ownBlock ∧ some k_ ≠ ((.slice Ao37 t486.length co37) : Value).ownBlock ∧ some k_ ≠ ((.slice Ao38 t489.length co38) : Value).ownBlock ∧ some k_ ≠ ((.slice Ao41 t493.length co41) : Value).ownBlock ∧ some k_ ≠ ((.slice Ao46 t496.length co46) : Value).ownBlock ∧ some k_ ≠ ((.slice Ao47 t499.length co47) : Value).ownBlock ∧ some k_ ≠ ((.slice Ao48 t502.length co48) : Value).ownBlock) (.slice Ao23 t466.length co23) t466) ∧ Aside0 (Kd.R (Kd.int .i64) 3 wc w.heap.size (fun k_ => some k_ ≠ ((.slice Ao23 t466.length co23) : Value).ownBlock ∧ some k_ ≠ ((.slice Ao27 t472.length co27) : Value).ownBlock ∧ some k_ ≠ ((.slice Ao28 t475.length co28) : Value).ownBlock ∧ some k_ ≠ ((.slice Ao32 t480.length co32) : Value).ownBlock ∧ some k_ ≠ ((.slice Ao36 t483.length co36) : Value).ownBlock ∧ some k_ ≠ ((.slice Ao37 t486.length co37) : Value).ownBlock ∧ some k_ ≠ ((.slice Ao38 t489.length co38) : Value).ownBlock ∧ some k_ ≠ ((.slice Ao41 t493.length co41) : Value).ownBlock ∧ some k_ ≠ ((.slice Ao46 t496.length co46) : Value).ownBlock ∧ some k_ ≠ ((.slice Ao47 t499.length co47) : Value).ownBlock ∧ some k_ ≠ ((.slice Ao48 t502.length co48) : Value).ownBlock) (.slice Ao26 t469.length co26) t469) ∧ Aside0 (Kd.R (Kd.int .i64) 3 wc w.heap.size (fun k_ => some k_ ≠ ((.slice Ao23 t466.length co23) : Value).ownBlock ∧ some k_ ≠ ((.slice Ao26 t469.length co26) : Value).ownBlock ∧ some k_ ≠ ((.slice Ao28 t475.length co28) : Value).ownBlock ∧ some k_ ≠ ((.slice Ao32 t480.length co32) : Value).ownBlock ∧ some k_ ≠ ((.slice Ao36 t483.length co36) : Value).ownBlock ∧ some k_ ≠ ((.slice Ao37 t486.length co37) : Value).ownBlock ∧ some k_ ≠ ((.slice Ao38 t489.length co38) : Value).ownBlock ∧ some k_ ≠ ((.slice Ao41 t493.length co41) : Value).ownBlock ∧ some k_ ≠ ((.slice Ao46 t496.length co46) : Value).ownBlock ∧ some k_ ≠ ((.slice Ao47 t499.length co47) : Value).ownBlock ∧ some k_ ≠ ((.slice Ao48 t502.length co48) : Value).ownBlock) (.slice Ao27 t472.length co27) t472) ∧ Aside0 (Kd.R (Kd.int .i64) 3 wc w.heap.size (fun k_ => some k_ ≠ ((.slice Ao23 t466.length co23) : Value).ownBlock ∧ some k_ ≠ ((.slice Ao26 t469.length co26) : Value).ownBlock ∧ some k_ ≠ ((.slice Ao27 t472.length co27) : Value).ownBlock ∧ some k_ ≠ ((.slice Ao32 t480.length co32) : Value).ownBlock ∧ some k_ ≠ ((.slice Ao36 t483.length co36) : Value).ownBlock ∧ some k_ ≠ ((.slice Ao37 t486.length co37) : Value).ownBlock ∧ some k_ ≠ ((.slice Ao38 t489.length co38) : Value).ownBlock ∧ some k_ ≠ ((.slice Ao41 t493.length co41) : Value).ownBlock ∧ some k_ ≠ ((.slice Ao46 t496.length co46) : Value).ownBlock ∧ some k_ ≠ ((.slice Ao47 t499.length co47) : Value).ownBlock ∧ some k_ ≠ ((.slice Ao48 t502.length co48) : Value).ownBlock) (.slice Ao28 t475.length co28) t475) ∧ Aside0 (Kd.R (Kd.int .i64) 3 wc w.heap.size (fun k_ => some k_ ≠ ((.slice Ao23 t466.length co23) : Value).ownBlock ∧ some k_ ≠ ((.slice Ao26 t469.length co26) : Value).ownBlock ∧ some k_ ≠ ((.slice Ao27 t472.length co27) : Value).ownBlock ∧ some k_ ≠ ((.slice Ao28 t475.length co28) : Value).ownBlock ∧ some k_ ≠ ((.slice Ao36 t483.length co36) : Value).ownBlock ∧ some k_ ≠ ((.slice Ao37 t486.length co37) : Value).ownBlock ∧ some k_ ≠ ((.slice Ao38 t489.length co38) : Value).ownBlock ∧ some k_ ≠ ((.slice Ao41 t493.length co41) : Value).ownBlock ∧ some k_ ≠ ((.slice Ao46 t496.length co46) : Value).ownBlock ∧ some k_ ≠ ((.slice Ao47 t499.length co47) : Value).ownBlock ∧ some k_ ≠ ((.slice Ao48 t502.length co48) : Value).ownBlock) (.slice Ao32 t480.length co32) t480) ∧ Aside0 (Kd.R (Kd.int .i64) 3 wc w.heap.size (fun k_ => some k_ ≠ ((.slice Ao23 t466.length co23) : Value).ownBlock ∧ some k_ ≠ ((.slice Ao26 t469.length co26) : Value).ownBlock ∧ some k_ ≠ ((.slice Ao27 t472.length co27) : Value).ownBlock ∧ some k_ ≠ ((.slice Ao28 t475.length co28) : Value).ownBlock ∧ some k_ ≠ ((.slice Ao32 t480.length co32) : Value).ownBlock ∧ some k_ ≠ ((.slice Ao37 t486.length co37) : Value).ownBlock ∧ some k_ ≠ ((.slice Ao38 t489.length co38) : Value).ownBlock ∧ some k_ ≠ ((.slice Ao41 t493.length co41) : Value).ownBlock ∧ some k_ ≠ ((.slice Ao46 t496.length co46) : Value).ownBlock ∧ some k_ ≠ ((.slice Ao47 t499.length co47) : Value).ownBlock ∧ some k_ ≠ ((.slice Ao48 t502.length co48) : Value).ownBlock) (.slice Ao36 t483.length co36) t483) ∧ Aside0 (Kd.R (Kd.int .i64) 3 wc w.heap.size (fun k_ => some k_ ≠ ((.slice Ao23 t466.length co23) : Value).ownBlock ∧ some k_ ≠ ((.slice Ao26 t469.length co26) : Value).ownBlock ∧ some k_ ≠ ((.slice Ao27 t472.length co27) : Value).ownBlock ∧ some k_ ≠ ((.slice Ao28 t475.length co28) : Value).ownBlock ∧ some k_ ≠ ((.slice Ao32 t480.length co32) : Value).ownBlock ∧ some k_ ≠ ((.slice Ao36 t483.length co36) : Value).ownBlock ∧ some k_ ≠ ((.slice Ao38 t489.length co38) : Value).ownBlock ∧ some k_ ≠ ((.slice Ao41 t493.length co41) : Value).ownBlock ∧ some k_ ≠ ((.slice Ao46 t496.length co46) : Value).ownBlock ∧ some k_ ≠ ((.slice Ao47 t499.length co47) : Value).ownBlock ∧ some k_ ≠ ((.slice Ao48 t502.length co48) : Value).ownBlock) (.slice Ao37 t486.length co37) t486) ∧ Aside0 (Kd.R (Kd.int .i64) 3 wc w.heap.size (fun k_ => some k_ ≠ ((.slice Ao23 t466.length co23) : Value).ownBlock ∧ some k_ ≠ ((.slice Ao26 t469.length co26) : Value).ownBlock ∧ some k_ ≠ ((.slice Ao27 t472.length co27) : Value).ownBlock ∧ some k_ ≠ ((.slice Ao28 t475.length co28) : Value).ownBlock ∧ some k_ ≠ ((.slice Ao32 t480.length co32) : Value).ownBlock ∧ some k_ ≠ ((.slice Ao36 t483.length co36) : Value).ownBlock ∧ some k_ ≠ ((.slice Ao37 t486.length co37) : Value).ownBlock ∧ some k_ ≠ ((.slice Ao41 t493.length co41) : Value).ownBlock ∧ some k_ ≠ ((.slice Ao46 t496.length co46) : Value).ownBlock ∧ some k_ ≠ ((.slice Ao47 t499.length co47) : Value).ownBlock ∧ some k_ ≠ ((.slice Ao48 t502.length co48) : Value).ownBlock) (.slice Ao38 t489.length co38) t489) ∧ Aside0 (Kd.R (Kd.int .i64) 3 wc w.heap.size (fun k_ => some k_ ≠ ((.slice Ao23 t466.length co23) : Value).ownBlock ∧ some k_ ≠ ((.slice Ao26 t469.length co26) : Value).ownBlock ∧ some k_ ≠ ((.slice Ao27 t472.length co27) : Value).ownBlock ∧ some k_ ≠ ((.slice Ao28 t475.length co28) : Value).ownBlock ∧ some k_ ≠ ((.slice Ao32 t480.length co32) : Value).ownBlock ∧ some k_ ≠ ((.slice Ao36 t483.length co36) : Value).ownBlock ∧ some k_ ≠ ((.slice Ao37 t486.length co37) : Value).ownBlock ∧ some k_ ≠ ((.slice Ao38 t489.length co38) : Value).ownBlock ∧ some k_ ≠ ((.slice Ao46 t496.length co46) : Value).ownBlock ∧ some k_ ≠ ((.slice Ao47 t499.length co47) : Value).ownBlock ∧ some k_ ≠ ((.slice Ao48 t502.length co48) : Value).ownBlock) (.slice Ao41 t493.length co41) t493) ∧ Aside0 (Kd.R (Kd.int .i64) 3 wc w.heap.size (fun k_ => some k_ ≠ ((.slice Ao23 t466.length co23) : Value).ownBlock ∧ some k_ ≠ ((.slice Ao26 t469.length co26) : Value).ownBlock ∧ some k_ ≠ ((.slice Ao27 t472.length co27) : Value).ownBlock ∧ some k_ ≠ ((.slice Ao28 t475.length co28) : Value).ownBlock ∧ some k_ ≠ ((.slice Ao32 t480.length co32) : Value).ownBlock ∧ some k_ ≠ ((.slice Ao36 t483.length co36) : Value).ownBlock ∧ some k_ ≠ ((.slice Ao37 t486.length co37) : Value).ownBlock ∧ some k_ ≠ ((.slice Ao38 t489.length co38) : Value).ownBlock ∧ some k_ ≠ ((.slice Ao41 t493.length co41) : Value).ownBlock ∧ some k_ ≠ ((.slice Ao47 t499.length co47) : Value).ownBlock ∧ some k_ ≠ ((.slice Ao48 t502.length co48) : Value).ownBlock) (.slice Ao46 t496.length co46) t496) ∧ Aside0 (Kd.R (Kd.int .i64) 3 wc w.heap.size (fun k_ => some k_ ≠ ((.slice Ao23 t466.length co23) : Value).ownBlock ∧ some k_ ≠ ((.slice Ao26 t469.length co26) : Value).ownBlock ∧ some k_ ≠ ((.slice Ao27 t472.length co27) : Value).ownBlock ∧ some k_ ≠ ((.slice Ao28 t475.length co28) : Value).ownBlock ∧ some k_ ≠ ((.slice Ao32 t480.length co32) : Value).ownBlock ∧ some k_ ≠ ((.slice Ao36 t483.length co36) : Value).ownBlock ∧ some k_ ≠ ((.slice Ao37 t486.length co37) : Value).ownBlock ∧ some k_ ≠ ((.slice Ao38 t489.length co38) : Value).ownBlock ∧ some k_ ≠ ((.slice Ao41 t493.length co41) : Value).ownBlock ∧ some k_ ≠ ((.slice Ao46 t496.length co46) : Value).ownBlock ∧ some k_ ≠ ((.slice Ao48 t502.length co48) : Value).ownBlock) (.slice Ao47 t499.length co47) t499) ∧ Aside0 (Kd.R (Kd.int .i64) 3 wc w.heap.size (fun k_ => some k_ ≠ ((.slice Ao23 t466.length co23) : Value).ownBlock ∧ some k_ ≠ ((.slice Ao26 t469.length co26) : Value).ownBlock ∧ some k_ ≠ ((.slice Ao27 t472.length co27) : Value).ownBlock ∧ some k_ ≠ ((.slice Ao28 t475.length co28) : Value).ownBlock ∧ some k_ ≠ ((.slice Ao32 t480.length co32) : Value).ownBlock ∧ some k_ ≠ ((.slice Ao36 t483.length co36) : Value).ownBlock ∧ some k_ ≠ ((.slice Ao37 t486.length co37) : Value).ownBlock ∧ some k_ ≠ ((.slice Ao38 t489.length co38) : Value).ownBlock ∧ some k_ ≠ ((.slice Ao41 t493.length co41) : Value).ownBlock ∧ some k_ ≠ ((.slice Ao46 t496.length co46) : Value).ownBlock ∧ some k_ ≠ ((.slice Ao47 t499.length co47) : Value).ownBlock) (.slice Ao48 t502.length co48) t502) ∧ Aside0 (wc.heap[gb452]? = some (.cells #[(.slice A0_0 l0_0.length c0_0), (.slice A0_1 l0_1.length c0_1), (.slice A0_2 l0_2.length c0_2), (.slice A0_3 l0_3.length c0_3)] 26 (0, 0))) ∧ Aside0 (wc.heap[gb479]? = some (.cells #[(.slice Ao23 t466.length co23), (.slice Ao26 t469.length co26), (.slice Ao27 t472.length co27), (.slice Ao28 t475.length co28)] 30 (0, 0))) ∧ Aside0 (wc.heap[gb492]? = some (.cells #[(.slice Ao32 t480.length co32), (.slice Ao36 t483.length co36), (.slice Ao37 t486.length co37), (.slice Ao38 t489.length co38)] 30 (0, 0))) ∧ Aside0 (wc.heap[gb506]? = some (.cells #[(.slice Ao41 t493.length co41), (.slice Ao46 t496.length co46), (.slice Ao47 t499.length co47), (.slice Ao48 t502.length co48)] 30 (0, 0))) ∧ Aside0 (Below w.heap.size w wc))
  case first =>
   have H := HC11.out
   clear HC11
   replace H := Option.bind_eq_some_iff.mp H
   obtain ⟨t507, A490, H⟩ := H
   replace H : (if t507 = true then (laws_FnExactShadeRoots.j0 k t478 t505 (t505 != t478) l0_0 l0_1 l0_2 l0_3 t466 t469 t472 t475 t480 t483 t486 t489 t493 t496 t499 t502) else (laws_FnExactShadeRoots.j0 k t478 t505 true l0_0 l0_1 l0_2 l0_3 t466 t469 t472 t475 t480 t483 t486 t489 t493 t496 t499 t502)) = some r := H
   have A49 := am A490
   clear A490
   by_cases c50 : t507 = true
   ·subst c50
    have H1 : (laws_FnExactShadeRoots.j0 k t478 t505 (t505 != t478) l0_0 l0_1 l0_2 l0_3 t466 t469 t472 t475 t480 t483 t486 t489 t493 t496 t499 t502) = some r := by rw [if_pos rfl] at H; exact H
    clear H
    have H := H1
    clear H1
    have H' := am H
    clear H
    have hnb51 := NB506_452.out
    have hnc51 := NB452_506.out
    have hnb52 := NB506_479.out
    have hnc52 := NB479_506.out
    have hnb53 := NB506_492.out
    have hnc53 := NB492_506.out
    have hcz54_0 : w40.cell? ⟨gb506, 0, none⟩ = some (.slice none 0 0) := (blk_cell BK506.out 0).trans rfl
    have hcz54_1 : w40.cell? ⟨gb506, 1, none⟩ = some (.slice none 0 0) := (blk_cell BK506.out 1).trans rfl
    have hcz54_2 : w40.cell? ⟨gb506, 2, none⟩ = some (.slice none 0 0) := (blk_cell BK506.out 2).trans rfl
    have hcz54_3 : w40.cell? ⟨gb506, 3, none⟩ = some (.slice none 0 0) := (blk_cell BK506.out 3).trans rfl
    have hfz54_0 := blk_frozen BK506.out 0
    have hfz54_1 := blk_frozen BK506.out 1
    have hfz54_2 := blk_frozen BK506.out 2
    have hfz54_3 := blk_frozen BK506.out 3
    have hnb55 := NB479_452.out
    have hnc55 := NB452_479.out
    have hnb56 := NB479_492.out
    have hnc56 := NB492_479.out
    have hcz57_0 : w40.cell? ⟨gb479, 0, none⟩ = some (.slice Ao23 t466.length co23) := (blk_cell BK479.out 0).trans rfl
    have hcz57_1 : w40.cell? ⟨gb479, 1, none⟩ = some (.slice Ao26 t469.length co26) := (blk_cell BK479.out 1).trans rfl
    have hcz57_2 : w40.cell? ⟨gb479, 2, none⟩ = some (.slice Ao27 t472.length co27) := (blk_cell BK479.out 2).trans rfl
    have hcz57_3 : w40.cell? ⟨gb479, 3, none⟩ = some (.slice Ao28 t475.length co28) := (blk_cell BK479.out 3).trans rfl
    have hfz57_0 := blk_frozen BK479.out 0
    have hfz57_1 := blk_frozen BK479.out 1
    have hfz57_2 := blk_frozen BK479.out 2
    have hfz57_3 := blk_frozen BK479.out 3
    go_wp2_with (first | ((with_reducible refine gate_callee (f := 21) rfl ?_); refine goesL_ (some 34) rfl rfl Try.func21 (by kernel_rfl) rfl #[.agg #[.slice Ao41 t493.length co41, .slice Ao46 t496.length co46, .slice Ao47 t499.length co47, .slice Ao48 t502.length co48], .agg #[.slice Ao23 t466.length co23, .slice Ao26 t469.length co26, .slice Ao27 t472.length co27, .slice Ao28 t475.length co28]] rfl (by (try simp only [List.map_toArray, List.map_cons, List.map_nil]); first | done | rfl | (simp only [List.length_drop, List.length_take]; rfl)) ?_; (with_reducible refine (laws_eqColored.calls k _ _ t493 _ _ t496 _ _ t499 _ _ t502 _ _ t466 _ _ t469 _ _ t472 _ _ t475 true _ ?side1 ?side2 ?side3 ?side4 ?side5 ?side6 ?side7 ?side8 ?side9 ?side10 ?side11 ?side12 ?side13 ?side14 ?side15 ?side16 A49.out).mono ?_); (case side1 => exact (Kd.R_reads' (rf1 BK506.out HO495.out)).2.2); (case side2 => exact (Kd.R_reads' HO495.out).2.1); (case side3 => exact (Kd.R_reads' (rf1 BK506.out HO498.out)).2.2); (case side4 => exact (Kd.R_reads' HO498.out).2.1); (case side5 => exact (Kd.R_reads' (rf1 BK506.out HO501.out)).2.2); (case side6 => exact (Kd.R_reads' HO501.out).2.1); (case side7 => exact (Kd.R_reads' (rf1 BK506.out HO504.out)).2.2); (case side8 => exact (Kd.R_reads' HO504.out).2.1); (case side9 => exact (Kd.R_reads' (rf1 BK506.out HO468.out)).2.2); (case side10 => exact (Kd.R_reads' HO468.out).2.1); (case side11 => exact (Kd.R_reads' (rf1 BK506.out HO471.out)).2.2); (case side12 => exact (Kd.R_reads' HO471.out).2.1); (case side13 => exact (Kd.R_reads' (rf1 BK506.out HO474.out)).2.2); (case side14 => exact (Kd.R_reads' HO474.out).2.1); (case side15 => exact (Kd.R_reads' (rf1 BK506.out HO477.out)).2.2); (case side16 => exact (Kd.R_reads' HO477.out).2.1); rintro e w58 ⟨rfl, hb⟩; refine ⟨_, rfl, ?_⟩; replace HO456 := am (Kd.R_below (rf1 BK506.out HO456.out) hb); replace HO459 := am (Kd.R_below (rf1 BK506.out HO459.out) hb); replace HO462 := am (Kd.R_below (rf1 BK506.out HO462.out) hb); replace HO465 := am (Kd.R_below (rf1 BK506.out HO465.out) hb); replace HO468 := am (Kd.R_below (rf1 BK506.out HO468.out) hb); replace HO471 := am (Kd.R_below (rf1 BK506.out HO471.out) hb); replace HO474 := am (Kd.R_below (rf1 BK506.out HO474.out) hb); replace HO477 := am (Kd.R_below (rf1 BK506.out HO477.out) hb); replace HO482 := am (Kd.R_below (rf1 BK506.out HO482.out) hb); replace HO485 := am (Kd.R_below (rf1 BK506.out HO485.out) hb); replace HO488 := am (Kd.R_below (rf1 BK506.out HO488.out) hb); replace HO491 := am (Kd.R_below (rf1 BK506.out HO491.out) hb); replace HO495 := am (Kd.R_below (rf1 BK506.out HO495.out) hb); replace HO498 := am (Kd.R_below (rf1 BK506.out HO498.out) hb); replace HO501 := am (Kd.R_below (rf1 BK506.out HO501.out) hb); replace HO504 := am (Kd.R_below (rf1 BK506.out HO504.out) hb); replace BK452 := am (blk_below (g := gb452) (o := .cells #[.slice A0_0 l0_0.length c0_0, .slice A0_1 l0_1.length c0_1, .slice A0_2 l0_2.length c0_2, .slice A0_3 l0_3.length c0_3] 26 (0, 0)) (kf1 NB452_506.out BK452.out) hb); replace BK479 := am (blk_below (g := gb479) (o := .cells #[.slice Ao23 t466.length co23, .slice Ao26 t469.length co26, .slice Ao27 t472.length co27, .slice Ao28 t475.length co28] 30 (0, 0)) (kf1 NB479_506.out BK479.out) hb); replace BK492 := am (blk_below (g := gb492) (o := .cells #[.slice Ao32 t480.length co32, .slice Ao36 t483.length co36, .slice Ao37 t486.length co37, .slice Ao38 t489.length co38] 30 (0, 0)) (kf1 NB492_506.out BK492.out) hb); replace BK506 := am (blk_below (g := gb506) (o := .cells #[.slice Ao41 t493.length co41, .slice Ao46 t496.length co46, .slice Ao47 t499.length co47, .slice Ao48 t502.length co48] 30 (0, 0)) (kp4 (kf0 BK506.out)) hb); replace HB := am (below_step (bs4 GE452.out GE479.out GE492.out GE506.out HB.out) hb); (try clear hb); (try clear hb2); (try clear hk); (try clear hi)))
    go_meet
    case rel => exact ⟨_, ((t505 != t478)), (by first | rfl | (simp; done) | (simp [*]; done)), H', ⟨by first | omega | exact Nat.le_refl _⟩, ⟨rl (Kd.R_mono HO468.out (fun _ hk => by simp only [ne_eq] at hk ⊢; simp only [hk, not_false_eq_true, and_self]))⟩, ⟨rl (Kd.R_mono HO471.out (fun _ hk => by simp only [ne_eq] at hk ⊢; simp only [hk, not_false_eq_true, and_self]))⟩, ⟨rl (Kd.R_mono HO474.out (fun _ hk => by simp only [ne_eq] at hk ⊢; simp only [hk, not_false_eq_true, and_self]))⟩, ⟨rl (Kd.R_mono HO477.out (fun _ hk => by simp only [ne_eq] at hk ⊢; simp only [hk, not_false_eq_true, and_self]))⟩, ⟨rl (Kd.R_mono HO482.out (fun _ hk => by simp only [ne_eq] at hk ⊢; simp only [hk, not_false_eq_true, and_self]))⟩, ⟨rl (Kd.R_mono HO485.out (fun _ hk => by simp only [ne_eq] at hk ⊢; simp only [hk, not_false_eq_true, and_self]))⟩, ⟨rl (Kd.R_mono HO488.out (fun _ hk => by simp only [ne_eq] at hk ⊢; simp only [hk, not_false_eq_true, and_self]))⟩, ⟨rl (Kd.R_mono HO491.out (fun _ hk => by simp only [ne_eq] at hk ⊢; simp only [hk, not_false_eq_true, and_self]))⟩, ⟨rl (Kd.R_mono HO495.out (fun _ hk => by simp only [ne_eq] at hk ⊢; simp only [hk, not_false_eq_true, and_self]))⟩, ⟨rl (Kd.R_mono HO498.out (fun _ hk => by simp only [ne_eq] at hk ⊢; simp only [hk, not_false_eq_true, and_self]))⟩, ⟨rl (Kd.R_mono HO501.out (fun _ hk => by simp only [ne_eq] at hk ⊢; simp only [hk, not_false_eq_true, and_self]))⟩, ⟨rl (Kd.R_mono HO504.out (fun _ hk => by simp only [ne_eq] at hk ⊢; simp only [hk, not_false_eq_true, and_self]))⟩, ⟨kl BK452.out⟩, ⟨kl BK479.out⟩, ⟨kl BK492.out⟩, ⟨kl BK506.out⟩, ⟨by exact bs4 GE452.out GE479.out GE492.out GE506.out HB.out⟩⟩
   ·replace c50 := Bool.eq_false_iff.mpr c50
    subst c50
    have H1 : (laws_FnExactShadeRoots.j0 k t478 t505 true l0_0 l0_1 l0_2 l0_3 t466 t469 t472 t475 t480 t483 t486 t489 t493 t496 t499 t502) = some r := by rw [if_neg (show ¬ (false = true) by decide)] at H; exact H
    clear H
    have H := H1
    clear H1
    have H' := am H
    clear H
    have hnb59 := NB506_452.out
    have hnc59 := NB452_506.out
    have hnb60 := NB506_479.out
    have hnc60 := NB479_506.out
    have hnb61 := NB506_492.out
    have hnc61 := NB492_506.out
    have hcz62_0 : w40.cell? ⟨gb506, 0, none⟩ = some (.slice none 0 0) := (blk_cell BK506.out 0).trans rfl
    have hcz62_1 : w40.cell? ⟨gb506, 1, none⟩ = some (.slice none 0 0) := (blk_cell BK506.out 1).trans rfl
    have hcz62_2 : w40.cell? ⟨gb506, 2, none⟩ = some (.slice none 0 0) := (blk_cell BK506.out 2).trans rfl
    have hcz62_3 : w40.cell? ⟨gb506, 3, none⟩ = some (.slice none 0 0) := (blk_cell BK506.out 3).trans rfl
    have hfz62_0 := blk_frozen BK506.out 0
    have hfz62_1 := blk_frozen BK506.out 1
    have hfz62_2 := blk_frozen BK506.out 2
    have hfz62_3 := blk_frozen BK506.out 3
    have hnb63 := NB479_452.out
    have hnc63 := NB452_479.out
    have hnb64 := NB479_492.out
    have hnc64 := NB492_479.out
    have hcz65_0 : w40.cell? ⟨gb479, 0, none⟩ = some (.slice Ao23 t466.length co23) := (blk_cell BK479.out 0).trans rfl
    have hcz65_1 : w40.cell? ⟨gb479, 1, none⟩ = some (.slice Ao26 t469.length co26) := (blk_cell BK479.out 1).trans rfl
    have hcz65_2 : w40.cell? ⟨gb479, 2, none⟩ = some (.slice Ao27 t472.length co27) := (blk_cell BK479.out 2).trans rfl
    have hcz65_3 : w40.cell? ⟨gb479, 3, none⟩ = some (.slice Ao28 t475.length co28) := (blk_cell BK479.out 3).trans rfl
    have hfz65_0 := blk_frozen BK479.out 0
    have hfz65_1 := blk_frozen BK479.out 1
    have hfz65_2 := blk_frozen BK479.out 2
    have hfz65_3 := blk_frozen BK479.out 3
    go_wp2_with (first | ((with_reducible refine gate_callee (f := 21) rfl ?_); refine goesL_ (some 34) rfl rfl Try.func21 (by kernel_rfl) rfl #[.agg #[.slice Ao41 t493.length co41, .slice Ao46 t496.length co46, .slice Ao47 t499.length co47, .slice Ao48 t502.length co48], .agg #[.slice Ao23 t466.length co23, .slice Ao26 t469.length co26, .slice Ao27 t472.length co27, .slice Ao28 t475.length co28]] rfl (by (try simp only [List.map_toArray, List.map_cons, List.map_nil]); first | done | rfl | (simp only [List.length_drop, List.length_take]; rfl)) ?_; (with_reducible refine (laws_eqColored.calls k _ _ t493 _ _ t496 _ _ t499 _ _ t502 _ _ t466 _ _ t469 _ _ t472 _ _ t475 false _ ?side1 ?side2 ?side3 ?side4 ?side5 ?side6 ?side7 ?side8 ?side9 ?side10 ?side11 ?side12 ?side13 ?side14 ?side15 ?side16 A49.out).mono ?_); (case side1 => exact (Kd.R_reads' (rf1 BK506.out HO495.out)).2.2); (case side2 => exact (Kd.R_reads' HO495.out).2.1); (case side3 => exact (Kd.R_reads' (rf1 BK506.out HO498.out)).2.2); (case side4 => exact (Kd.R_reads' HO498.out).2.1); (case side5 => exact (Kd.R_reads' (rf1 BK506.out HO501.out)).2.2); (case side6 => exact (Kd.R_reads' HO501.out).2.1); (case side7 => exact (Kd.R_reads' (rf1 BK506.out HO504.out)).2.2); (case side8 => exact (Kd.R_reads' HO504.out).2.1); (case side9 => exact (Kd.R_reads' (rf1 BK506.out HO468.out)).2.2); (case side10 => exact (Kd.R_reads' HO468.out).2.1); (case side11 => exact (Kd.R_reads' (rf1 BK506.out HO471.out)).2.2); (case side12 => exact (Kd.R_reads' HO471.out).2.1); (case side13 => exact (Kd.R_reads' (rf1 BK506.out HO474.out)).2.2); (case side14 => exact (Kd.R_reads' HO474.out).2.1); (case side15 => exact (Kd.R_reads' (rf1 BK506.out HO477.out)).2.2); (case side16 => exact (Kd.R_reads' HO477.out).2.1); rintro e w66 ⟨rfl, hb⟩; refine ⟨_, rfl, ?_⟩; replace HO456 := am (Kd.R_below (rf1 BK506.out HO456.out) hb); replace HO459 := am (Kd.R_below (rf1 BK506.out HO459.out) hb); replace HO462 := am (Kd.R_below (rf1 BK506.out HO462.out) hb); replace HO465 := am (Kd.R_below (rf1 BK506.out HO465.out) hb); replace HO468 := am (Kd.R_below (rf1 BK506.out HO468.out) hb); replace HO471 := am (Kd.R_below (rf1 BK506.out HO471.out) hb); replace HO474 := am (Kd.R_below (rf1 BK506.out HO474.out) hb); replace HO477 := am (Kd.R_below (rf1 BK506.out HO477.out) hb); replace HO482 := am (Kd.R_below (rf1 BK506.out HO482.out) hb); replace HO485 := am (Kd.R_below (rf1 BK506.out HO485.out) hb); replace HO488 := am (Kd.R_below (rf1 BK506.out HO488.out) hb); replace HO491 := am (Kd.R_below (rf1 BK506.out HO491.out) hb); replace HO495 := am (Kd.R_below (rf1 BK506.out HO495.out) hb); replace HO498 := am (Kd.R_below (rf1 BK506.out HO498.out) hb); replace HO501 := am (Kd.R_below (rf1 BK506.out HO501.out) hb); replace HO504 := am (Kd.R_below (rf1 BK506.out HO504.out) hb); replace BK452 := am (blk_below (g := gb452) (o := .cells #[.slice A0_0 l0_0.length c0_0, .slice A0_1 l0_1.length c0_1, .slice A0_2 l0_2.length c0_2, .slice A0_3 l0_3.length c0_3] 26 (0, 0)) (kf1 NB452_506.out BK452.out) hb); replace BK479 := am (blk_below (g := gb479) (o := .cells #[.slice Ao23 t466.length co23, .slice Ao26 t469.length co26, .slice Ao27 t472.length co27, .slice Ao28 t475.length co28] 30 (0, 0)) (kf1 NB479_506.out BK479.out) hb); replace BK492 := am (blk_below (g := gb492) (o := .cells #[.slice Ao32 t480.length co32, .slice Ao36 t483.length co36, .slice Ao37 t486.length co37, .slice Ao38 t489.length co38] 30 (0, 0)) (kf1 NB492_506.out BK492.out) hb); replace BK506 := am (blk_below (g := gb506) (o := .cells #[.slice Ao41 t493.length co41, .slice Ao46 t496.length co46, .slice Ao47 t499.length co47, .slice Ao48 t502.length co48] 30 (0, 0)) (kp4 (kf0 BK506.out)) hb); replace HB := am (below_step (bs4 GE452.out GE479.out GE492.out GE506.out HB.out) hb); (try clear hb); (try clear hb2); (try clear hk); (try clear hi)))
    go_meet
    case rel => exact ⟨_, (true), (by first | rfl | (simp; done) | (simp [*]; done)), H', ⟨by first | omega | exact Nat.le_refl _⟩, ⟨rl (Kd.R_mono HO468.out (fun _ hk => by simp only [ne_eq] at hk ⊢; simp only [hk, not_false_eq_true, and_self]))⟩, ⟨rl (Kd.R_mono HO471.out (fun _ hk => by simp only [ne_eq] at hk ⊢; simp only [hk, not_false_eq_true, and_self]))⟩, ⟨rl (Kd.R_mono HO474.out (fun _ hk => by simp only [ne_eq] at hk ⊢; simp only [hk, not_false_eq_true, and_self]))⟩, ⟨rl (Kd.R_mono HO477.out (fun _ hk => by simp only [ne_eq] at hk ⊢; simp only [hk, not_false_eq_true, and_self]))⟩, ⟨rl (Kd.R_mono HO482.out (fun _ hk => by simp only [ne_eq] at hk ⊢; simp only [hk, not_false_eq_true, and_self]))⟩, ⟨rl (Kd.R_mono HO485.out (fun _ hk => by simp only [ne_eq] at hk ⊢; simp only [hk, not_false_eq_true, and_self]))⟩, ⟨rl (Kd.R_mono HO488.out (fun _ hk => by simp only [ne_eq] at hk ⊢; simp only [hk, not_false_eq_true, and_self]))⟩, ⟨rl (Kd.R_mono HO491.out (fun _ hk => by simp only [ne_eq] at hk ⊢; simp only [hk, not_false_eq_true, and_self]))⟩, ⟨rl (Kd.R_mono HO495.out (fun _ hk => by simp only [ne_eq] at hk ⊢; simp only [hk, not_false_eq_true, and_self]))⟩, ⟨rl (Kd.R_mono HO498.out (fun _ hk => by simp only [ne_eq] at hk ⊢; simp only [hk, not_false_eq_true, and_self]))⟩, ⟨rl (Kd.R_mono HO501.out (fun _ hk => by simp only [ne_eq] at hk ⊢; simp only [hk, not_false_eq_true, and_self]))⟩, ⟨rl (Kd.R_mono HO504.out (fun _ hk => by simp only [ne_eq] at hk ⊢; simp only [hk, not_false_eq_true, and_self]))⟩, ⟨kl BK452.out⟩, ⟨kl BK479.out⟩, ⟨kl BK492.out⟩, ⟨kl BK506.out⟩, ⟨by exact bs4 GE452.out GE479.out GE492.out GE506.out HB.out⟩⟩
  case rest =>
   clear HC11
   try clear c1
   try clear c2
   try clear p2
   try clear c3
   try clear c3b0
   try clear c4
   try clear c5
   try clear c6
   try clear c17
   try clear c19
   try clear c21
   try clear c24
   try clear c25
   try clear c33
   try clear c34
   try clear c42
   try clear c43
   try clear c44
   try clear c50
   try clear c51
   try clear c52
   try clear c53
   try clear c55
   try clear c56
   try clear c59
   try clear c60
   try clear c61
   try clear c63
   try clear c64
   try clear hcz13_0
   try clear hcz13_1
   try clear hcz13_2
   try clear hcz13_3
   try clear hcz15_0
   try clear hcz15_1
   try clear hcz15_2
   try clear hcz15_3
   try clear hcz25_0
   try clear hcz25_1
   try clear hcz25_2
   try clear hcz25_3
   try clear hcz29_0
   try clear hcz29_1
   try clear hcz29_2
   try clear hcz29_3
   try clear hcz35_0
   try clear hcz35_1
   try clear hcz35_2
   try clear hcz35_3
   try clear hcz45_0
   try clear hcz45_1
   try clear hcz45_2
   try clear hcz45_3
   try clear hcz54_0
   try clear hcz54_1
   try clear hcz54_2
   try clear hcz54_3
   try clear hcz57_0
   try clear hcz57_1
   try clear hcz57_2
   try clear hcz57_3
   try clear hcz5_0
   try clear hcz5_1
   try clear hcz5_2
   try clear hcz5_3
   try clear hcz62_0
   try clear hcz62_1
   try clear hcz62_2
   try clear hcz62_3
   try clear hcz65_0
   try clear hcz65_1
   try clear hcz65_2
   try clear hcz65_3
   try clear hfz13_0
   try clear hfz13_1
   try clear hfz13_2
   try clear hfz13_3
   try clear hfz15_0
   try clear hfz15_1
   try clear hfz15_2
   try clear hfz15_3
   try clear hfz25_0
   try clear hfz25_1
   try clear hfz25_2
   try clear hfz25_3
   try clear hfz29_0
   try clear hfz29_1
   try clear hfz29_2
   try clear hfz29_3
   try clear hfz35_0
   try clear hfz35_1
   try clear hfz35_2
   try clear hfz35_3
   try clear hfz45_0
   try clear hfz45_1
   try clear hfz45_2
   try clear hfz45_3
   try clear hfz54_0
   try clear hfz54_1
   try clear hfz54_2
   try clear hfz54_3
   try clear hfz57_0
   try clear hfz57_1
   try clear hfz57_2
   try clear hfz57_3
   try clear hfz5_0
   try clear hfz5_1
   try clear hfz5_2
   try clear hfz5_3
   try clear hfz62_0
   try clear hfz62_1
   try clear hfz62_2
   try clear hfz62_3
   try clear hfz65_0
   try clear hfz65_1
   try clear hfz65_2
   try clear hfz65_3
   obtain ⟨kq, x40_10, rfl, HA, HJ10, HO_480000, HO_480001, HO_480002, HO_480003, HO_493000, HO_493001, HO_493002, HO_493003, HO_507000, HO_507001, HO_507002, HO_507003, BK452, BK479, BK492, BK506, HB⟩ := hcut
   cases kq with
   | zero => exact absurd HA.out (by simp [laws_FnExactShadeRoots.j0])
   | succ kj10 =>
    have H := HA.out
    clear HA
    simp only [laws_FnExactShadeRoots.j0] at H
    by_cases c67 : x40_10 = true
    ·subst c67
     have H1 : (none) = some r := by rw [if_pos rfl] at H; exact H
     clear H
     have H := H1
     clear H1
     exact absurd H (by simp)
    ·replace c67 := Bool.eq_false_iff.mpr c67
     subst c67
     have H1 : ((laws_toColored.f kj10 l0_0 l0_1 l0_2 l0_3).bind fun bt508 => ((laws_eqColored.f kj10 t480 t483 t486 t489 bt508.1 bt508.2.1 bt508.2.2.1 bt508.2.2.2).bind fun t520 => (if t520 = true then ((laws_markColored.f kj10 t480 t483 t486 t489 1).bind fun bt521 => (if bt521.1 < 0 then (laws_FnExactShadeRoots.j1 kj10 t478 true l0_0 l0_1 l0_2 l0_3 t466 t469 t472 t475 t493 t496 t499 t502) else ((laws_eqColored.f kj10 t493 t496 t499 t502 t466 t469 t472 t475).bind fun t526 => (if t526 = true then (laws_FnExactShadeRoots.j1 kj10 t478 (t505 != t478) l0_0 l0_1 l0_2 l0_3 t466 t469 t472 t475 t493 t496 t499 t502) else (laws_FnExactShadeRoots.j1 kj10 t478 true l0_0 l0_1 l0_2 l0_3 t466 t469 t472 t475 t493 t496 t499 t502))))) else (none)))) = some r := by rw [if_neg (show ¬ (false = true) by decide)] at H; exact H
     clear H
     have H := H1
     clear H1
     replace H := Option.bind_eq_some_iff.mp H
     obtain ⟨⟨t508, t511, t514, t517⟩, A680, H⟩ := H
     replace H : ((laws_eqColored.f kj10 t480 t483 t486 t489 t508 t511 t514 t517).bind fun t520 => (if t520 = true then ((laws_markColored.f kj10 t480 t483 t486 t489 1).bind fun bt521 => (if bt521.1 < 0 then (laws_FnExactShadeRoots.j1 kj10 t478 true l0_0 l0_1 l0_2 l0_3 t466 t469 t472 t475 t493 t496 t499 t502) else ((laws_eqColored.f kj10 t493 t496 t499 t502 t466 t469 t472 t475).bind fun t526 => (if t526 = true then (laws_FnExactShadeRoots.j1 kj10 t478 (t505 != t478) l0_0 l0_1 l0_2 l0_3 t466 t469 t472 t475 t493 t496 t499 t502) else (laws_FnExactShadeRoots.j1 kj10 t478 true l0_0 l0_1 l0_2 l0_3 t466 t469 t472 t475 t493 t496 t499 t502))))) else (none))) = some r := H
     have A68 := am A680
     clear A680
     replace H := Option.bind_eq_some_iff.mp H
     obtain ⟨t520, A690, H⟩ := H
     replace H : (if t520 = true then ((laws_markColored.f kj10 t480 t483 t486 t489 1).bind fun bt521 => (if bt521.1 < 0 then (laws_FnExactShadeRoots.j1 kj10 t478 true l0_0 l0_1 l0_2 l0_3 t466 t469 t472 t475 t493 t496 t499 t502) else ((laws_eqColored.f kj10 t493 t496 t499 t502 t466 t469 t472 t475).bind fun t526 => (if t526 = true then (laws_FnExactShadeRoots.j1 kj10 t478 (t505 != t478) l0_0 l0_1 l0_2 l0_3 t466 t469 t472 t475 t493 t496 t499 t502) else (laws_FnExactShadeRoots.j1 kj10 t478 true l0_0 l0_1 l0_2 l0_3 t466 t469 t472 t475 t493 t496 t499 t502))))) else (none)) = some r := H
     have A69 := am A690
     clear A690
     by_cases c70 : t520 = true
     ·subst c70
      have H1 : ((laws_markColored.f kj10 t480 t483 t486 t489 1).bind fun bt521 => (if bt521.1 < 0 then (laws_FnExactShadeRoots.j1 kj10 t478 true l0_0 l0_1 l0_2 l0_3 t466 t469 t472 t475 t493 t496 t499 t502) else ((laws_eqColored.f kj10 t493 t496 t499 t502 t466 t469 t472 t475).bind fun t526 => (if t526 = true then (laws_FnExactShadeRoots.j1 kj10 t478 (t505 != t478) l0_0 l0_1 l0_2 l0_3 t466 t469 t472 t475 t493 t496 t499 t502) else (laws_FnExactShadeRoots.j1 kj10 t478 true l0_0 l0_1 l0_2 l0_3 t466 t469 t472 t475 t493 t496 t499 t502))))) = some r := by rw [if_pos rfl] at H; exact H
      clear H
      have H := H1
      clear H1
      replace H := Option.bind_eq_some_iff.mp H
      obtain ⟨⟨t521, t522, t523, t524, t525⟩, A710, H⟩ := H
      replace H : (if t521 < 0 then (laws_FnExactShadeRoots.j1 kj10 t478 true l0_0 l0_1 l0_2 l0_3 t466 t469 t472 t475 t493 t496 t499 t502) else ((laws_eqColored.f kj10 t493 t496 t499 t502 t466 t469 t472 t475).bind fun t526 => (if t526 = true then (laws_FnExactShadeRoots.j1 kj10 t478 (t505 != t478) l0_0 l0_1 l0_2 l0_3 t466 t469 t472 t475 t493 t496 t499 t502) else (laws_FnExactShadeRoots.j1 kj10 t478 true l0_0 l0_1 l0_2 l0_3 t466 t469 t472 t475 t493 t496 t499 t502)))) = some r := H
      have A71 := am A710
      clear A710
      have HC72 := am H
      clear H
      try go_wp2
      replace HO_480000 := am (Kd.R_drew HO_480000.out)
      replace HO_480001 := am (Kd.R_drew HO_480001.out)
      replace HO_480002 := am (Kd.R_drew HO_480002.out)
      replace HO_480003 := am (Kd.R_drew HO_480003.out)
      replace HO_493000 := am (Kd.R_drew HO_493000.out)
      replace HO_493001 := am (Kd.R_drew HO_493001.out)
      replace HO_493002 := am (Kd.R_drew HO_493002.out)
      replace HO_493003 := am (Kd.R_drew HO_493003.out)
      replace HO_507000 := am (Kd.R_drew HO_507000.out)
      replace HO_507001 := am (Kd.R_drew HO_507001.out)
      replace HO_507002 := am (Kd.R_drew HO_507002.out)
      replace HO_507003 := am (Kd.R_drew HO_507003.out)
      replace BK452 := am (blk_drew BK452.out)
      replace BK479 := am (blk_drew BK479.out)
      replace BK492 := am (blk_drew BK492.out)
      replace BK506 := am (blk_drew BK506.out)
      replace HB := am (below_drew1 HB.out)
      refine start_ (n := 5) (S := fun w' => w'.cell? ⟨gb492, 0, none⟩ = some (.slice Ao32 t480.length co32) ∧ w'.cell? ⟨gb492, 1, none⟩ = some (.slice Ao36 t483.length co36) ∧ w'.cell? ⟨gb492, 2, none⟩ = some (.slice Ao37 t486.length co37) ∧ w'.cell? ⟨gb492, 3, none⟩ = some (.slice Ao38 t489.length co38) ∧ w'.cell? ⟨gb452, 0, none⟩ = some (.slice A0_0 l0_0.length c0_0) ∧ w'.cell? ⟨gb452, 1, none⟩ = some (.slice A0_1 l0_1.length c0_1) ∧ w'.cell? ⟨gb452, 2, none⟩ = some (.slice A0_2 l0_2.length c0_2) ∧ w'.cell? ⟨gb452, 3, none⟩ = some (.slice A0_3 l0_3.length c0_3)) (ds := []) #[false, false, false, false, false] (by kernel_rfl) rfl rfl ⟨(blk_cell BK492.out 0).trans rfl, (blk_cell BK492.out 1).trans rfl, (blk_cell BK492.out 2).trans rfl, (blk_cell BK492.out 3).trans rfl, (blk_cell BK452.out 0).trans rfl, (blk_cell BK452.out 1).trans rfl, (blk_cell BK452.out 2).trans rfl, (blk_cell BK452.out 3).trans rfl⟩ (fun hHeld => ?_)
      generalize wc.drew = w73 at HO_480000 HO_480001 HO_480002 HO_480003 HO_493000 HO_493001 HO_493002 HO_493003 HO_507000 HO_507001 HO_507002 HO_507003 BK452 BK479 BK492 BK506 HB hHeld ⊢
      refine take_ (i := 0) (N := some 41) (v := ?_) (a' := ?_) #[true, false, false, false, false] rfl rfl (by kernel_rfl) (fun _ _ _ h => h) (Or.inl ⟨by rfl, ?_⟩) hHeld ?_ ?_
      rotate_left
      ·rintro w' ⟨s0, s1, s2, s3, s4, s5, s6, s7⟩
       go_simp
       with_reducible rfl
      rotate_left
      ·simp only [Act.put, List.setIfInBounds_toArray, List.set_cons_zero, List.set_cons_succ, i64_w, i32_w]
       rfl
      refine take_ (i := 1) (N := some 42) (v := ?_) (a' := ?_) #[true, true, false, false, false] rfl rfl (by kernel_rfl) (fun _ _ _ h => h) (Or.inl ⟨by rfl, ?_⟩) hHeld ?_ ?_
      rotate_left
      ·rintro w' ⟨s0, s1, s2, s3, s4, s5, s6, s7⟩
       go_simp
       with_reducible rfl
      rotate_left
      ·simp only [Act.put, List.setIfInBounds_toArray, List.set_cons_zero, List.set_cons_succ, i64_w, i32_w]
       rfl
      refine one_ (i := 2) (N := some 43) #[true, true, true, false, false] rfl rfl (by kernel_rfl) (by decide) (fun K hK => ?_)
      refine goes_ Try.func19 (by kernel_rfl) rfl #[.agg #[.slice A0_0 l0_0.length c0_0, .slice A0_1 l0_1.length c0_1, .slice A0_2 l0_2.length c0_2, .slice A0_3 l0_3.length c0_3]] (by rfl) rfl rfl (by (try simp only [List.map_toArray, List.map_cons, List.map_nil]); first | done | rfl | (simp only [List.length_drop, List.length_take]; rfl)) ?_
      with_reducible refine (laws_toColored.calls kj10 _ _ l0_0 _ _ l0_1 _ _ l0_2 _ _ l0_3 t508 t511 t514 t517 _ ?side1 ?side2 ?side3 ?side4 ?side5 ?side6 ?side7 ?side8 A68.out).mono ?_
      (case side1 => exact cl (Kd.C_below HR0_0.out HB.out))
      (case side2 => exact HC0_0.out)
      (case side3 => exact cl (Kd.C_below HR0_1.out HB.out))
      (case side4 => exact HC0_1.out)
      (case side5 => exact cl (Kd.C_below HR0_2.out HB.out))
      (case side6 => exact HC0_2.out)
      (case side7 => exact cl (Kd.C_below HR0_3.out HB.out))
      (case side8 => exact HC0_3.out)
      rintro e w74 ⟨v509, v512, v515, v518, rfl, ho0, ho1, ho2, ho3, hb⟩
      refine ⟨_, rfl, ?_⟩
      have HO510 := am (Kd.R_lower (Kd.R_new' (Kd.R_new' (Kd.R_new' (Kd.R_new' (Kd.R_new' (Kd.R_new' (Kd.R_new' (Kd.R_new' (Kd.R_new' (Kd.R_new' (Kd.R_new' (Kd.R_new' ho0 (Kd.R_lt (rl HO_480000.out))) (Kd.R_lt (rl HO_480001.out))) (Kd.R_lt (rl HO_480002.out))) (Kd.R_lt (rl HO_480003.out))) (Kd.R_lt (rl HO_493000.out))) (Kd.R_lt (rl HO_493001.out))) (Kd.R_lt (rl HO_493002.out))) (Kd.R_lt (rl HO_493003.out))) (Kd.R_lt (rl HO_507000.out))) (Kd.R_lt (rl HO_507001.out))) (Kd.R_lt (rl HO_507002.out))) (Kd.R_lt (rl HO_507003.out))) (below_size (bs4 GE452.out GE479.out GE492.out GE506.out HB.out)))
      have HO513 := am (Kd.R_lower (Kd.R_new' (Kd.R_new' (Kd.R_new' (Kd.R_new' (Kd.R_new' (Kd.R_new' (Kd.R_new' (Kd.R_new' (Kd.R_new' (Kd.R_new' (Kd.R_new' (Kd.R_new' ho1 (Kd.R_lt (rl HO_480000.out))) (Kd.R_lt (rl HO_480001.out))) (Kd.R_lt (rl HO_480002.out))) (Kd.R_lt (rl HO_480003.out))) (Kd.R_lt (rl HO_493000.out))) (Kd.R_lt (rl HO_493001.out))) (Kd.R_lt (rl HO_493002.out))) (Kd.R_lt (rl HO_493003.out))) (Kd.R_lt (rl HO_507000.out))) (Kd.R_lt (rl HO_507001.out))) (Kd.R_lt (rl HO_507002.out))) (Kd.R_lt (rl HO_507003.out))) (below_size (bs4 GE452.out GE479.out GE492.out GE506.out HB.out)))
      have HO516 := am (Kd.R_lower (Kd.R_new' (Kd.R_new' (Kd.R_new' (Kd.R_new' (Kd.R_new' (Kd.R_new' (Kd.R_new' (Kd.R_new' (Kd.R_new' (Kd.R_new' (Kd.R_new' (Kd.R_new' ho2 (Kd.R_lt (rl HO_480000.out))) (Kd.R_lt (rl HO_480001.out))) (Kd.R_lt (rl HO_480002.out))) (Kd.R_lt (rl HO_480003.out))) (Kd.R_lt (rl HO_493000.out))) (Kd.R_lt (rl HO_493001.out))) (Kd.R_lt (rl HO_493002.out))) (Kd.R_lt (rl HO_493003.out))) (Kd.R_lt (rl HO_507000.out))) (Kd.R_lt (rl HO_507001.out))) (Kd.R_lt (rl HO_507002.out))) (Kd.R_lt (rl HO_507003.out))) (below_size (bs4 GE452.out GE479.out GE492.out GE506.out HB.out)))
      have HO519 := am (Kd.R_lower (Kd.R_new' (Kd.R_new' (Kd.R_new' (Kd.R_new' (Kd.R_new' (Kd.R_new' (Kd.R_new' (Kd.R_new' (Kd.R_new' (Kd.R_new' (Kd.R_new' (Kd.R_new' ho3 (Kd.R_lt (rl HO_480000.out))) (Kd.R_lt (rl HO_480001.out))) (Kd.R_lt (rl HO_480002.out))) (Kd.R_lt (rl HO_480003.out))) (Kd.R_lt (rl HO_493000.out))) (Kd.R_lt (rl HO_493001.out))) (Kd.R_lt (rl HO_493002.out))) (Kd.R_lt (rl HO_493003.out))) (Kd.R_lt (rl HO_507000.out))) (Kd.R_lt (rl HO_507001.out))) (Kd.R_lt (rl HO_507002.out))) (Kd.R_lt (rl HO_507003.out))) (below_size (bs4 GE452.out GE479.out GE492.out GE506.out HB.out)))
      replace HO_480000 := am (Kd.R_mono (Kd.R_told (Kd.R_told (Kd.R_told (Kd.R_told (Kd.R_old (rl HO_480000.out) hb) (Kd.R_base ho0)) (Kd.R_base ho1)) (Kd.R_base ho2)) (Kd.R_base ho3)) (fun _ h_ => h_.1))
      replace HO_480001 := am (Kd.R_mono (Kd.R_told (Kd.R_told (Kd.R_told (Kd.R_told (Kd.R_old (rl HO_480001.out) hb) (Kd.R_base ho0)) (Kd.R_base ho1)) (Kd.R_base ho2)) (Kd.R_base ho3)) (fun _ h_ => h_.1))
      replace HO_480002 := am (Kd.R_mono (Kd.R_told (Kd.R_told (Kd.R_told (Kd.R_told (Kd.R_old (rl HO_480002.out) hb) (Kd.R_base ho0)) (Kd.R_base ho1)) (Kd.R_base ho2)) (Kd.R_base ho3)) (fun _ h_ => h_.1))
      replace HO_480003 := am (Kd.R_mono (Kd.R_told (Kd.R_told (Kd.R_told (Kd.R_told (Kd.R_old (rl HO_480003.out) hb) (Kd.R_base ho0)) (Kd.R_base ho1)) (Kd.R_base ho2)) (Kd.R_base ho3)) (fun _ h_ => h_.1))
      replace HO_493000 := am (Kd.R_mono (Kd.R_told (Kd.R_told (Kd.R_told (Kd.R_told (Kd.R_old (rl HO_493000.out) hb) (Kd.R_base ho0)) (Kd.R_base ho1)) (Kd.R_base ho2)) (Kd.R_base ho3)) (fun _ h_ => h_.1))
      replace HO_493001 := am (Kd.R_mono (Kd.R_told (Kd.R_told (Kd.R_told (Kd.R_told (Kd.R_old (rl HO_493001.out) hb) (Kd.R_base ho0)) (Kd.R_base ho1)) (Kd.R_base ho2)) (Kd.R_base ho3)) (fun _ h_ => h_.1))
      replace HO_493002 := am (Kd.R_mono (Kd.R_told (Kd.R_told (Kd.R_told (Kd.R_told (Kd.R_old (rl HO_493002.out) hb) (Kd.R_base ho0)) (Kd.R_base ho1)) (Kd.R_base ho2)) (Kd.R_base ho3)) (fun _ h_ => h_.1))
      replace HO_493003 := am (Kd.R_mono (Kd.R_told (Kd.R_told (Kd.R_told (Kd.R_told (Kd.R_old (rl HO_493003.out) hb) (Kd.R_base ho0)) (Kd.R_base ho1)) (Kd.R_base ho2)) (Kd.R_base ho3)) (fun _ h_ => h_.1))
      replace HO_507000 := am (Kd.R_mono (Kd.R_told (Kd.R_told (Kd.R_told (Kd.R_told (Kd.R_old (rl HO_507000.out) hb) (Kd.R_base ho0)) (Kd.R_base ho1)) (Kd.R_base ho2)) (Kd.R_base ho3)) (fun _ h_ => h_.1))
      replace HO_507001 := am (Kd.R_mono (Kd.R_told (Kd.R_told (Kd.R_told (Kd.R_told (Kd.R_old (rl HO_507001.out) hb) (Kd.R_base ho0)) (Kd.R_base ho1)) (Kd.R_base ho2)) (Kd.R_base ho3)) (fun _ h_ => h_.1))
      replace HO_507002 := am (Kd.R_mono (Kd.R_told (Kd.R_told (Kd.R_told (Kd.R_told (Kd.R_old (rl HO_507002.out) hb) (Kd.R_base ho0)) (Kd.R_base ho1)) (Kd.R_base ho2)) (Kd.R_base ho3)) (fun _ h_ => h_.1))
      replace HO_507003 := am (Kd.R_mono (Kd.R_told (Kd.R_told (Kd.R_told (Kd.R_told (Kd.R_old (rl HO_507003.out) hb) (Kd.R_base ho0)) (Kd.R_base ho1)) (Kd.R_base ho2)) (Kd.R_base ho3)) (fun _ h_ => h_.1))
      replace BK452 := am (blk_below (g := gb452) (o := .cells #[.slice A0_0 l0_0.length c0_0, .slice A0_1 l0_1.length c0_1, .slice A0_2 l0_2.length c0_2, .slice A0_3 l0_3.length c0_3] 26 (0, 0)) (kl BK452.out) hb)
      replace BK479 := am (blk_below (g := gb479) (o := .cells #[.slice Ao23 t466.length co23, .slice Ao26 t469.length co26, .slice Ao27 t472.length co27, .slice Ao28 t475.length co28] 30 (0, 0)) (kl BK479.out) hb)
      replace BK492 := am (blk_below (g := gb492) (o := .cells #[.slice Ao32 t480.length co32, .slice Ao36 t483.length co36, .slice Ao37 t486.length co37, .slice Ao38 t489.length co38] 30 (0, 0)) (kl BK492.out) hb)
      replace BK506 := am (blk_below (g := gb506) (o := .cells #[.slice Ao41 t493.length co41, .slice Ao46 t496.length co46, .slice Ao47 t499.length co47, .slice Ao48 t502.length co48] 30 (0, 0)) (kl BK506.out) hb)
      replace HB := am (below_step (bs4 GE452.out GE479.out GE492.out GE506.out HB.out) hb)
      (try clear hb)
      (try clear hb2)
      (try clear hk)
      (try clear hi)
      (try clear ho0)
      (try clear ho1)
      (try clear ho2)
      (try clear ho3)
      obtain ⟨Ao75, co75, eo75⟩ := Kd.R_slice HO510.out
      (first | subst eo75 | (injection eo75 with f1_ f2_ f3_; have f4_ := f1_.symm; have f5_ := f3_.symm; clear f1_ f2_ f3_; subst f4_; subst f5_))
      obtain ⟨Ao76, co76, eo76⟩ := Kd.R_slice HO513.out
      (first | subst eo76 | (injection eo76 with f1_ f2_ f3_; have f4_ := f1_.symm; have f5_ := f3_.symm; clear f1_ f2_ f3_; subst f4_; subst f5_))
      obtain ⟨Ao77, co77, eo77⟩ := Kd.R_slice HO516.out
      (first | subst eo77 | (injection eo77 with f1_ f2_ f3_; have f4_ := f1_.symm; have f5_ := f3_.symm; clear f1_ f2_ f3_; subst f4_; subst f5_))
      obtain ⟨Ao78, co78, eo78⟩ := Kd.R_slice HO519.out
      (first | subst eo78 | (injection eo78 with f1_ f2_ f3_; have f4_ := f1_.symm; have f5_ := f3_.symm; clear f1_ f2_ f3_; subst f4_; subst f5_))
      refine hK.out _ _ ⟨(blk_cell BK492.out 0).trans rfl, (blk_cell BK492.out 1).trans rfl, (blk_cell BK492.out 2).trans rfl, (blk_cell BK492.out 3).trans rfl, (blk_cell BK452.out 0).trans rfl, (blk_cell BK452.out 1).trans rfl, (blk_cell BK452.out 2).trans rfl, (blk_cell BK452.out 3).trans rfl⟩ (fun hHeld => ?_)
      clear hK K
      refine norm_ (a' := ?_) ?_ ?_
      rotate_left
      ·show Act.put _ (some 43) _ = _
       simp only [Act.put, List.setIfInBounds_toArray, List.set_cons_zero, List.set_cons_succ, i64_w, i32_w]
       rfl
      refine one_ (i := 3) (N := some 44) #[true, true, true, true, false] rfl rfl (by kernel_rfl) (by decide) (fun K hK => ?_)
      refine goes_ Try.func21 (by kernel_rfl) rfl #[.agg #[.slice Ao32 t480.length co32, .slice Ao36 t483.length co36, .slice Ao37 t486.length co37, .slice Ao38 t489.length co38], .agg #[.slice Ao75 t508.length co75, .slice Ao76 t511.length co76, .slice Ao77 t514.length co77, .slice Ao78 t517.length co78]] (by rfl) rfl rfl (by (try simp only [List.map_toArray, List.map_cons, List.map_nil]); first | done | rfl | (simp only [List.length_drop, List.length_take]; rfl)) ?_
      with_reducible refine (laws_eqColored.calls kj10 _ _ t480 _ _ t483 _ _ t486 _ _ t489 _ _ t508 _ _ t511 _ _ t514 _ _ t517 true _ ?side1 ?side2 ?side3 ?side4 ?side5 ?side6 ?side7 ?side8 ?side9 ?side10 ?side11 ?side12 ?side13 ?side14 ?side15 ?side16 A69.out).mono ?_
      (case side1 => exact cl ((Kd.R_reads' HO_493000.out).2.2))
      (case side2 => exact (Kd.R_reads' HO_493000.out).2.1)
      (case side3 => exact cl ((Kd.R_reads' HO_493001.out).2.2))
      (case side4 => exact (Kd.R_reads' HO_493001.out).2.1)
      (case side5 => exact cl ((Kd.R_reads' HO_493002.out).2.2))
      (case side6 => exact (Kd.R_reads' HO_493002.out).2.1)
      (case side7 => exact cl ((Kd.R_reads' HO_493003.out).2.2))
      (case side8 => exact (Kd.R_reads' HO_493003.out).2.1)
      (case side9 => exact cl ((Kd.R_reads' HO510.out).2.2))
      (case side10 => exact (Kd.R_reads' HO510.out).2.1)
      (case side11 => exact cl ((Kd.R_reads' HO513.out).2.2))
      (case side12 => exact (Kd.R_reads' HO513.out).2.1)
      (case side13 => exact cl ((Kd.R_reads' HO516.out).2.2))
      (case side14 => exact (Kd.R_reads' HO516.out).2.1)
      (case side15 => exact cl ((Kd.R_reads' HO519.out).2.2))
      (case side16 => exact (Kd.R_reads' HO519.out).2.1)
      rintro e w79 ⟨rfl, hb⟩
      refine ⟨_, rfl, ?_⟩
      replace HO_480000 := am (Kd.R_below (rl HO_480000.out) hb)
      replace HO_480001 := am (Kd.R_below (rl HO_480001.out) hb)
      replace HO_480002 := am (Kd.R_below (rl HO_480002.out) hb)
      replace HO_480003 := am (Kd.R_below (rl HO_480003.out) hb)
      replace HO_493000 := am (Kd.R_below (rl HO_493000.out) hb)
      replace HO_493001 := am (Kd.R_below (rl HO_493001.out) hb)
      replace HO_493002 := am (Kd.R_below (rl HO_493002.out) hb)
      replace HO_493003 := am (Kd.R_below (rl HO_493003.out) hb)
      replace HO_507000 := am (Kd.R_below (rl HO_507000.out) hb)
      replace HO_507001 := am (Kd.R_below (rl HO_507001.out) hb)
      replace HO_507002 := am (Kd.R_below (rl HO_507002.out) hb)
      replace HO_507003 := am (Kd.R_below (rl HO_507003.out) hb)
      replace HO510 := am (Kd.R_below (rl HO510.out) hb)
      replace HO513 := am (Kd.R_below (rl HO513.out) hb)
      replace HO516 := am (Kd.R_below (rl HO516.out) hb)
      replace HO519 := am (Kd.R_below (rl HO519.out) hb)
      replace BK452 := am (blk_below (g := gb452) (o := .cells #[.slice A0_0 l0_0.length c0_0, .slice A0_1 l0_1.length c0_1, .slice A0_2 l0_2.length c0_2, .slice A0_3 l0_3.length c0_3] 26 (0, 0)) (kl BK452.out) hb)
      replace BK479 := am (blk_below (g := gb479) (o := .cells #[.slice Ao23 t466.length co23, .slice Ao26 t469.length co26, .slice Ao27 t472.length co27, .slice Ao28 t475.length co28] 30 (0, 0)) (kl BK479.out) hb)
      replace BK492 := am (blk_below (g := gb492) (o := .cells #[.slice Ao32 t480.length co32, .slice Ao36 t483.length co36, .slice Ao37 t486.length co37, .slice Ao38 t489.length co38] 30 (0, 0)) (kl BK492.out) hb)
      replace BK506 := am (blk_below (g := gb506) (o := .cells #[.slice Ao41 t493.length co41, .slice Ao46 t496.length co46, .slice Ao47 t499.length co47, .slice Ao48 t502.length co48] 30 (0, 0)) (kl BK506.out) hb)
      replace HB := am (below_step (bs4 GE452.out GE479.out GE492.out GE506.out HB.out) hb)
      (try clear hb)
      (try clear hb2)
      (try clear hk)
      (try clear hi)
      refine hK.out _ _ ⟨(blk_cell BK492.out 0).trans rfl, (blk_cell BK492.out 1).trans rfl, (blk_cell BK492.out 2).trans rfl, (blk_cell BK492.out 3).trans rfl, (blk_cell BK452.out 0).trans rfl, (blk_cell BK452.out 1).trans rfl, (blk_cell BK452.out 2).trans rfl, (blk_cell BK452.out 3).trans rfl⟩ (fun hHeld => ?_)
      clear hK K
      refine norm_ (a' := ?_) ?_ ?_
      rotate_left
      ·show Act.put _ (some 44) _ = _
       simp only [Act.put, List.setIfInBounds_toArray, List.set_cons_zero, List.set_cons_succ, i64_w, i32_w]
       rfl
      refine pure_ (i := 4) (N := some 45) (v := ?_) (a' := ?_) #[true, true, true, true, true] rfl rfl (by kernel_rfl) (fun _ _ _ h => h) (Or.inl ⟨by rfl, ?_⟩) ?_ ?_
      rotate_left
      ·intro w'
       go_simp
       with_reducible rfl
      rotate_left
      ·simp only [Act.put, List.setIfInBounds_toArray, List.set_cons_zero, List.set_cons_succ, i64_w, i32_w]
       rfl
      refine done_ (by kernel_rfl) ?_
      have hnb80 := NB492_452.out
      have hnc80 := NB452_492.out
      have hnb81 := NB492_479.out
      have hnc81 := NB479_492.out
      have hnb82 := NB492_506.out
      have hnc82 := NB506_492.out
      have hcz83_0 : w79.cell? ⟨gb492, 0, none⟩ = some (.slice Ao32 t480.length co32) := (blk_cell BK492.out 0).trans rfl
      have hcz83_1 : w79.cell? ⟨gb492, 1, none⟩ = some (.slice Ao36 t483.length co36) := (blk_cell BK492.out 1).trans rfl
      have hcz83_2 : w79.cell? ⟨gb492, 2, none⟩ = some (.slice Ao37 t486.length co37) := (blk_cell BK492.out 2).trans rfl
      have hcz83_3 : w79.cell? ⟨gb492, 3, none⟩ = some (.slice Ao38 t489.length co38) := (blk_cell BK492.out 3).trans rfl
      have hfz83_0 := blk_frozen BK492.out 0
      have hfz83_1 := blk_frozen BK492.out 1
      have hfz83_2 := blk_frozen BK492.out 2
      have hfz83_3 := blk_frozen BK492.out 3
      go_upto_region 14 with (first | ((with_reducible refine gate_callee (f := 22) rfl ?_); refine goesL_ (some 48) rfl rfl Try.func22 (by kernel_rfl) rfl #[.agg #[.slice Ao32 t480.length co32, .slice Ao36 t483.length co36, .slice Ao37 t486.length co37, .slice Ao38 t489.length co38], .int .i64 1] rfl (by (try simp only [List.map_toArray, List.map_cons, List.map_nil]); first | done | rfl | (simp only [List.length_drop, List.length_take]; rfl)) ?_; (with_reducible refine (laws_markColored.calls kj10 (fun k_ => some k_ = (.slice Ao32 t480.length co32 : Value).ownBlock) (.slice Ao32 t480.length co32) t480 (fun k_ => some k_ = (.slice Ao36 t483.length co36 : Value).ownBlock) (.slice Ao36 t483.length co36) t483 (fun k_ => some k_ = (.slice Ao37 t486.length co37 : Value).ownBlock) (.slice Ao37 t486.length co37) t486 (fun k_ => some k_ = (.slice Ao38 t489.length co38 : Value).ownBlock) (.slice Ao38 t489.length co38) t489 1 t521 t522 t523 t524 t525 w _ ?side1 ?side2 ?side3 ?side4 ?side5 ?side6 ?side7 ?side8 ?side9 ?side10 ?side11 ?side12 ?side13 ?side14 ?side15 ?side16 ?side17 A71.out).mono ?_); (case side1 => exact bs4 GE452.out GE479.out GE492.out GE506.out HB.out); (case side2 => exact Kd.R_tight rfl HO_493000.out); (case side3 => exact fun k_ e_ => by have z_ := HO_493000.out.1 k_ e_.symm; simp only [ne_eq] at z_; simp only [z_, not_false_eq_true]); (case side4 => exact fun k_ e_ => by have z_ := HO_493000.out.1 k_ e_.symm; simp only [ne_eq] at z_; simp only [z_, not_false_eq_true]); (case side5 => exact fun k_ e_ => by have z_ := HO_493000.out.1 k_ e_.symm; simp only [ne_eq] at z_; simp only [z_, not_false_eq_true]); (case side6 => exact Kd.R_tight rfl HO_493001.out); (case side7 => exact fun k_ e_ => by have z_ := HO_493001.out.1 k_ e_.symm; simp only [ne_eq] at z_; simp only [z_, not_false_eq_true]); (case side8 => exact fun k_ e_ => by have z_ := HO_493001.out.1 k_ e_.symm; simp only [ne_eq] at z_; simp only [z_, not_false_eq_true]); (case side9 => exact fun k_ e_ => by have z_ := HO_493001.out.1 k_ e_.symm; simp only [ne_eq] at z_; simp only [z_, not_false_eq_true]); (case side10 => exact Kd.R_tight rfl HO_493002.out); (case side11 => exact fun k_ e_ => by have z_ := HO_493002.out.1 k_ e_.symm; simp only [ne_eq] at z_; simp only [z_, not_false_eq_true]); (case side12 => exact fun k_ e_ => by have z_ := HO_493002.out.1 k_ e_.symm; simp only [ne_eq] at z_; simp only [z_, not_false_eq_true]); (case side13 => exact fun k_ e_ => by have z_ := HO_493002.out.1 k_ e_.symm; simp only [ne_eq] at z_; simp only [z_, not_false_eq_true]); (case side14 => exact Kd.R_tight rfl HO_493003.out); (case side15 => exact fun k_ e_ => by have z_ := HO_493003.out.1 k_ e_.symm; simp only [ne_eq] at z_; simp only [z_, not_false_eq_true]); (case side16 => exact fun k_ e_ => by have z_ := HO_493003.out.1 k_ e_.symm; simp only [ne_eq] at z_; simp only [z_, not_false_eq_true]); (case side17 => exact fun k_ e_ => by have z_ := HO_493003.out.1 k_ e_.symm; simp only [ne_eq] at z_; simp only [z_, not_false_eq_true]); rintro e w84 ⟨rfl, hy0, hy1, hy2, hy3, hb, hkp⟩; refine ⟨_, rfl, ?_⟩; replace HO_480000 := am (Kd.R_kept (HO_480000.out) hkp (fun k_ hk_ hs_ => by simp only [ne_eq] at hk_; simp only [hk_, or_self] at hs_)); replace HO_480001 := am (Kd.R_kept (HO_480001.out) hkp (fun k_ hk_ hs_ => by simp only [ne_eq] at hk_; simp only [hk_, or_self] at hs_)); replace HO_480002 := am (Kd.R_kept (HO_480002.out) hkp (fun k_ hk_ hs_ => by simp only [ne_eq] at hk_; simp only [hk_, or_self] at hs_)); replace HO_480003 := am (Kd.R_kept (HO_480003.out) hkp (fun k_ hk_ hs_ => by simp only [ne_eq] at hk_; simp only [hk_, or_self] at hs_)); replace HO_507000 := am (Kd.R_kept (HO_507000.out) hkp (fun k_ hk_ hs_ => by simp only [ne_eq] at hk_; simp only [hk_, or_self] at hs_)); replace HO_507001 := am (Kd.R_kept (HO_507001.out) hkp (fun k_ hk_ hs_ => by simp only [ne_eq] at hk_; simp only [hk_, or_self] at hs_)); replace HO_507002 := am (Kd.R_kept (HO_507002.out) hkp (fun k_ hk_ hs_ => by simp only [ne_eq] at hk_; simp only [hk_, or_self] at hs_)); replace HO_507003 := am (Kd.R_kept (HO_507003.out) hkp (fun k_ hk_ hs_ => by simp only [ne_eq] at hk_; simp only [hk_, or_self] at hs_)); replace BK452 := am (blk_kept (kl BK452.out) hkp (fun hs_ => Or.elim hs_ (fun e_ => (fun e_ => (Kd.R_ne HO_493000.out BK452.out (by decide)) e_) e_) (fun e_ => Or.elim e_ (fun e_ => (fun e_ => (Kd.R_ne HO_493001.out BK452.out (by decide)) e_) e_) (fun e_ => Or.elim e_ (fun e_ => (fun e_ => (Kd.R_ne HO_493002.out BK452.out (by decide)) e_) e_) (fun e_ => (fun e_ => (Kd.R_ne HO_493003.out BK452.out (by decide)) e_) e_))))); replace BK479 := am (blk_kept (kl BK479.out) hkp (fun hs_ => Or.elim hs_ (fun e_ => (fun e_ => (Kd.R_ne HO_493000.out BK479.out (by decide)) e_) e_) (fun e_ => Or.elim e_ (fun e_ => (fun e_ => (Kd.R_ne HO_493001.out BK479.out (by decide)) e_) e_) (fun e_ => Or.elim e_ (fun e_ => (fun e_ => (Kd.R_ne HO_493002.out BK479.out (by decide)) e_) e_) (fun e_ => (fun e_ => (Kd.R_ne HO_493003.out BK479.out (by decide)) e_) e_))))); replace BK492 := am (blk_kept (kl BK492.out) hkp (fun hs_ => Or.elim hs_ (fun e_ => (fun e_ => (Kd.R_ne HO_493000.out BK492.out (by decide)) e_) e_) (fun e_ => Or.elim e_ (fun e_ => (fun e_ => (Kd.R_ne HO_493001.out BK492.out (by decide)) e_) e_) (fun e_ => Or.elim e_ (fun e_ => (fun e_ => (Kd.R_ne HO_493002.out BK492.out (by decide)) e_) e_) (fun e_ => (fun e_ => (Kd.R_ne HO_493003.out BK492.out (by decide)) e_) e_))))); replace BK506 := am (blk_kept (kl BK506.out) hkp (fun hs_ => Or.elim hs_ (fun e_ => (fun e_ => (Kd.R_ne HO_493000.out BK506.out (by decide)) e_) e_) (fun e_ => Or.elim e_ (fun e_ => (fun e_ => (Kd.R_ne HO_493001.out BK506.out (by decide)) e_) e_) (fun e_ => Or.elim e_ (fun e_ => (fun e_ => (Kd.R_ne HO_493002.out BK506.out (by decide)) e_) e_) (fun e_ => (fun e_ => (Kd.R_ne HO_493003.out BK506.out (by decide)) e_) e_))))); replace HO_493000 := am (Kd.R_reok rfl hy0 (fun k_ e_ => HO_493000.out.1 k_ e_)); replace HO_493001 := am (Kd.R_reok rfl hy1 (fun k_ e_ => HO_493001.out.1 k_ e_)); replace HO_493002 := am (Kd.R_reok rfl hy2 (fun k_ e_ => HO_493002.out.1 k_ e_)); replace HO_493003 := am (Kd.R_reok rfl hy3 (fun k_ e_ => HO_493003.out.1 k_ e_)); replace HO510 := am (Kd.R_kept (HO510.out) hkp (fun k_ hk_ hs_ => by simp only [ne_eq] at hk_; simp only [hk_, or_self] at hs_)); replace HO513 := am (Kd.R_kept (HO513.out) hkp (fun k_ hk_ hs_ => by simp only [ne_eq] at hk_; simp only [hk_, or_self] at hs_)); replace HO516 := am (Kd.R_kept (HO516.out) hkp (fun k_ hk_ hs_ => by simp only [ne_eq] at hk_; simp only [hk_, or_self] at hs_)); replace HO519 := am (Kd.R_kept (HO519.out) hkp (fun k_ hk_ hs_ => by simp only [ne_eq] at hk_; simp only [hk_, or_self] at hs_)); replace HB := am (hb); (try clear hb); (try clear hkp); (try clear hy0); (try clear hy1); (try clear hy2); (try clear hy3)))
      (try simp only [Act.put, List.setIfInBounds_toArray, List.set_cons_zero, List.set_cons_succ])
      go_cut [61] (fun v61 wc => ∃ (kq : Nat) (x61_71 : Bool), v61 = .bool x61_71 ∧ Aside0 (laws_FnExactShadeRoots.j1 kq t478 x61_71 l0_0 l0_1 l0_2 l0_3 t466 t469 t472 t475 t493 t496 t499 t502 = some r) ∧ Aside0 (kq ≤ kj10) ∧ Aside0 (Kd.R (Kd.int .i64) 3 wc w.heap.size (fun k_ => some k_ ≠ ((.slice Ao26 t469.length co26) : Value).ownBlock ∧ some k_ ≠ ((.slice Ao27 t472.length co27) : Value).ownBlock ∧ some k_ ≠ ((.slice Ao28 t475.length co28) : Value).ownBlock ∧ some k_ ≠ ((.slice Ao41 t493.length co41) : Value).ownBlock ∧ some k_ ≠ ((.slice Ao46 t496.length co46) : Value).ownBlock ∧ some k_ ≠ ((.slice Ao47 t499.length co47) : Value).ownBlock ∧ some k_ ≠ ((.slice Ao48 t502.length co48) : Value).ownBlock) (.slice Ao23 t466.length co23) t466) ∧ Aside0 (Kd.R (Kd.int .i64) 3 wc w.heap.size (fun k_ => some k_ ≠ ((.slice Ao23 t466.length co23) : Value).ownBlock ∧ some k_ ≠ ((.slice Ao27 t472.length co27) : Value).ownBlock ∧ some k_ ≠ ((.slice Ao28 t475.length co28) : Value).ownBlock ∧ some k_ ≠ ((.slice Ao41 t493.length co41) : Value).ownBlock ∧ some k_ ≠ ((.slice Ao46 t496.length co46) : Value).ownBlock ∧ some k_ ≠ ((.slice Ao47 t499.length co47) : Value).ownBlock ∧ some k_ ≠ ((.slice Ao48 t502.length co48) : Value).ownBlock) (.slice Ao26 t469.length co26) t469) ∧ Aside0 (Kd.R (Kd.int .i64) 3 wc w.heap.size (fun k_ => some k_ ≠ ((.slice Ao23 t466.length co23) : Value).ownBlock ∧ some k_ ≠ ((.slice Ao26 t469.length co26) : Value).ownBlock ∧ some k_ ≠ ((.slice Ao28 t475.length co28) : Value).ownBlock ∧ some k_ ≠ ((.slice Ao41 t493.length co41) : Value).ownBlock ∧ some k_ ≠ ((.slice Ao46 t496.length co46) : Value).ownBlock ∧ some k_ ≠ ((.slice Ao47 t499.length co47) : Value).ownBlock ∧ some k_ ≠ ((.slice Ao48 t502.length co48) : Value).ownBlock) (.slice Ao27 t472.length co27) t472) ∧ Aside0 (Kd.R (Kd.int .i64) 3 wc w.heap.size (fun k_ => some k_ ≠ ((.slice Ao23 t466.length co23) : Value).ownBlock ∧ some k_ ≠ ((.slice Ao26 t469.length co26) : Value).ownBlock ∧ some k_ ≠ ((.slice Ao27 t472.length co27) : Value).ownBlock ∧ some k_ ≠ ((.slice Ao41 t493.length co41) : Value).ownBlock ∧ some k_ ≠ ((.slice Ao46 t496.length co46) : Value).ownBlock ∧ some k_ ≠ ((.slice Ao47 t499.length co47) : Value).ownBlock ∧ some k_ ≠ ((.slice Ao48 t502.length co48) : Value).ownBlock) (.slice Ao28 t475.length co28) t475) ∧ Aside0 (Kd.R (Kd.int .i64) 3 wc w.heap.size (fun k_ => some k_ ≠ ((.slice Ao23 t466.length co23) : Value).ownBlock ∧ some k_ ≠ ((.slice Ao26 t469.length co26) : Value).ownBlock ∧ some k_ ≠ ((.slice Ao27 t472.length co27) : Value).ownBlock ∧ some k_ ≠ ((.slice Ao28 t475.length co28) : Value).ownBlock ∧ some k_ ≠ ((.slice Ao46 t496.length co46) : Value).ownBlock ∧ some k_ ≠ ((.slice Ao47 t499.length co47) : Value).ownBlock ∧ some k_ ≠ ((.slice Ao48 t502.length co48) : Value).ownBlock) (.slice Ao41 t493.length co41) t493) ∧ Aside0 (Kd.R (Kd.int .i64) 3 wc w.heap.size (fun k_ => some k_ ≠ ((.slice Ao23 t466.length co23) : Value).ownBlock ∧ some k_ ≠ ((.slice Ao26 t469.length co26) : Value).ownBlock ∧ some k_ ≠ ((.slice Ao27 t472.length co27) : Value).ownBlock ∧ some k_ ≠ ((.slice Ao28 t475.length co28) : Value).ownBlock ∧ some k_ ≠ ((.slice Ao41 t493.length co41) : Value).ownBlock ∧ some k_ ≠ ((.slice Ao47 t499.length co47) : Value).ownBlock ∧ some k_ ≠ ((.slice Ao48 t502.length co48) : Value).ownBlock) (.slice Ao46 t496.length co46) t496) ∧ Aside0 (Kd.R (Kd.int .i64) 3 wc w.heap.size (fun k_ => some k_ ≠ ((.slice Ao23 t466.length co23) : Value).ownBlock ∧ some k_ ≠ ((.slice Ao26 t469.length co26) : Value).ownBlock ∧ some k_ ≠ ((.slice Ao27 t472.length co27) : Value).ownBlock ∧ some k_ ≠ ((.slice Ao28 t475.length co28) : Value).ownBlock ∧ some k_ ≠ ((.slice Ao41 t493.length co41) : Value).ownBlock ∧ some k_ ≠ ((.slice Ao46 t496.length co46) : Value).ownBlock ∧ some k_ ≠ ((.slice Ao48 t502.length co48) : Value).ownBlock) (.slice Ao47 t499.length co47) t499) ∧ Aside0 (Kd.R (Kd.int .i64) 3 wc w.heap.size (fun k_ => some k_ ≠ ((.slice Ao23 t466.length co23) : Value).ownBlock ∧ some k_ ≠ ((.slice Ao26 t469.length co26) : Value).ownBlock ∧ some k_ ≠ ((.slice Ao27 t472.length co27) : Value).ownBlock ∧ some k_ ≠ ((.slice Ao28 t475.length co28) : Value).ownBlock ∧ some k_ ≠ ((.slice Ao41 t493.length co41) : Value).ownBlock ∧ some k_ ≠ ((.slice Ao46 t496.length co46) : Value).ownBlock ∧ some k_ ≠ ((.slice Ao47 t499.length co47) : Value).ownBlock) (.slice Ao48 t502.length co48) t502) ∧ Aside0 (wc.heap[gb452]? = some (.cells #[(.slice A0_0 l0_0.length c0_0), (.slice A0_1 l0_1.length c0_1), (.slice A0_2 l0_2.length c0_2), (.slice A0_3 l0_3.length c0_3)] 26 (0, 0))) ∧ Aside0 (wc.heap[gb479]? = some (.cells #[(.slice Ao23 t466.length co23), (.slice Ao26 t469.length co26), (.slice Ao27 t472.length co27), (.slice Ao28 t475.length co28)] 30 (0, 0))) ∧ Aside0 (wc.heap[gb506]? = some (.cells #[(.slice Ao41 t493.length co41), (.slice Ao46 t496.length co46), (.slice Ao47 t499.length co47), (.slice Ao48 t502.length co48)] 30 (0, 0))) ∧ Aside0 (Below w.heap.size w wc))
      case first =>
       have H := HC72.out
       clear HC72
       by_cases c85 : t521 < 0
       ·rw [if_pos c85] at H
        have c85b0 : decide (t521 < 0) = true := decide_eq_true c85
        clear c85
        (first | rw [c85b0] | (simp only [i64_w, i32_w]; rw [c85b0]) | skip)
        have H' := am H
        clear H
        go_wp2
        go_meet
        case rel => exact ⟨_, (true), (by first | rfl | (simp; done) | (simp [*]; done)), H', ⟨by have := HJ10.out; first | omega | exact Nat.le_refl _⟩, ⟨rl (Kd.R_mono HO_480000.out (fun _ hk => by simp only [ne_eq] at hk ⊢; simp only [hk, not_false_eq_true, and_self]))⟩, ⟨rl (Kd.R_mono HO_480001.out (fun _ hk => by simp only [ne_eq] at hk ⊢; simp only [hk, not_false_eq_true, and_self]))⟩, ⟨rl (Kd.R_mono HO_480002.out (fun _ hk => by simp only [ne_eq] at hk ⊢; simp only [hk, not_false_eq_true, and_self]))⟩, ⟨rl (Kd.R_mono HO_480003.out (fun _ hk => by simp only [ne_eq] at hk ⊢; simp only [hk, not_false_eq_true, and_self]))⟩, ⟨rl (Kd.R_mono HO_507000.out (fun _ hk => by simp only [ne_eq] at hk ⊢; simp only [hk, not_false_eq_true, and_self]))⟩, ⟨rl (Kd.R_mono HO_507001.out (fun _ hk => by simp only [ne_eq] at hk ⊢; simp only [hk, not_false_eq_true, and_self]))⟩, ⟨rl (Kd.R_mono HO_507002.out (fun _ hk => by simp only [ne_eq] at hk ⊢; simp only [hk, not_false_eq_true, and_self]))⟩, ⟨rl (Kd.R_mono HO_507003.out (fun _ hk => by simp only [ne_eq] at hk ⊢; simp only [hk, not_false_eq_true, and_self]))⟩, ⟨kl BK452.out⟩, ⟨kl BK479.out⟩, ⟨kl BK506.out⟩, ⟨by exact bs4 GE452.out GE479.out GE492.out GE506.out HB.out⟩⟩
       ·rw [if_neg c85] at H
        have c85b0 : decide (t521 < 0) = false := decide_eq_false c85
        clear c85
        (first | rw [c85b0] | (simp only [i64_w, i32_w]; rw [c85b0]) | skip)
        replace H := Option.bind_eq_some_iff.mp H
        obtain ⟨t526, A860, H⟩ := H
        replace H : (if t526 = true then (laws_FnExactShadeRoots.j1 kj10 t478 (t505 != t478) l0_0 l0_1 l0_2 l0_3 t466 t469 t472 t475 t493 t496 t499 t502) else (laws_FnExactShadeRoots.j1 kj10 t478 true l0_0 l0_1 l0_2 l0_3 t466 t469 t472 t475 t493 t496 t499 t502)) = some r := H
        have A86 := am A860
        clear A860
        by_cases c87 : t526 = true
        ·subst c87
         have H1 : (laws_FnExactShadeRoots.j1 kj10 t478 (t505 != t478) l0_0 l0_1 l0_2 l0_3 t466 t469 t472 t475 t493 t496 t499 t502) = some r := by rw [if_pos rfl] at H; exact H
         clear H
         have H := H1
         clear H1
         have H' := am H
         clear H
         have hnb88 := NB506_452.out
         have hnc88 := NB452_506.out
         have hnb89 := NB506_479.out
         have hnc89 := NB479_506.out
         have hnb90 := NB506_492.out
         have hnc90 := NB492_506.out
         have hcz91_0 : w84.cell? ⟨gb506, 0, none⟩ = some (.slice Ao41 t493.length co41) := (blk_cell BK506.out 0).trans rfl
         have hcz91_1 : w84.cell? ⟨gb506, 1, none⟩ = some (.slice Ao46 t496.length co46) := (blk_cell BK506.out 1).trans rfl
         have hcz91_2 : w84.cell? ⟨gb506, 2, none⟩ = some (.slice Ao47 t499.length co47) := (blk_cell BK506.out 2).trans rfl
         have hcz91_3 : w84.cell? ⟨gb506, 3, none⟩ = some (.slice Ao48 t502.length co48) := (blk_cell BK506.out 3).trans rfl
         have hfz91_0 := blk_frozen BK506.out 0
         have hfz91_1 := blk_frozen BK506.out 1
         have hfz91_2 := blk_frozen BK506.out 2
         have hfz91_3 := blk_frozen BK506.out 3
         have hnb92 := NB479_452.out
         have hnc92 := NB452_479.out
         have hnb93 := NB479_492.out
         have hnc93 := NB492_479.out
         have hcz94_0 : w84.cell? ⟨gb479, 0, none⟩ = some (.slice Ao23 t466.length co23) := (blk_cell BK479.out 0).trans rfl
         have hcz94_1 : w84.cell? ⟨gb479, 1, none⟩ = some (.slice Ao26 t469.length co26) := (blk_cell BK479.out 1).trans rfl
         have hcz94_2 : w84.cell? ⟨gb479, 2, none⟩ = some (.slice Ao27 t472.length co27) := (blk_cell BK479.out 2).trans rfl
         have hcz94_3 : w84.cell? ⟨gb479, 3, none⟩ = some (.slice Ao28 t475.length co28) := (blk_cell BK479.out 3).trans rfl
         have hfz94_0 := blk_frozen BK479.out 0
         have hfz94_1 := blk_frozen BK479.out 1
         have hfz94_2 := blk_frozen BK479.out 2
         have hfz94_3 := blk_frozen BK479.out 3
         go_wp2_with (first | (go_at_call 21; (with_reducible refine (laws_eqColored.calls kj10 _ _ t493 _ _ t496 _ _ t499 _ _ t502 _ _ t466 _ _ t469 _ _ t472 _ _ t475 true _ ?side1 ?side2 ?side3 ?side4 ?side5 ?side6 ?side7 ?side8 ?side9 ?side10 ?side11 ?side12 ?side13 ?side14 ?side15 ?side16 A86.out).mono ?_); (case side1 => exact cl ((Kd.R_reads' HO_507000.out).2.2)); (case side2 => exact (Kd.R_reads' HO_507000.out).2.1); (case side3 => exact cl ((Kd.R_reads' HO_507001.out).2.2)); (case side4 => exact (Kd.R_reads' HO_507001.out).2.1); (case side5 => exact cl ((Kd.R_reads' HO_507002.out).2.2)); (case side6 => exact (Kd.R_reads' HO_507002.out).2.1); (case side7 => exact cl ((Kd.R_reads' HO_507003.out).2.2)); (case side8 => exact (Kd.R_reads' HO_507003.out).2.1); (case side9 => exact cl ((Kd.R_reads' HO_480000.out).2.2)); (case side10 => exact (Kd.R_reads' HO_480000.out).2.1); (case side11 => exact cl ((Kd.R_reads' HO_480001.out).2.2)); (case side12 => exact (Kd.R_reads' HO_480001.out).2.1); (case side13 => exact cl ((Kd.R_reads' HO_480002.out).2.2)); (case side14 => exact (Kd.R_reads' HO_480002.out).2.1); (case side15 => exact cl ((Kd.R_reads' HO_480003.out).2.2)); (case side16 => exact (Kd.R_reads' HO_480003.out).2.1); rintro e w95 ⟨rfl, hb⟩; replace HO_480000 := am (Kd.R_below (rl HO_480000.out) hb); replace HO_480001 := am (Kd.R_below (rl HO_480001.out) hb); replace HO_480002 := am (Kd.R_below (rl HO_480002.out) hb); replace HO_480003 := am (Kd.R_below (rl HO_480003.out) hb); replace HO_493000 := am (Kd.R_below (rl HO_493000.out) hb); replace HO_493001 := am (Kd.R_below (rl HO_493001.out) hb); replace HO_493002 := am (Kd.R_below (rl HO_493002.out) hb); replace HO_493003 := am (Kd.R_below (rl HO_493003.out) hb); replace HO_507000 := am (Kd.R_below (rl HO_507000.out) hb); replace HO_507001 := am (Kd.R_below (rl HO_507001.out) hb); replace HO_507002 := am (Kd.R_below (rl HO_507002.out) hb); replace HO_507003 := am (Kd.R_below (rl HO_507003.out) hb); replace HO510 := am (Kd.R_below (rl HO510.out) hb); replace HO513 := am (Kd.R_below (rl HO513.out) hb); replace HO516 := am (Kd.R_below (rl HO516.out) hb); replace HO519 := am (Kd.R_below (rl HO519.out) hb); replace BK452 := am (blk_below (g := gb452) (o := .cells #[.slice A0_0 l0_0.length c0_0, .slice A0_1 l0_1.length c0_1, .slice A0_2 l0_2.length c0_2, .slice A0_3 l0_3.length c0_3] 26 (0, 0)) (kl BK452.out) hb); replace BK479 := am (blk_below (g := gb479) (o := .cells #[.slice Ao23 t466.length co23, .slice Ao26 t469.length co26, .slice Ao27 t472.length co27, .slice Ao28 t475.length co28] 30 (0, 0)) (kl BK479.out) hb); replace BK492 := am (blk_below (g := gb492) (o := .cells #[.slice Ao32 t480.length co32, .slice Ao36 t483.length co36, .slice Ao37 t486.length co37, .slice Ao38 t489.length co38] 30 (0, 0)) (kl BK492.out) hb); replace BK506 := am (blk_below (g := gb506) (o := .cells #[.slice Ao41 t493.length co41, .slice Ao46 t496.length co46, .slice Ao47 t499.length co47, .slice Ao48 t502.length co48] 30 (0, 0)) (kl BK506.out) hb); replace HB := am (below_step (bs4 GE452.out GE479.out GE492.out GE506.out HB.out) hb); (try clear hb); (try clear hb2); (try clear hk); (try clear hi)))
         go_meet
         case rel => exact ⟨_, ((t505 != t478)), (by first | rfl | (simp; done) | (simp [*]; done)), H', ⟨by have := HJ10.out; first | omega | exact Nat.le_refl _⟩, ⟨rl (Kd.R_mono HO_480000.out (fun _ hk => by simp only [ne_eq] at hk ⊢; simp only [hk, not_false_eq_true, and_self]))⟩, ⟨rl (Kd.R_mono HO_480001.out (fun _ hk => by simp only [ne_eq] at hk ⊢; simp only [hk, not_false_eq_true, and_self]))⟩, ⟨rl (Kd.R_mono HO_480002.out (fun _ hk => by simp only [ne_eq] at hk ⊢; simp only [hk, not_false_eq_true, and_self]))⟩, ⟨rl (Kd.R_mono HO_480003.out (fun _ hk => by simp only [ne_eq] at hk ⊢; simp only [hk, not_false_eq_true, and_self]))⟩, ⟨rl (Kd.R_mono HO_507000.out (fun _ hk => by simp only [ne_eq] at hk ⊢; simp only [hk, not_false_eq_true, and_self]))⟩, ⟨rl (Kd.R_mono HO_507001.out (fun _ hk => by simp only [ne_eq] at hk ⊢; simp only [hk, not_false_eq_true, and_self]))⟩, ⟨rl (Kd.R_mono HO_507002.out (fun _ hk => by simp only [ne_eq] at hk ⊢; simp only [hk, not_false_eq_true, and_self]))⟩, ⟨rl (Kd.R_mono HO_507003.out (fun _ hk => by simp only [ne_eq] at hk ⊢; simp only [hk, not_false_eq_true, and_self]))⟩, ⟨kl BK452.out⟩, ⟨kl BK479.out⟩, ⟨kl BK506.out⟩, ⟨by exact bs4 GE452.out GE479.out GE492.out GE506.out HB.out⟩⟩
        ·replace c87 := Bool.eq_false_iff.mpr c87
         subst c87
         have H1 : (laws_FnExactShadeRoots.j1 kj10 t478 true l0_0 l0_1 l0_2 l0_3 t466 t469 t472 t475 t493 t496 t499 t502) = some r := by rw [if_neg (show ¬ (false = true) by decide)] at H; exact H
         clear H
         have H := H1
         clear H1
         have H' := am H
         clear H
         have hnb96 := NB506_452.out
         have hnc96 := NB452_506.out
         have hnb97 := NB506_479.out
         have hnc97 := NB479_506.out
         have hnb98 := NB506_492.out
         have hnc98 := NB492_506.out
         have hcz99_0 : w84.cell? ⟨gb506, 0, none⟩ = some (.slice Ao41 t493.length co41) := (blk_cell BK506.out 0).trans rfl
         have hcz99_1 : w84.cell? ⟨gb506, 1, none⟩ = some (.slice Ao46 t496.length co46) := (blk_cell BK506.out 1).trans rfl
         have hcz99_2 : w84.cell? ⟨gb506, 2, none⟩ = some (.slice Ao47 t499.length co47) := (blk_cell BK506.out 2).trans rfl
         have hcz99_3 : w84.cell? ⟨gb506, 3, none⟩ = some (.slice Ao48 t502.length co48) := (blk_cell BK506.out 3).trans rfl
         have hfz99_0 := blk_frozen BK506.out 0
         have hfz99_1 := blk_frozen BK506.out 1
         have hfz99_2 := blk_frozen BK506.out 2
         have hfz99_3 := blk_frozen BK506.out 3
         have hnb100 := NB479_452.out
         have hnc100 := NB452_479.out
         have hnb101 := NB479_492.out
         have hnc101 := NB492_479.out
         have hcz102_0 : w84.cell? ⟨gb479, 0, none⟩ = some (.slice Ao23 t466.length co23) := (blk_cell BK479.out 0).trans rfl
         have hcz102_1 : w84.cell? ⟨gb479, 1, none⟩ = some (.slice Ao26 t469.length co26) := (blk_cell BK479.out 1).trans rfl
         have hcz102_2 : w84.cell? ⟨gb479, 2, none⟩ = some (.slice Ao27 t472.length co27) := (blk_cell BK479.out 2).trans rfl
         have hcz102_3 : w84.cell? ⟨gb479, 3, none⟩ = some (.slice Ao28 t475.length co28) := (blk_cell BK479.out 3).trans rfl
         have hfz102_0 := blk_frozen BK479.out 0
         have hfz102_1 := blk_frozen BK479.out 1
         have hfz102_2 := blk_frozen BK479.out 2
         have hfz102_3 := blk_frozen BK479.out 3
         go_wp2_with (first | (go_at_call 21; (with_reducible refine (laws_eqColored.calls kj10 _ _ t493 _ _ t496 _ _ t499 _ _ t502 _ _ t466 _ _ t469 _ _ t472 _ _ t475 false _ ?side1 ?side2 ?side3 ?side4 ?side5 ?side6 ?side7 ?side8 ?side9 ?side10 ?side11 ?side12 ?side13 ?side14 ?side15 ?side16 A86.out).mono ?_); (case side1 => exact cl ((Kd.R_reads' HO_507000.out).2.2)); (case side2 => exact (Kd.R_reads' HO_507000.out).2.1); (case side3 => exact cl ((Kd.R_reads' HO_507001.out).2.2)); (case side4 => exact (Kd.R_reads' HO_507001.out).2.1); (case side5 => exact cl ((Kd.R_reads' HO_507002.out).2.2)); (case side6 => exact (Kd.R_reads' HO_507002.out).2.1); (case side7 => exact cl ((Kd.R_reads' HO_507003.out).2.2)); (case side8 => exact (Kd.R_reads' HO_507003.out).2.1); (case side9 => exact cl ((Kd.R_reads' HO_480000.out).2.2)); (case side10 => exact (Kd.R_reads' HO_480000.out).2.1); (case side11 => exact cl ((Kd.R_reads' HO_480001.out).2.2)); (case side12 => exact (Kd.R_reads' HO_480001.out).2.1); (case side13 => exact cl ((Kd.R_reads' HO_480002.out).2.2)); (case side14 => exact (Kd.R_reads' HO_480002.out).2.1); (case side15 => exact cl ((Kd.R_reads' HO_480003.out).2.2)); (case side16 => exact (Kd.R_reads' HO_480003.out).2.1); rintro e w103 ⟨rfl, hb⟩; replace HO_480000 := am (Kd.R_below (rl HO_480000.out) hb); replace HO_480001 := am (Kd.R_below (rl HO_480001.out) hb); replace HO_480002 := am (Kd.R_below (rl HO_480002.out) hb); replace HO_480003 := am (Kd.R_below (rl HO_480003.out) hb); replace HO_493000 := am (Kd.R_below (rl HO_493000.out) hb); replace HO_493001 := am (Kd.R_below (rl HO_493001.out) hb); replace HO_493002 := am (Kd.R_below (rl HO_493002.out) hb); replace HO_493003 := am (Kd.R_below (rl HO_493003.out) hb); replace HO_507000 := am (Kd.R_below (rl HO_507000.out) hb); replace HO_507001 := am (Kd.R_below (rl HO_507001.out) hb); replace HO_507002 := am (Kd.R_below (rl HO_507002.out) hb); replace HO_507003 := am (Kd.R_below (rl HO_507003.out) hb); replace HO510 := am (Kd.R_below (rl HO510.out) hb); replace HO513 := am (Kd.R_below (rl HO513.out) hb); replace HO516 := am (Kd.R_below (rl HO516.out) hb); replace HO519 := am (Kd.R_below (rl HO519.out) hb); replace BK452 := am (blk_below (g := gb452) (o := .cells #[.slice A0_0 l0_0.length c0_0, .slice A0_1 l0_1.length c0_1, .slice A0_2 l0_2.length c0_2, .slice A0_3 l0_3.length c0_3] 26 (0, 0)) (kl BK452.out) hb); replace BK479 := am (blk_below (g := gb479) (o := .cells #[.slice Ao23 t466.length co23, .slice Ao26 t469.length co26, .slice Ao27 t472.length co27, .slice Ao28 t475.length co28] 30 (0, 0)) (kl BK479.out) hb); replace BK492 := am (blk_below (g := gb492) (o := .cells #[.slice Ao32 t480.length co32, .slice Ao36 t483.length co36, .slice Ao37 t486.length co37, .slice Ao38 t489.length co38] 30 (0, 0)) (kl BK492.out) hb); replace BK506 := am (blk_below (g := gb506) (o := .cells #[.slice Ao41 t493.length co41, .slice Ao46 t496.length co46, .slice Ao47 t499.length co47, .slice Ao48 t502.length co48] 30 (0, 0)) (kl BK506.out) hb); replace HB := am (below_step (bs4 GE452.out GE479.out GE492.out GE506.out HB.out) hb); (try clear hb); (try clear hb2); (try clear hk); (try clear hi)))
         go_meet
         case rel => exact ⟨_, (true), (by first | rfl | (simp; done) | (simp [*]; done)), H', ⟨by have := HJ10.out; first | omega | exact Nat.le_refl _⟩, ⟨rl (Kd.R_mono HO_480000.out (fun _ hk => by simp only [ne_eq] at hk ⊢; simp only [hk, not_false_eq_true, and_self]))⟩, ⟨rl (Kd.R_mono HO_480001.out (fun _ hk => by simp only [ne_eq] at hk ⊢; simp only [hk, not_false_eq_true, and_self]))⟩, ⟨rl (Kd.R_mono HO_480002.out (fun _ hk => by simp only [ne_eq] at hk ⊢; simp only [hk, not_false_eq_true, and_self]))⟩, ⟨rl (Kd.R_mono HO_480003.out (fun _ hk => by simp only [ne_eq] at hk ⊢; simp only [hk, not_false_eq_true, and_self]))⟩, ⟨rl (Kd.R_mono HO_507000.out (fun _ hk => by simp only [ne_eq] at hk ⊢; simp only [hk, not_false_eq_true, and_self]))⟩, ⟨rl (Kd.R_mono HO_507001.out (fun _ hk => by simp only [ne_eq] at hk ⊢; simp only [hk, not_false_eq_true, and_self]))⟩, ⟨rl (Kd.R_mono HO_507002.out (fun _ hk => by simp only [ne_eq] at hk ⊢; simp only [hk, not_false_eq_true, and_self]))⟩, ⟨rl (Kd.R_mono HO_507003.out (fun _ hk => by simp only [ne_eq] at hk ⊢; simp only [hk, not_false_eq_true, and_self]))⟩, ⟨kl BK452.out⟩, ⟨kl BK479.out⟩, ⟨kl BK506.out⟩, ⟨by exact bs4 GE452.out GE479.out GE492.out GE506.out HB.out⟩⟩
      case rest =>
       clear HC72
       try clear c1
       try clear c2
       try clear p2
       try clear c3
       try clear c3b0
       try clear c4
       try clear c5
       try clear c6
       try clear c7
       try clear c8
       try clear c9
       try clear c10
       try clear c17
       try clear c19
       try clear c21
       try clear c22
       try clear c24
       try clear c25
       try clear c33
       try clear c34
       try clear c42
       try clear c43
       try clear c44
       try clear c50
       try clear c51
       try clear c52
       try clear c53
       try clear c55
       try clear c56
       try clear c59
       try clear c60
       try clear c61
       try clear c63
       try clear c64
       try clear c67
       try clear c70
       try clear c80
       try clear c81
       try clear c82
       try clear c85
       try clear c85b0
       try clear c87
       try clear c88
       try clear c89
       try clear c90
       try clear c92
       try clear c93
       try clear c96
       try clear c97
       try clear c98
       try clear c100
       try clear c101
       try clear hcz102_0
       try clear hcz102_1
       try clear hcz102_2
       try clear hcz102_3
       try clear hcz13_0
       try clear hcz13_1
       try clear hcz13_2
       try clear hcz13_3
       try clear hcz15_0
       try clear hcz15_1
       try clear hcz15_2
       try clear hcz15_3
       try clear hcz25_0
       try clear hcz25_1
       try clear hcz25_2
       try clear hcz25_3
       try clear hcz29_0
       try clear hcz29_1
       try clear hcz29_2
       try clear hcz29_3
       try clear hcz35_0
       try clear hcz35_1
       try clear hcz35_2
       try clear hcz35_3
       try clear hcz45_0
       try clear hcz45_1
       try clear hcz45_2
       try clear hcz45_3
       try clear hcz54_0
       try clear hcz54_1
       try clear hcz54_2
       try clear hcz54_3
       try clear hcz57_0
       try clear hcz57_1
       try clear hcz57_2
       try clear hcz57_3
       try clear hcz5_0
       try clear hcz5_1
       try clear hcz5_2
       try clear hcz5_3
       try clear hcz62_0
       try clear hcz62_1
       try clear hcz62_2
       try clear hcz62_3
       try clear hcz65_0
       try clear hcz65_1
       try clear hcz65_2
       try clear hcz65_3
       try clear hcz83_0
       try clear hcz83_1
       try clear hcz83_2
       try clear hcz83_3
       try clear hcz91_0
       try clear hcz91_1
       try clear hcz91_2
       try clear hcz91_3
       try clear hcz94_0
       try clear hcz94_1
       try clear hcz94_2
       try clear hcz94_3
       try clear hcz99_0
       try clear hcz99_1
       try clear hcz99_2
       try clear hcz99_3
       try clear hfz102_0
       try clear hfz102_1
       try clear hfz102_2
       try clear hfz102_3
       try clear hfz13_0
       try clear hfz13_1
       try clear hfz13_2
       try clear hfz13_3
       try clear hfz15_0
       try clear hfz15_1
       try clear hfz15_2
       try clear hfz15_3
       try clear hfz25_0
       try clear hfz25_1
       try clear hfz25_2
       try clear hfz25_3
       try clear hfz29_0
       try clear hfz29_1
       try clear hfz29_2
       try clear hfz29_3
       try clear hfz35_0
       try clear hfz35_1
       try clear hfz35_2
       try clear hfz35_3
       try clear hfz45_0
       try clear hfz45_1
       try clear hfz45_2
       try clear hfz45_3
       try clear hfz54_0
       try clear hfz54_1
       try clear hfz54_2
       try clear hfz54_3
       try clear hfz57_0
       try clear hfz57_1
       try clear hfz57_2
       try clear hfz57_3
       try clear hfz5_0
       try clear hfz5_1
       try clear hfz5_2
       try clear hfz5_3
       try clear hfz62_0
       try clear hfz62_1
       try clear hfz62_2
       try clear hfz62_3
       try clear hfz65_0
       try clear hfz65_1
       try clear hfz65_2
       try clear hfz65_3
       try clear hfz83_0
       try clear hfz83_1
       try clear hfz83_2
       try clear hfz83_3
       try clear hfz91_0
       try clear hfz91_1
       try clear hfz91_2
       try clear hfz91_3
       try clear hfz94_0
       try clear hfz94_1
       try clear hfz94_2
       try clear hfz94_3
       try clear hfz99_0
       try clear hfz99_1
       try clear hfz99_2
       try clear hfz99_3
       try clear p2
       obtain ⟨kq, x61_71, rfl, HA, HJ71, HO_480000, HO_480001, HO_480002, HO_480003, HO_507000, HO_507001, HO_507002, HO_507003, BK452, BK479, BK506, HB⟩ := hcut
       cases kq with
       | zero => exact absurd HA.out (by simp [laws_FnExactShadeRoots.j1])
       | succ kj71 =>
        have H := HA.out
        clear HA
        simp only [laws_FnExactShadeRoots.j1] at H
        by_cases c104 : x61_71 = true
        ·subst c104
         have H1 : (none) = some r := by rw [if_pos rfl] at H; exact H
         clear H
         have H := H1
         clear H1
         exact absurd H (by simp)
        ·replace c104 := Bool.eq_false_iff.mpr c104
         subst c104
         have H1 : ((laws_markColored.f kj71 t493 t496 t499 t502 1).bind fun bt527 => ((laws_heldColored.f kj71 bt527.2.1 bt527.2.2.1 bt527.2.2.2.1 bt527.2.2.2.2 1).bind fun t532 => (if t532 < 0 then (none) else (if t532 = bt527.1 then ((laws_toColored.f kj71 l0_0 l0_1 l0_2 l0_3).bind fun bt533 => ((impl_ShadeRoots.f kj71 bt533.1 bt533.2.1 bt533.2.2.1 bt533.2.2.2).bind fun bt545 => ((laws_eqColored.f kj71 bt545.1 bt545.2.1 bt545.2.2.1 bt545.2.2.2.1 t466 t469 t472 t475).bind fun t559 => (if t559 = true then (laws_FnExactShadeRoots.j2 kj71 bt527.1 (bt545.2.2.2.2 != t478) bt527.2.1 bt527.2.2.1 bt527.2.2.2.1 bt527.2.2.2.2) else (laws_FnExactShadeRoots.j2 kj71 bt527.1 true bt527.2.1 bt527.2.2.1 bt527.2.2.2.1 bt527.2.2.2.2))))) else (none))))) = some r := by rw [if_neg (show ¬ (false = true) by decide)] at H; exact H
         clear H
         have H := H1
         clear H1
         replace H := Option.bind_eq_some_iff.mp H
         obtain ⟨⟨t527, t528, t529, t530, t531⟩, A1050, H⟩ := H
         replace H : ((laws_heldColored.f kj71 t528 t529 t530 t531 1).bind fun t532 => (if t532 < 0 then (none) else (if t532 = t527 then ((laws_toColored.f kj71 l0_0 l0_1 l0_2 l0_3).bind fun bt533 => ((impl_ShadeRoots.f kj71 bt533.1 bt533.2.1 bt533.2.2.1 bt533.2.2.2).bind fun bt545 => ((laws_eqColored.f kj71 bt545.1 bt545.2.1 bt545.2.2.1 bt545.2.2.2.1 t466 t469 t472 t475).bind fun t559 => (if t559 = true then (laws_FnExactShadeRoots.j2 kj71 t527 (bt545.2.2.2.2 != t478) t528 t529 t530 t531) else (laws_FnExactShadeRoots.j2 kj71 t527 true t528 t529 t530 t531))))) else (none)))) = some r := H
         have A105 := am A1050
         clear A1050
         replace H := Option.bind_eq_some_iff.mp H
         obtain ⟨t532, A1060, H⟩ := H
         replace H : (if t532 < 0 then (none) else (if t532 = t527 then ((laws_toColored.f kj71 l0_0 l0_1 l0_2 l0_3).bind fun bt533 => ((impl_ShadeRoots.f kj71 bt533.1 bt533.2.1 bt533.2.2.1 bt533.2.2.2).bind fun bt545 => ((laws_eqColored.f kj71 bt545.1 bt545.2.1 bt545.2.2.1 bt545.2.2.2.1 t466 t469 t472 t475).bind fun t559 => (if t559 = true then (laws_FnExactShadeRoots.j2 kj71 t527 (bt545.2.2.2.2 != t478) t528 t529 t530 t531) else (laws_FnExactShadeRoots.j2 kj71 t527 true t528 t529 t530 t531))))) else (none))) = some r := H
         have A106 := am A1060
         clear A1060
         by_cases c107 : t532 < 0
         ·rw [if_pos c107] at H
          exact absurd H (by simp)
         ·rw [if_neg c107] at H
          have c107b0 : decide (t532 < 0) = false := decide_eq_false c107
          clear c107
          by_cases c108 : t532 = t527
          ·rw [if_pos c108] at H
           have c108b0 : (t532 == t527) = true := beq_iff_eq.mpr c108
           have c108b1 : (t532 != t527) = false := bne_eq_false_iff_eq.mpr c108
           clear c108
           replace H := Option.bind_eq_some_iff.mp H
           obtain ⟨⟨t533, t536, t539, t542⟩, A1090, H⟩ := H
           replace H : ((impl_ShadeRoots.f kj71 t533 t536 t539 t542).bind fun bt545 => ((laws_eqColored.f kj71 bt545.1 bt545.2.1 bt545.2.2.1 bt545.2.2.2.1 t466 t469 t472 t475).bind fun t559 => (if t559 = true then (laws_FnExactShadeRoots.j2 kj71 t527 (bt545.2.2.2.2 != t478) t528 t529 t530 t531) else (laws_FnExactShadeRoots.j2 kj71 t527 true t528 t529 t530 t531)))) = some r := H
           have A109 := am A1090
           clear A1090
           replace H := Option.bind_eq_some_iff.mp H
           obtain ⟨⟨t545, t548, t551, t554, t557⟩, A1100, H⟩ := H
           replace H : ((laws_eqColored.f kj71 t545 t548 t551 t554 t466 t469 t472 t475).bind fun t559 => (if t559 = true then (laws_FnExactShadeRoots.j2 kj71 t527 (t557 != t478) t528 t529 t530 t531) else (laws_FnExactShadeRoots.j2 kj71 t527 true t528 t529 t530 t531))) = some r := H
           have A110 := am A1100
           clear A1100
           have HC111 := am H
           clear H
           have hnb112 := NB506_452.out
           have hnc112 := NB452_506.out
           have hnb113 := NB506_479.out
           have hnc113 := NB479_506.out
           have hcz114_0 : wc.cell? ⟨gb506, 0, none⟩ = some (.slice Ao41 t493.length co41) := (blk_cell BK506.out 0).trans rfl
           have hcz114_1 : wc.cell? ⟨gb506, 1, none⟩ = some (.slice Ao46 t496.length co46) := (blk_cell BK506.out 1).trans rfl
           have hcz114_2 : wc.cell? ⟨gb506, 2, none⟩ = some (.slice Ao47 t499.length co47) := (blk_cell BK506.out 2).trans rfl
           have hcz114_3 : wc.cell? ⟨gb506, 3, none⟩ = some (.slice Ao48 t502.length co48) := (blk_cell BK506.out 3).trans rfl
           have hfz114_0 := blk_frozen BK506.out 0
           have hfz114_1 := blk_frozen BK506.out 1
           have hfz114_2 := blk_frozen BK506.out 2
           have hfz114_3 := blk_frozen BK506.out 3
           go_upto_region 25 with (first | ((with_reducible refine gate_callee (f := 22) rfl ?_); refine goesL_ (some 64) rfl rfl Try.func22 (by kernel_rfl) rfl #[.agg #[.slice Ao41 t493.length co41, .slice Ao46 t496.length co46, .slice Ao47 t499.length co47, .slice Ao48 t502.length co48], .int .i64 1] rfl (by (try simp only [List.map_toArray, List.map_cons, List.map_nil]); first | done | rfl | (simp only [List.length_drop, List.length_take]; rfl)) ?_; (with_reducible refine (laws_markColored.calls kj71 (fun k_ => some k_ = (.slice Ao41 t493.length co41 : Value).ownBlock) (.slice Ao41 t493.length co41) t493 (fun k_ => some k_ = (.slice Ao46 t496.length co46 : Value).ownBlock) (.slice Ao46 t496.length co46) t496 (fun k_ => some k_ = (.slice Ao47 t499.length co47 : Value).ownBlock) (.slice Ao47 t499.length co47) t499 (fun k_ => some k_ = (.slice Ao48 t502.length co48 : Value).ownBlock) (.slice Ao48 t502.length co48) t502 1 t527 t528 t529 t530 t531 w _ ?side1 ?side2 ?side3 ?side4 ?side5 ?side6 ?side7 ?side8 ?side9 ?side10 ?side11 ?side12 ?side13 ?side14 ?side15 ?side16 ?side17 A105.out).mono ?_); (case side1 => exact bs3 GE452.out GE479.out GE506.out HB.out); (case side2 => exact Kd.R_tight rfl HO_507000.out); (case side3 => exact fun k_ e_ => by have z_ := HO_507000.out.1 k_ e_.symm; simp only [ne_eq] at z_; simp only [z_, not_false_eq_true]); (case side4 => exact fun k_ e_ => by have z_ := HO_507000.out.1 k_ e_.symm; simp only [ne_eq] at z_; simp only [z_, not_false_eq_true]); (case side5 => exact fun k_ e_ => by have z_ := HO_507000.out.1 k_ e_.symm; simp only [ne_eq] at z_; simp only [z_, not_false_eq_true]); (case side6 => exact Kd.R_tight rfl HO_507001.out); (case side7 => exact fun k_ e_ => by have z_ := HO_507001.out.1 k_ e_.symm; simp only [ne_eq] at z_; simp only [z_, not_false_eq_true]); (case side8 => exact fun k_ e_ => by have z_ := HO_507001.out.1 k_ e_.symm; simp only [ne_eq] at z_; simp only [z_, not_false_eq_true]); (case side9 => exact fun k_ e_ => by have z_ := HO_507001.out.1 k_ e_.symm; simp only [ne_eq] at z_; simp only [z_, not_false_eq_true]); (case side10 => exact Kd.R_tight rfl HO_507002.out); (case side11 => exact fun k_ e_ => by have z_ := HO_507002.out.1 k_ e_.symm; simp only [ne_eq] at z_; simp only [z_, not_false_eq_true]); (case side12 => exact fun k_ e_ => by have z_ := HO_507002.out.1 k_ e_.symm; simp only [ne_eq] at z_; simp only [z_, not_false_eq_true]); (case side13 => exact fun k_ e_ => by have z_ := HO_507002.out.1 k_ e_.symm; simp only [ne_eq] at z_; simp only [z_, not_false_eq_true]); (case side14 => exact Kd.R_tight rfl HO_507003.out); (case side15 => exact fun k_ e_ => by have z_ := HO_507003.out.1 k_ e_.symm; simp only [ne_eq] at z_; simp only [z_, not_false_eq_true]); (case side16 => exact fun k_ e_ => by have z_ := HO_507003.out.1 k_ e_.symm; simp only [ne_eq] at z_; simp only [z_, not_false_eq_true]); (case side17 => exact fun k_ e_ => by have z_ := HO_507003.out.1 k_ e_.symm; simp only [ne_eq] at z_; simp only [z_, not_false_eq_true]); rintro e w115 ⟨rfl, hy0, hy1, hy2, hy3, hb, hkp⟩; refine ⟨_, rfl, ?_⟩; replace HO_480000 := am (Kd.R_kept (HO_480000.out) hkp (fun k_ hk_ hs_ => by simp only [ne_eq] at hk_; simp only [hk_, or_self] at hs_)); replace HO_480001 := am (Kd.R_kept (HO_480001.out) hkp (fun k_ hk_ hs_ => by simp only [ne_eq] at hk_; simp only [hk_, or_self] at hs_)); replace HO_480002 := am (Kd.R_kept (HO_480002.out) hkp (fun k_ hk_ hs_ => by simp only [ne_eq] at hk_; simp only [hk_, or_self] at hs_)); replace HO_480003 := am (Kd.R_kept (HO_480003.out) hkp (fun k_ hk_ hs_ => by simp only [ne_eq] at hk_; simp only [hk_, or_self] at hs_)); replace BK452 := am (blk_kept (kl BK452.out) hkp (fun hs_ => Or.elim hs_ (fun e_ => (fun e_ => (Kd.R_ne HO_507000.out BK452.out (by decide)) e_) e_) (fun e_ => Or.elim e_ (fun e_ => (fun e_ => (Kd.R_ne HO_507001.out BK452.out (by decide)) e_) e_) (fun e_ => Or.elim e_ (fun e_ => (fun e_ => (Kd.R_ne HO_507002.out BK452.out (by decide)) e_) e_) (fun e_ => (fun e_ => (Kd.R_ne HO_507003.out BK452.out (by decide)) e_) e_))))); replace BK479 := am (blk_kept (kl BK479.out) hkp (fun hs_ => Or.elim hs_ (fun e_ => (fun e_ => (Kd.R_ne HO_507000.out BK479.out (by decide)) e_) e_) (fun e_ => Or.elim e_ (fun e_ => (fun e_ => (Kd.R_ne HO_507001.out BK479.out (by decide)) e_) e_) (fun e_ => Or.elim e_ (fun e_ => (fun e_ => (Kd.R_ne HO_507002.out BK479.out (by decide)) e_) e_) (fun e_ => (fun e_ => (Kd.R_ne HO_507003.out BK479.out (by decide)) e_) e_))))); replace BK506 := am (blk_kept (kl BK506.out) hkp (fun hs_ => Or.elim hs_ (fun e_ => (fun e_ => (Kd.R_ne HO_507000.out BK506.out (by decide)) e_) e_) (fun e_ => Or.elim e_ (fun e_ => (fun e_ => (Kd.R_ne HO_507001.out BK506.out (by decide)) e_) e_) (fun e_ => Or.elim e_ (fun e_ => (fun e_ => (Kd.R_ne HO_507002.out BK506.out (by decide)) e_) e_) (fun e_ => (fun e_ => (Kd.R_ne HO_507003.out BK506.out (by decide)) e_) e_))))); replace HO_507000 := am (Kd.R_reok rfl hy0 (fun k_ e_ => HO_507000.out.1 k_ e_)); replace HO_507001 := am (Kd.R_reok rfl hy1 (fun k_ e_ => HO_507001.out.1 k_ e_)); replace HO_507002 := am (Kd.R_reok rfl hy2 (fun k_ e_ => HO_507002.out.1 k_ e_)); replace HO_507003 := am (Kd.R_reok rfl hy3 (fun k_ e_ => HO_507003.out.1 k_ e_)); replace HB := am (hb); (try clear hb); (try clear hkp); (try clear hy0); (try clear hy1); (try clear hy2); (try clear hy3); have hcz116_0 : w115.cell? ⟨gb506, 0, none⟩ = some (.slice Ao41 t493.length co41) := (blk_cell BK506.out 0).trans rfl; have hcz116_1 : w115.cell? ⟨gb506, 1, none⟩ = some (.slice Ao46 t496.length co46) := (blk_cell BK506.out 1).trans rfl; have hcz116_2 : w115.cell? ⟨gb506, 2, none⟩ = some (.slice Ao47 t499.length co47) := (blk_cell BK506.out 2).trans rfl; have hcz116_3 : w115.cell? ⟨gb506, 3, none⟩ = some (.slice Ao48 t502.length co48) := (blk_cell BK506.out 3).trans rfl; have hfz116_0 := blk_frozen BK506.out 0; have hfz116_1 := blk_frozen BK506.out 1; have hfz116_2 := blk_frozen BK506.out 2; have hfz116_3 := blk_frozen BK506.out 3) | ((with_reducible refine gate_callee (f := 23) rfl ?_); refine goesL_ (some 67) rfl rfl Try.func23 (by kernel_rfl) rfl #[.agg #[.slice Ao41 t528.length co41, .slice Ao46 t529.length co46, .slice Ao47 t530.length co47, .slice Ao48 t531.length co48], .int .i64 1] rfl (by (try simp only [List.map_toArray, List.map_cons, List.map_nil]); first | done | (rw [show t528.length = t493.length from (Kd.R_reads' HO_507000.out).1.symm, show t529.length = t496.length from (Kd.R_reads' HO_507001.out).1.symm, show t530.length = t499.length from (Kd.R_reads' HO_507002.out).1.symm, show t531.length = t502.length from (Kd.R_reads' HO_507003.out).1.symm] <;> rfl) | rfl | (simp only [List.length_drop, List.length_take]; rfl)) ?_; (with_reducible refine (laws_heldColored.calls kj71 _ _ t528 _ _ t529 _ _ t530 _ _ t531 1 t532 _ ?side1 ?side2 ?side3 ?side4 ?side5 ?side6 ?side7 ?side8 A106.out).mono ?_); (case side1 => exact cl ((Kd.R_reads' HO_507000.out).2.2)); (case side2 => rw [show t528.length = t493.length from (Kd.R_reads' HO_507000.out).1.symm]; exact (Kd.R_reads' HO_507000.out).2.1); (case side3 => exact cl ((Kd.R_reads' HO_507001.out).2.2)); (case side4 => rw [show t529.length = t496.length from (Kd.R_reads' HO_507001.out).1.symm]; exact (Kd.R_reads' HO_507001.out).2.1); (case side5 => exact cl ((Kd.R_reads' HO_507002.out).2.2)); (case side6 => rw [show t530.length = t499.length from (Kd.R_reads' HO_507002.out).1.symm]; exact (Kd.R_reads' HO_507002.out).2.1); (case side7 => exact cl ((Kd.R_reads' HO_507003.out).2.2)); (case side8 => rw [show t531.length = t502.length from (Kd.R_reads' HO_507003.out).1.symm]; exact (Kd.R_reads' HO_507003.out).2.1); rintro e w117 ⟨rfl, hb⟩; refine ⟨_, rfl, ?_⟩; replace HO_480000 := am (Kd.R_below (rl HO_480000.out) hb); replace HO_480001 := am (Kd.R_below (rl HO_480001.out) hb); replace HO_480002 := am (Kd.R_below (rl HO_480002.out) hb); replace HO_480003 := am (Kd.R_below (rl HO_480003.out) hb); replace HO_507000 := am (Kd.R_below (rl HO_507000.out) hb); replace HO_507001 := am (Kd.R_below (rl HO_507001.out) hb); replace HO_507002 := am (Kd.R_below (rl HO_507002.out) hb); replace HO_507003 := am (Kd.R_below (rl HO_507003.out) hb); replace BK452 := am (blk_below (g := gb452) (o := .cells #[.slice A0_0 l0_0.length c0_0, .slice A0_1 l0_1.length c0_1, .slice A0_2 l0_2.length c0_2, .slice A0_3 l0_3.length c0_3] 26 (0, 0)) (kl BK452.out) hb); replace BK479 := am (blk_below (g := gb479) (o := .cells #[.slice Ao23 t466.length co23, .slice Ao26 t469.length co26, .slice Ao27 t472.length co27, .slice Ao28 t475.length co28] 30 (0, 0)) (kl BK479.out) hb); replace BK506 := am (blk_below (g := gb506) (o := .cells #[.slice Ao41 t493.length co41, .slice Ao46 t496.length co46, .slice Ao47 t499.length co47, .slice Ao48 t502.length co48] 30 (0, 0)) (kl BK506.out) hb); replace HB := am (below_step (bs3 GE452.out GE479.out GE506.out HB.out) hb); (try clear hb); (try clear hb2); (try clear hk); (try clear hi); have hnb118 := NB452_479.out; have hnc118 := NB479_452.out; have hcz119_0 : w117.cell? ⟨gb452, 0, none⟩ = some (.slice A0_0 l0_0.length c0_0) := (blk_cell BK452.out 0).trans rfl; have hcz119_1 : w117.cell? ⟨gb452, 1, none⟩ = some (.slice A0_1 l0_1.length c0_1) := (blk_cell BK452.out 1).trans rfl; have hcz119_2 : w117.cell? ⟨gb452, 2, none⟩ = some (.slice A0_2 l0_2.length c0_2) := (blk_cell BK452.out 2).trans rfl; have hcz119_3 : w117.cell? ⟨gb452, 3, none⟩ = some (.slice A0_3 l0_3.length c0_3) := (blk_cell BK452.out 3).trans rfl; have hfz119_0 := blk_frozen BK452.out 0; have hfz119_1 := blk_frozen BK452.out 1; have hfz119_2 := blk_frozen BK452.out 2; have hfz119_3 := blk_frozen BK452.out 3) | ((with_reducible refine gate_callee (f := 19) rfl ?_); refine goesL_ (some 75) rfl rfl Try.func19 (by kernel_rfl) rfl #[.agg #[.slice A0_0 l0_0.length c0_0, .slice A0_1 l0_1.length c0_1, .slice A0_2 l0_2.length c0_2, .slice A0_3 l0_3.length c0_3]] rfl (by (try simp only [List.map_toArray, List.map_cons, List.map_nil]); first | done | rfl | (simp only [List.length_drop, List.length_take]; rfl)) ?_; (with_reducible refine (laws_toColored.calls kj71 _ _ l0_0 _ _ l0_1 _ _ l0_2 _ _ l0_3 t533 t536 t539 t542 _ ?side1 ?side2 ?side3 ?side4 ?side5 ?side6 ?side7 ?side8 A109.out).mono ?_); (case side1 => exact cl (Kd.C_below HR0_0.out HB.out)); (case side2 => exact HC0_0.out); (case side3 => exact cl (Kd.C_below HR0_1.out HB.out)); (case side4 => exact HC0_1.out); (case side5 => exact cl (Kd.C_below HR0_2.out HB.out)); (case side6 => exact HC0_2.out); (case side7 => exact cl (Kd.C_below HR0_3.out HB.out)); (case side8 => exact HC0_3.out); rintro e w120 ⟨v534, v537, v540, v543, rfl, ho0, ho1, ho2, ho3, hb⟩; refine ⟨_, rfl, ?_⟩; have HO535 := am (Kd.R_lower (Kd.R_new' (Kd.R_new' (Kd.R_new' (Kd.R_new' (Kd.R_new' (Kd.R_new' (Kd.R_new' (Kd.R_new' ho0 (Kd.R_lt (rl HO_480000.out))) (Kd.R_lt (rl HO_480001.out))) (Kd.R_lt (rl HO_480002.out))) (Kd.R_lt (rl HO_480003.out))) (Kd.R_lt (rl HO_507000.out))) (Kd.R_lt (rl HO_507001.out))) (Kd.R_lt (rl HO_507002.out))) (Kd.R_lt (rl HO_507003.out))) (below_size (bs3 GE452.out GE479.out GE506.out HB.out))); have HO538 := am (Kd.R_lower (Kd.R_new' (Kd.R_new' (Kd.R_new' (Kd.R_new' (Kd.R_new' (Kd.R_new' (Kd.R_new' (Kd.R_new' ho1 (Kd.R_lt (rl HO_480000.out))) (Kd.R_lt (rl HO_480001.out))) (Kd.R_lt (rl HO_480002.out))) (Kd.R_lt (rl HO_480003.out))) (Kd.R_lt (rl HO_507000.out))) (Kd.R_lt (rl HO_507001.out))) (Kd.R_lt (rl HO_507002.out))) (Kd.R_lt (rl HO_507003.out))) (below_size (bs3 GE452.out GE479.out GE506.out HB.out))); have HO541 := am (Kd.R_lower (Kd.R_new' (Kd.R_new' (Kd.R_new' (Kd.R_new' (Kd.R_new' (Kd.R_new' (Kd.R_new' (Kd.R_new' ho2 (Kd.R_lt (rl HO_480000.out))) (Kd.R_lt (rl HO_480001.out))) (Kd.R_lt (rl HO_480002.out))) (Kd.R_lt (rl HO_480003.out))) (Kd.R_lt (rl HO_507000.out))) (Kd.R_lt (rl HO_507001.out))) (Kd.R_lt (rl HO_507002.out))) (Kd.R_lt (rl HO_507003.out))) (below_size (bs3 GE452.out GE479.out GE506.out HB.out))); have HO544 := am (Kd.R_lower (Kd.R_new' (Kd.R_new' (Kd.R_new' (Kd.R_new' (Kd.R_new' (Kd.R_new' (Kd.R_new' (Kd.R_new' ho3 (Kd.R_lt (rl HO_480000.out))) (Kd.R_lt (rl HO_480001.out))) (Kd.R_lt (rl HO_480002.out))) (Kd.R_lt (rl HO_480003.out))) (Kd.R_lt (rl HO_507000.out))) (Kd.R_lt (rl HO_507001.out))) (Kd.R_lt (rl HO_507002.out))) (Kd.R_lt (rl HO_507003.out))) (below_size (bs3 GE452.out GE479.out GE506.out HB.out))); replace HO_480000 := am (Kd.R_mono (Kd.R_told (Kd.R_told (Kd.R_told (Kd.R_told (Kd.R_old (rl HO_480000.out) hb) (Kd.R_base ho0)) (Kd.R_base ho1)) (Kd.R_base ho2)) (Kd.R_base ho3)) (fun _ h_ => h_.1)); replace HO_480001 := am (Kd.R_mono (Kd.R_told (Kd.R_told (Kd.R_told (Kd.R_told (Kd.R_old (rl HO_480001.out) hb) (Kd.R_base ho0)) (Kd.R_base ho1)) (Kd.R_base ho2)) (Kd.R_base ho3)) (fun _ h_ => h_.1)); replace HO_480002 := am (Kd.R_mono (Kd.R_told (Kd.R_told (Kd.R_told (Kd.R_told (Kd.R_old (rl HO_480002.out) hb) (Kd.R_base ho0)) (Kd.R_base ho1)) (Kd.R_base ho2)) (Kd.R_base ho3)) (fun _ h_ => h_.1)); replace HO_480003 := am (Kd.R_mono (Kd.R_told (Kd.R_told (Kd.R_told (Kd.R_told (Kd.R_old (rl HO_480003.out) hb) (Kd.R_base ho0)) (Kd.R_base ho1)) (Kd.R_base ho2)) (Kd.R_base ho3)) (fun _ h_ => h_.1)); replace HO_507000 := am (Kd.R_mono (Kd.R_told (Kd.R_told (Kd.R_told (Kd.R_told (Kd.R_old (rl HO_507000.out) hb) (Kd.R_base ho0)) (Kd.R_base ho1)) (Kd.R_base ho2)) (Kd.R_base ho3)) (fun _ h_ => h_.1)); replace HO_507001 := am (Kd.R_mono (Kd.R_told (Kd.R_told (Kd.R_told (Kd.R_told (Kd.R_old (rl HO_507001.out) hb) (Kd.R_base ho0)) (Kd.R_base ho1)) (Kd.R_base ho2)) (Kd.R_base ho3)) (fun _ h_ => h_.1)); replace HO_507002 := am (Kd.R_mono (Kd.R_told (Kd.R_told (Kd.R_told (Kd.R_told (Kd.R_old (rl HO_507002.out) hb) (Kd.R_base ho0)) (Kd.R_base ho1)) (Kd.R_base ho2)) (Kd.R_base ho3)) (fun _ h_ => h_.1)); replace HO_507003 := am (Kd.R_mono (Kd.R_told (Kd.R_told (Kd.R_told (Kd.R_told (Kd.R_old (rl HO_507003.out) hb) (Kd.R_base ho0)) (Kd.R_base ho1)) (Kd.R_base ho2)) (Kd.R_base ho3)) (fun _ h_ => h_.1)); replace BK452 := am (blk_below (g := gb452) (o := .cells #[.slice A0_0 l0_0.length c0_0, .slice A0_1 l0_1.length c0_1, .slice A0_2 l0_2.length c0_2, .slice A0_3 l0_3.length c0_3] 26 (0, 0)) (kl BK452.out) hb); replace BK479 := am (blk_below (g := gb479) (o := .cells #[.slice Ao23 t466.length co23, .slice Ao26 t469.length co26, .slice Ao27 t472.length co27, .slice Ao28 t475.length co28] 30 (0, 0)) (kl BK479.out) hb); replace BK506 := am (blk_below (g := gb506) (o := .cells #[.slice Ao41 t493.length co41, .slice Ao46 t496.length co46, .slice Ao47 t499.length co47, .slice Ao48 t502.length co48] 30 (0, 0)) (kl BK506.out) hb); replace HB := am (below_step (bs3 GE452.out GE479.out GE506.out HB.out) hb); (try clear hb); (try clear hb2); (try clear hk); (try clear hi); (try clear ho0); (try clear ho1); (try clear ho2); (try clear ho3); obtain ⟨Ao121, co121, eo121⟩ := Kd.R_slice HO535.out; subst eo121; obtain ⟨Ao122, co122, eo122⟩ := Kd.R_slice HO538.out; subst eo122; obtain ⟨Ao123, co123, eo123⟩ := Kd.R_slice HO541.out; subst eo123; obtain ⟨Ao124, co124, eo124⟩ := Kd.R_slice HO544.out; subst eo124) | ((with_reducible refine gate_callee (f := 25) rfl ?_); refine goesL_ (some 76) rfl rfl Try.func25 (by kernel_rfl) rfl #[.agg #[.slice Ao121 t533.length co121, .slice Ao122 t536.length co122, .slice Ao123 t539.length co123, .slice Ao124 t542.length co124]] rfl (by (try simp only [List.map_toArray, List.map_cons, List.map_nil]); first | done | rfl | (simp only [List.length_drop, List.length_take]; rfl)) ?_; (with_reducible refine (impl_ShadeRoots.calls kj71 _ _ t533 _ _ t536 _ _ t539 _ _ t542 t545 t548 t551 t554 t557 _ ?side1 ?side2 ?side3 ?side4 ?side5 ?side6 ?side7 ?side8 A110.out).mono ?_); (case side1 => exact cl ((Kd.R_reads' HO535.out).2.2)); (case side2 => exact (Kd.R_reads' HO535.out).2.1); (case side3 => exact cl ((Kd.R_reads' HO538.out).2.2)); (case side4 => exact (Kd.R_reads' HO538.out).2.1); (case side5 => exact cl ((Kd.R_reads' HO541.out).2.2)); (case side6 => exact (Kd.R_reads' HO541.out).2.1); (case side7 => exact cl ((Kd.R_reads' HO544.out).2.2)); (case side8 => exact (Kd.R_reads' HO544.out).2.1); rintro e w125 ⟨v546, v549, v552, v555, rfl, ho0, ho1, ho2, ho3, hb⟩; refine ⟨_, rfl, ?_⟩; have HO547 := am (Kd.R_lower (Kd.R_new' (Kd.R_new' (Kd.R_new' (Kd.R_new' (Kd.R_new' (Kd.R_new' (Kd.R_new' (Kd.R_new' (Kd.R_new' (Kd.R_new' (Kd.R_new' (Kd.R_new' ho0 (Kd.R_lt (rl HO_480000.out))) (Kd.R_lt (rl HO_480001.out))) (Kd.R_lt (rl HO_480002.out))) (Kd.R_lt (rl HO_480003.out))) (Kd.R_lt (rl HO_507000.out))) (Kd.R_lt (rl HO_507001.out))) (Kd.R_lt (rl HO_507002.out))) (Kd.R_lt (rl HO_507003.out))) (Kd.R_lt (rl HO535.out))) (Kd.R_lt (rl HO538.out))) (Kd.R_lt (rl HO541.out))) (Kd.R_lt (rl HO544.out))) (below_size (bs3 GE452.out GE479.out GE506.out HB.out))); have HO550 := am (Kd.R_lower (Kd.R_new' (Kd.R_new' (Kd.R_new' (Kd.R_new' (Kd.R_new' (Kd.R_new' (Kd.R_new' (Kd.R_new' (Kd.R_new' (Kd.R_new' (Kd.R_new' (Kd.R_new' ho1 (Kd.R_lt (rl HO_480000.out))) (Kd.R_lt (rl HO_480001.out))) (Kd.R_lt (rl HO_480002.out))) (Kd.R_lt (rl HO_480003.out))) (Kd.R_lt (rl HO_507000.out))) (Kd.R_lt (rl HO_507001.out))) (Kd.R_lt (rl HO_507002.out))) (Kd.R_lt (rl HO_507003.out))) (Kd.R_lt (rl HO535.out))) (Kd.R_lt (rl HO538.out))) (Kd.R_lt (rl HO541.out))) (Kd.R_lt (rl HO544.out))) (below_size (bs3 GE452.out GE479.out GE506.out HB.out))); have HO553 := am (Kd.R_lower (Kd.R_new' (Kd.R_new' (Kd.R_new' (Kd.R_new' (Kd.R_new' (Kd.R_new' (Kd.R_new' (Kd.R_new' (Kd.R_new' (Kd.R_new' (Kd.R_new' (Kd.R_new' ho2 (Kd.R_lt (rl HO_480000.out))) (Kd.R_lt (rl HO_480001.out))) (Kd.R_lt (rl HO_480002.out))) (Kd.R_lt (rl HO_480003.out))) (Kd.R_lt (rl HO_507000.out))) (Kd.R_lt (rl HO_507001.out))) (Kd.R_lt (rl HO_507002.out))) (Kd.R_lt (rl HO_507003.out))) (Kd.R_lt (rl HO535.out))) (Kd.R_lt (rl HO538.out))) (Kd.R_lt (rl HO541.out))) (Kd.R_lt (rl HO544.out))) (below_size (bs3 GE452.out GE479.out GE506.out HB.out))); have HO556 := am (Kd.R_lower (Kd.R_new' (Kd.R_new' (Kd.R_new' (Kd.R_new' (Kd.R_new' (Kd.R_new' (Kd.R_new' (Kd.R_new' (Kd.R_new' (Kd.R_new' (Kd.R_new' (Kd.R_new' ho3 (Kd.R_lt (rl HO_480000.out))) (Kd.R_lt (rl HO_480001.out))) (Kd.R_lt (rl HO_480002.out))) (Kd.R_lt (rl HO_480003.out))) (Kd.R_lt (rl HO_507000.out))) (Kd.R_lt (rl HO_507001.out))) (Kd.R_lt (rl HO_507002.out))) (Kd.R_lt (rl HO_507003.out))) (Kd.R_lt (rl HO535.out))) (Kd.R_lt (rl HO538.out))) (Kd.R_lt (rl HO541.out))) (Kd.R_lt (rl HO544.out))) (below_size (bs3 GE452.out GE479.out GE506.out HB.out))); replace HO_480000 := am (Kd.R_mono (Kd.R_told (Kd.R_told (Kd.R_told (Kd.R_told (Kd.R_old (rl HO_480000.out) hb) (Kd.R_base ho0)) (Kd.R_base ho1)) (Kd.R_base ho2)) (Kd.R_base ho3)) (fun _ h_ => h_.1)); replace HO_480001 := am (Kd.R_mono (Kd.R_told (Kd.R_told (Kd.R_told (Kd.R_told (Kd.R_old (rl HO_480001.out) hb) (Kd.R_base ho0)) (Kd.R_base ho1)) (Kd.R_base ho2)) (Kd.R_base ho3)) (fun _ h_ => h_.1)); replace HO_480002 := am (Kd.R_mono (Kd.R_told (Kd.R_told (Kd.R_told (Kd.R_told (Kd.R_old (rl HO_480002.out) hb) (Kd.R_base ho0)) (Kd.R_base ho1)) (Kd.R_base ho2)) (Kd.R_base ho3)) (fun _ h_ => h_.1)); replace HO_480003 := am (Kd.R_mono (Kd.R_told (Kd.R_told (Kd.R_told (Kd.R_told (Kd.R_old (rl HO_480003.out) hb) (Kd.R_base ho0)) (Kd.R_base ho1)) (Kd.R_base ho2)) (Kd.R_base ho3)) (fun _ h_ => h_.1)); replace HO_507000 := am (Kd.R_mono (Kd.R_told (Kd.R_told (Kd.R_told (Kd.R_told (Kd.R_old (rl HO_507000.out) hb) (Kd.R_base ho0)) (Kd.R_base ho1)) (Kd.R_base ho2)) (Kd.R_base ho3)) (fun _ h_ => h_.1)); replace HO_507001 := am (Kd.R_mono (Kd.R_told (Kd.R_told (Kd.R_told (Kd.R_told (Kd.R_old (rl HO_507001.out) hb) (Kd.R_base ho0)) (Kd.R_base ho1)) (Kd.R_base ho2)) (Kd.R_base ho3)) (fun _ h_ => h_.1)); replace HO_507002 := am (Kd.R_mono (Kd.R_told (Kd.R_told (Kd.R_told (Kd.R_told (Kd.R_old (rl HO_507002.out) hb) (Kd.R_base ho0)) (Kd.R_base ho1)) (Kd.R_base ho2)) (Kd.R_base ho3)) (fun _ h_ => h_.1)); replace HO_507003 := am (Kd.R_mono (Kd.R_told (Kd.R_told (Kd.R_told (Kd.R_told (Kd.R_old (rl HO_507003.out) hb) (Kd.R_base ho0)) (Kd.R_base ho1)) (Kd.R_base ho2)) (Kd.R_base ho3)) (fun _ h_ => h_.1)); replace HO535 := am (Kd.R_mono (Kd.R_told (Kd.R_told (Kd.R_told (Kd.R_told (Kd.R_old (rl HO535.out) hb) (Kd.R_base ho0)) (Kd.R_base ho1)) (Kd.R_base ho2)) (Kd.R_base ho3)) (fun _ h_ => h_.1)); replace HO538 := am (Kd.R_mono (Kd.R_told (Kd.R_told (Kd.R_told (Kd.R_told (Kd.R_old (rl HO538.out) hb) (Kd.R_base ho0)) (Kd.R_base ho1)) (Kd.R_base ho2)) (Kd.R_base ho3)) (fun _ h_ => h_.1)); replace HO541 := am (Kd.R_mono (Kd.R_told (Kd.R_told (Kd.R_told (Kd.R_told (Kd.R_old (rl HO541.out) hb) (Kd.R_base ho0)) (Kd.R_base ho1)) (Kd.R_base ho2)) (Kd.R_base ho3)) (fun _ h_ => h_.1)); replace HO544 := am (Kd.R_mono (Kd.R_told (Kd.R_told (Kd.R_told (Kd.R_told (Kd.R_old (rl HO544.out) hb) (Kd.R_base ho0)) (Kd.R_base ho1)) (Kd.R_base ho2)) (Kd.R_base ho3)) (fun _ h_ => h_.1)); replace BK452 := am (blk_below (g := gb452) (o := .cells #[.slice A0_0 l0_0.length c0_0, .slice A0_1 l0_1.length c0_1, .slice A0_2 l0_2.length c0_2, .slice A0_3 l0_3.length c0_3] 26 (0, 0)) (kl BK452.out) hb); replace BK479 := am (blk_below (g := gb479) (o := .cells #[.slice Ao23 t466.length co23, .slice Ao26 t469.length co26, .slice Ao27 t472.length co27, .slice Ao28 t475.length co28] 30 (0, 0)) (kl BK479.out) hb); replace BK506 := am (blk_below (g := gb506) (o := .cells #[.slice Ao41 t493.length co41, .slice Ao46 t496.length co46, .slice Ao47 t499.length co47, .slice Ao48 t502.length co48] 30 (0, 0)) (kl BK506.out) hb); replace HB := am (below_step (bs3 GE452.out GE479.out GE506.out HB.out) hb); (try clear hb); (try clear hb2); (try clear hk); (try clear hi); (try clear ho0); (try clear ho1); (try clear ho2); (try clear ho3)) | ((with_reducible refine gate_dst (N := 12) rfl ?_); refine box_event ?hg (N := 12) ?hd (cs := #[.slice none 0 0, .slice none 0 0, .slice none 0 0, .slice none 0 0]) (t := 30) ?hr ?_; (case hd => rfl); (case hg => rfl); (case hr => first | (go_simp; done) | (go_simp; rfl)); intro gb558 hg w126 hbox hb; replace HO_480000 := am (Kd.R_below (rl HO_480000.out) hb); replace HO_480001 := am (Kd.R_below (rl HO_480001.out) hb); replace HO_480002 := am (Kd.R_below (rl HO_480002.out) hb); replace HO_480003 := am (Kd.R_below (rl HO_480003.out) hb); replace HO_507000 := am (Kd.R_below (rl HO_507000.out) hb); replace HO_507001 := am (Kd.R_below (rl HO_507001.out) hb); replace HO_507002 := am (Kd.R_below (rl HO_507002.out) hb); replace HO_507003 := am (Kd.R_below (rl HO_507003.out) hb); replace HO535 := am (Kd.R_below (rl HO535.out) hb); replace HO538 := am (Kd.R_below (rl HO538.out) hb); replace HO541 := am (Kd.R_below (rl HO541.out) hb); replace HO544 := am (Kd.R_below (rl HO544.out) hb); replace HO547 := am (Kd.R_below (rl HO547.out) hb); replace HO550 := am (Kd.R_below (rl HO550.out) hb); replace HO553 := am (Kd.R_below (rl HO553.out) hb); replace HO556 := am (Kd.R_below (rl HO556.out) hb); have BK558 := am (hbox); have GW558 := am ((by rw [hg]; exact (below_size (bs3 GE452.out GE479.out GE506.out HB.out)) : w.heap.size ≤ gb558)); have GE558 := am ((by rw [hg]; exact (below_size (bs3 GE452.out GE479.out GE506.out HB.out)) : w.heap.size ≤ gb558)); replace HB := am (below_step (bs3 GE452.out GE479.out GE506.out HB.out) hb); have NB452_558 := am ((by rw [hg]; exact Nat.ne_of_lt (blk_lt (g := gb452) (o := .cells #[.slice A0_0 l0_0.length c0_0, .slice A0_1 l0_1.length c0_1, .slice A0_2 l0_2.length c0_2, .slice A0_3 l0_3.length c0_3] 26 (0, 0)) (kl BK452.out)) : gb452 ≠ gb558)); have NB558_452 := am ((by rw [hg]; exact Nat.ne_of_gt (blk_lt (g := gb452) (o := .cells #[.slice A0_0 l0_0.length c0_0, .slice A0_1 l0_1.length c0_1, .slice A0_2 l0_2.length c0_2, .slice A0_3 l0_3.length c0_3] 26 (0, 0)) (kl BK452.out)) : gb558 ≠ gb452)); replace BK452 := am (blk_below (g := gb452) (o := .cells #[.slice A0_0 l0_0.length c0_0, .slice A0_1 l0_1.length c0_1, .slice A0_2 l0_2.length c0_2, .slice A0_3 l0_3.length c0_3] 26 (0, 0)) (kl BK452.out) hb); have NB479_558 := am ((by rw [hg]; exact Nat.ne_of_lt (blk_lt (g := gb479) (o := .cells #[.slice Ao23 t466.length co23, .slice Ao26 t469.length co26, .slice Ao27 t472.length co27, .slice Ao28 t475.length co28] 30 (0, 0)) (kl BK479.out)) : gb479 ≠ gb558)); have NB558_479 := am ((by rw [hg]; exact Nat.ne_of_gt (blk_lt (g := gb479) (o := .cells #[.slice Ao23 t466.length co23, .slice Ao26 t469.length co26, .slice Ao27 t472.length co27, .slice Ao28 t475.length co28] 30 (0, 0)) (kl BK479.out)) : gb558 ≠ gb479)); replace BK479 := am (blk_below (g := gb479) (o := .cells #[.slice Ao23 t466.length co23, .slice Ao26 t469.length co26, .slice Ao27 t472.length co27, .slice Ao28 t475.length co28] 30 (0, 0)) (kl BK479.out) hb); have NB506_558 := am ((by rw [hg]; exact Nat.ne_of_lt (blk_lt (g := gb506) (o := .cells #[.slice Ao41 t493.length co41, .slice Ao46 t496.length co46, .slice Ao47 t499.length co47, .slice Ao48 t502.length co48] 30 (0, 0)) (kl BK506.out)) : gb506 ≠ gb558)); have NB558_506 := am ((by rw [hg]; exact Nat.ne_of_gt (blk_lt (g := gb506) (o := .cells #[.slice Ao41 t493.length co41, .slice Ao46 t496.length co46, .slice Ao47 t499.length co47, .slice Ao48 t502.length co48] 30 (0, 0)) (kl BK506.out)) : gb558 ≠ gb506)); replace BK506 := am (blk_below (g := gb506) (o := .cells #[.slice Ao41 t493.length co41, .slice Ao46 t496.length co46, .slice Ao47 t499.length co47, .slice Ao48 t502.length co48] 30 (0, 0)) (kl BK506.out) hb); clear hb hbox hg; obtain ⟨Ao127, co127, eo127⟩ := Kd.R_slice HO547.out; subst eo127; have hnb128 := NB558_452.out; have hnc128 := NB452_558.out; have hnb129 := NB558_479.out; have hnc129 := NB479_558.out; have hnb130 := NB558_506.out; have hnc130 := NB506_558.out; have hcz131_0 : w126.cell? ⟨gb558, 0, none⟩ = some (.slice none 0 0) := (blk_cell BK558.out 0).trans rfl; have hcz131_1 : w126.cell? ⟨gb558, 1, none⟩ = some (.slice none 0 0) := (blk_cell BK558.out 1).trans rfl; have hcz131_2 : w126.cell? ⟨gb558, 2, none⟩ = some (.slice none 0 0) := (blk_cell BK558.out 2).trans rfl; have hcz131_3 : w126.cell? ⟨gb558, 3, none⟩ = some (.slice none 0 0) := (blk_cell BK558.out 3).trans rfl; have hfz131_0 := blk_frozen BK558.out 0; have hfz131_1 := blk_frozen BK558.out 1; have hfz131_2 := blk_frozen BK558.out 2; have hfz131_3 := blk_frozen BK558.out 3; obtain ⟨Ao132, co132, eo132⟩ := Kd.R_slice HO550.out; subst eo132; obtain ⟨Ao133, co133, eo133⟩ := Kd.R_slice HO553.out; subst eo133; obtain ⟨Ao134, co134, eo134⟩ := Kd.R_slice HO556.out; subst eo134))
           (try simp only [Act.put, List.setIfInBounds_toArray, List.set_cons_zero, List.set_cons_succ])
           go_cut [87] (fun v87 wc => ∃ (kq : Nat) (x87_110 : Bool), v87 = .bool x87_110 ∧ Aside0 (laws_FnExactShadeRoots.j2 kq t527 x87_110 t528 t529 t530 t531 = some r) ∧ Aside0 (kq ≤ kj71) ∧ Aside0 (Kd.R (Kd.int .i64) 3 wc w.heap.size (fun k_ => some k_ ≠ ((.slice Ao46 t496.length co46) : Value).ownBlock ∧ some k_ ≠ ((.slice Ao47 t499.length co47) : Value).ownBlock ∧ some k_ ≠ ((.slice Ao48 t502.length co48) : Value).ownBlock) (.slice Ao41 t493.length co41) t528) ∧ Aside0 (Kd.R (Kd.int .i64) 3 wc w.heap.size (fun k_ => some k_ ≠ ((.slice Ao41 t493.length co41) : Value).ownBlock ∧ some k_ ≠ ((.slice Ao47 t499.length co47) : Value).ownBlock ∧ some k_ ≠ ((.slice Ao48 t502.length co48) : Value).ownBlock) (.slice Ao46 t496.length co46) t529) ∧ Aside0 (Kd.R (Kd.int .i64) 3 wc w.heap.size (fun k_ => some k_ ≠ ((.slice Ao41 t493.length co41) : Value).ownBlock ∧ some k_ ≠ ((.slice Ao46 t496.length co46) : Value).ownBlock ∧ some k_ ≠ ((.slice Ao48 t502.length co48) : Value).ownBlock) (.slice Ao47 t499.length co47) t530) ∧ Aside0 (Kd.R (Kd.int .i64) 3 wc w.heap.size (fun k_ => some k_ ≠ ((.slice Ao41 t493.length co41) : Value).ownBlock ∧ some k_ ≠ ((.slice Ao46 t496.length co46) : Value).ownBlock ∧ some k_ ≠ ((.slice Ao47 t499.length co47) : Value).ownBlock) (.slice Ao48 t502.length co48) t531) ∧ Aside0 (wc.heap[gb506]? = some (.cells #[(.slice Ao41 t493.length co41), (.slice Ao46 t496.length co46), (.slice Ao47 t499.length co47), (.slice Ao48 t502.length co48)] 30 (0, 0))) ∧ Aside0 (Below w.heap.size w wc))
           case first =>
            have H := HC111.out
            clear HC111
            replace H := Option.bind_eq_some_iff.mp H
            obtain ⟨t559, A1350, H⟩ := H
            replace H : (if t559 = true then (laws_FnExactShadeRoots.j2 kj71 t527 (t557 != t478) t528 t529 t530 t531) else (laws_FnExactShadeRoots.j2 kj71 t527 true t528 t529 t530 t531)) = some r := H
            have A135 := am A1350
            clear A1350
            by_cases c136 : t559 = true
            ·subst c136
             have H1 : (laws_FnExactShadeRoots.j2 kj71 t527 (t557 != t478) t528 t529 t530 t531) = some r := by rw [if_pos rfl] at H; exact H
             clear H
             have H := H1
             clear H1
             have H' := am H
             clear H
             have hnb137 := NB558_452.out
             have hnc137 := NB452_558.out
             have hnb138 := NB558_479.out
             have hnc138 := NB479_558.out
             have hnb139 := NB558_506.out
             have hnc139 := NB506_558.out
             have hcz140_0 : w126.cell? ⟨gb558, 0, none⟩ = some (.slice none 0 0) := (blk_cell BK558.out 0).trans rfl
             have hcz140_1 : w126.cell? ⟨gb558, 1, none⟩ = some (.slice none 0 0) := (blk_cell BK558.out 1).trans rfl
             have hcz140_2 : w126.cell? ⟨gb558, 2, none⟩ = some (.slice none 0 0) := (blk_cell BK558.out 2).trans rfl
             have hcz140_3 : w126.cell? ⟨gb558, 3, none⟩ = some (.slice none 0 0) := (blk_cell BK558.out 3).trans rfl
             have hfz140_0 := blk_frozen BK558.out 0
             have hfz140_1 := blk_frozen BK558.out 1
             have hfz140_2 := blk_frozen BK558.out 2
             have hfz140_3 := blk_frozen BK558.out 3
             have hnb141 := NB479_452.out
             have hnc141 := NB452_479.out
             have hnb142 := NB479_506.out
             have hnc142 := NB506_479.out
             have hcz143_0 : w126.cell? ⟨gb479, 0, none⟩ = some (.slice Ao23 t466.length co23) := (blk_cell BK479.out 0).trans rfl
             have hcz143_1 : w126.cell? ⟨gb479, 1, none⟩ = some (.slice Ao26 t469.length co26) := (blk_cell BK479.out 1).trans rfl
             have hcz143_2 : w126.cell? ⟨gb479, 2, none⟩ = some (.slice Ao27 t472.length co27) := (blk_cell BK479.out 2).trans rfl
             have hcz143_3 : w126.cell? ⟨gb479, 3, none⟩ = some (.slice Ao28 t475.length co28) := (blk_cell BK479.out 3).trans rfl
             have hfz143_0 := blk_frozen BK479.out 0
             have hfz143_1 := blk_frozen BK479.out 1
             have hfz143_2 := blk_frozen BK479.out 2
             have hfz143_3 := blk_frozen BK479.out 3
             go_wp2_with (first | ((with_reducible refine gate_callee (f := 21) rfl ?_); refine goesL_ (some 81) rfl rfl Try.func21 (by kernel_rfl) rfl #[.agg #[.slice Ao127 t545.length co127, .slice Ao132 t548.length co132, .slice Ao133 t551.length co133, .slice Ao134 t554.length co134], .agg #[.slice Ao23 t466.length co23, .slice Ao26 t469.length co26, .slice Ao27 t472.length co27, .slice Ao28 t475.length co28]] rfl (by (try simp only [List.map_toArray, List.map_cons, List.map_nil]); first | done | rfl | (simp only [List.length_drop, List.length_take]; rfl)) ?_; (with_reducible refine (laws_eqColored.calls kj71 _ _ t545 _ _ t548 _ _ t551 _ _ t554 _ _ t466 _ _ t469 _ _ t472 _ _ t475 true _ ?side1 ?side2 ?side3 ?side4 ?side5 ?side6 ?side7 ?side8 ?side9 ?side10 ?side11 ?side12 ?side13 ?side14 ?side15 ?side16 A135.out).mono ?_); (case side1 => exact (Kd.R_reads' (rf1 BK558.out HO547.out)).2.2); (case side2 => exact (Kd.R_reads' HO547.out).2.1); (case side3 => exact (Kd.R_reads' (rf1 BK558.out HO550.out)).2.2); (case side4 => exact (Kd.R_reads' HO550.out).2.1); (case side5 => exact (Kd.R_reads' (rf1 BK558.out HO553.out)).2.2); (case side6 => exact (Kd.R_reads' HO553.out).2.1); (case side7 => exact (Kd.R_reads' (rf1 BK558.out HO556.out)).2.2); (case side8 => exact (Kd.R_reads' HO556.out).2.1); (case side9 => exact (Kd.R_reads' (rf1 BK558.out HO_480000.out)).2.2); (case side10 => exact (Kd.R_reads' HO_480000.out).2.1); (case side11 => exact (Kd.R_reads' (rf1 BK558.out HO_480001.out)).2.2); (case side12 => exact (Kd.R_reads' HO_480001.out).2.1); (case side13 => exact (Kd.R_reads' (rf1 BK558.out HO_480002.out)).2.2); (case side14 => exact (Kd.R_reads' HO_480002.out).2.1); (case side15 => exact (Kd.R_reads' (rf1 BK558.out HO_480003.out)).2.2); (case side16 => exact (Kd.R_reads' HO_480003.out).2.1); rintro e w144 ⟨rfl, hb⟩; refine ⟨_, rfl, ?_⟩; replace HO_480000 := am (Kd.R_below (rf1 BK558.out HO_480000.out) hb); replace HO_480001 := am (Kd.R_below (rf1 BK558.out HO_480001.out) hb); replace HO_480002 := am (Kd.R_below (rf1 BK558.out HO_480002.out) hb); replace HO_480003 := am (Kd.R_below (rf1 BK558.out HO_480003.out) hb); replace HO_507000 := am (Kd.R_below (rf1 BK558.out HO_507000.out) hb); replace HO_507001 := am (Kd.R_below (rf1 BK558.out HO_507001.out) hb); replace HO_507002 := am (Kd.R_below (rf1 BK558.out HO_507002.out) hb); replace HO_507003 := am (Kd.R_below (rf1 BK558.out HO_507003.out) hb); replace HO535 := am (Kd.R_below (rf1 BK558.out HO535.out) hb); replace HO538 := am (Kd.R_below (rf1 BK558.out HO538.out) hb); replace HO541 := am (Kd.R_below (rf1 BK558.out HO541.out) hb); replace HO544 := am (Kd.R_below (rf1 BK558.out HO544.out) hb); replace HO547 := am (Kd.R_below (rf1 BK558.out HO547.out) hb); replace HO550 := am (Kd.R_below (rf1 BK558.out HO550.out) hb); replace HO553 := am (Kd.R_below (rf1 BK558.out HO553.out) hb); replace HO556 := am (Kd.R_below (rf1 BK558.out HO556.out) hb); replace BK452 := am (blk_below (g := gb452) (o := .cells #[.slice A0_0 l0_0.length c0_0, .slice A0_1 l0_1.length c0_1, .slice A0_2 l0_2.length c0_2, .slice A0_3 l0_3.length c0_3] 26 (0, 0)) (kf1 NB452_558.out BK452.out) hb); replace BK479 := am (blk_below (g := gb479) (o := .cells #[.slice Ao23 t466.length co23, .slice Ao26 t469.length co26, .slice Ao27 t472.length co27, .slice Ao28 t475.length co28] 30 (0, 0)) (kf1 NB479_558.out BK479.out) hb); replace BK506 := am (blk_below (g := gb506) (o := .cells #[.slice Ao41 t493.length co41, .slice Ao46 t496.length co46, .slice Ao47 t499.length co47, .slice Ao48 t502.length co48] 30 (0, 0)) (kf1 NB506_558.out BK506.out) hb); replace BK558 := am (blk_below (g := gb558) (o := .cells #[.slice Ao127 t545.length co127, .slice Ao132 t548.length co132, .slice Ao133 t551.length co133, .slice Ao134 t554.length co134] 30 (0, 0)) (kp4 (kf0 BK558.out)) hb); replace HB := am (below_step (bs4 GE452.out GE479.out GE506.out GE558.out HB.out) hb); (try clear hb); (try clear hb2); (try clear hk); (try clear hi)))
             go_meet
             case rel => exact ⟨_, ((t557 != t478)), (by first | rfl | (simp; done) | (simp [*]; done)), H', ⟨by have := HJ10.out; have := HJ71.out; first | omega | exact Nat.le_refl _⟩, ⟨rl (Kd.R_mono HO_507000.out (fun _ hk => by simp only [ne_eq] at hk ⊢; simp only [hk, not_false_eq_true, and_self]))⟩, ⟨rl (Kd.R_mono HO_507001.out (fun _ hk => by simp only [ne_eq] at hk ⊢; simp only [hk, not_false_eq_true, and_self]))⟩, ⟨rl (Kd.R_mono HO_507002.out (fun _ hk => by simp only [ne_eq] at hk ⊢; simp only [hk, not_false_eq_true, and_self]))⟩, ⟨rl (Kd.R_mono HO_507003.out (fun _ hk => by simp only [ne_eq] at hk ⊢; simp only [hk, not_false_eq_true, and_self]))⟩, ⟨kl BK506.out⟩, ⟨by exact bs4 GE452.out GE479.out GE506.out GE558.out HB.out⟩⟩
            ·replace c136 := Bool.eq_false_iff.mpr c136
             subst c136
             have H1 : (laws_FnExactShadeRoots.j2 kj71 t527 true t528 t529 t530 t531) = some r := by rw [if_neg (show ¬ (false = true) by decide)] at H; exact H
             clear H
             have H := H1
             clear H1
             have H' := am H
             clear H
             have hnb145 := NB558_452.out
             have hnc145 := NB452_558.out
             have hnb146 := NB558_479.out
             have hnc146 := NB479_558.out
             have hnb147 := NB558_506.out
             have hnc147 := NB506_558.out
             have hcz148_0 : w126.cell? ⟨gb558, 0, none⟩ = some (.slice none 0 0) := (blk_cell BK558.out 0).trans rfl
             have hcz148_1 : w126.cell? ⟨gb558, 1, none⟩ = some (.slice none 0 0) := (blk_cell BK558.out 1).trans rfl
             have hcz148_2 : w126.cell? ⟨gb558, 2, none⟩ = some (.slice none 0 0) := (blk_cell BK558.out 2).trans rfl
             have hcz148_3 : w126.cell? ⟨gb558, 3, none⟩ = some (.slice none 0 0) := (blk_cell BK558.out 3).trans rfl
             have hfz148_0 := blk_frozen BK558.out 0
             have hfz148_1 := blk_frozen BK558.out 1
             have hfz148_2 := blk_frozen BK558.out 2
             have hfz148_3 := blk_frozen BK558.out 3
             have hnb149 := NB479_452.out
             have hnc149 := NB452_479.out
             have hnb150 := NB479_506.out
             have hnc150 := NB506_479.out
             have hcz151_0 : w126.cell? ⟨gb479, 0, none⟩ = some (.slice Ao23 t466.length co23) := (blk_cell BK479.out 0).trans rfl
             have hcz151_1 : w126.cell? ⟨gb479, 1, none⟩ = some (.slice Ao26 t469.length co26) := (blk_cell BK479.out 1).trans rfl
             have hcz151_2 : w126.cell? ⟨gb479, 2, none⟩ = some (.slice Ao27 t472.length co27) := (blk_cell BK479.out 2).trans rfl
             have hcz151_3 : w126.cell? ⟨gb479, 3, none⟩ = some (.slice Ao28 t475.length co28) := (blk_cell BK479.out 3).trans rfl
             have hfz151_0 := blk_frozen BK479.out 0
             have hfz151_1 := blk_frozen BK479.out 1
             have hfz151_2 := blk_frozen BK479.out 2
             have hfz151_3 := blk_frozen BK479.out 3
             go_wp2_with (first | ((with_reducible refine gate_callee (f := 21) rfl ?_); refine goesL_ (some 81) rfl rfl Try.func21 (by kernel_rfl) rfl #[.agg #[.slice Ao127 t545.length co127, .slice Ao132 t548.length co132, .slice Ao133 t551.length co133, .slice Ao134 t554.length co134], .agg #[.slice Ao23 t466.length co23, .slice Ao26 t469.length co26, .slice Ao27 t472.length co27, .slice Ao28 t475.length co28]] rfl (by (try simp only [List.map_toArray, List.map_cons, List.map_nil]); first | done | rfl | (simp only [List.length_drop, List.length_take]; rfl)) ?_; (with_reducible refine (laws_eqColored.calls kj71 _ _ t545 _ _ t548 _ _ t551 _ _ t554 _ _ t466 _ _ t469 _ _ t472 _ _ t475 false _ ?side1 ?side2 ?side3 ?side4 ?side5 ?side6 ?side7 ?side8 ?side9 ?side10 ?side11 ?side12 ?side13 ?side14 ?side15 ?side16 A135.out).mono ?_); (case side1 => exact (Kd.R_reads' (rf1 BK558.out HO547.out)).2.2); (case side2 => exact (Kd.R_reads' HO547.out).2.1); (case side3 => exact (Kd.R_reads' (rf1 BK558.out HO550.out)).2.2); (case side4 => exact (Kd.R_reads' HO550.out).2.1); (case side5 => exact (Kd.R_reads' (rf1 BK558.out HO553.out)).2.2); (case side6 => exact (Kd.R_reads' HO553.out).2.1); (case side7 => exact (Kd.R_reads' (rf1 BK558.out HO556.out)).2.2); (case side8 => exact (Kd.R_reads' HO556.out).2.1); (case side9 => exact (Kd.R_reads' (rf1 BK558.out HO_480000.out)).2.2); (case side10 => exact (Kd.R_reads' HO_480000.out).2.1); (case side11 => exact (Kd.R_reads' (rf1 BK558.out HO_480001.out)).2.2); (case side12 => exact (Kd.R_reads' HO_480001.out).2.1); (case side13 => exact (Kd.R_reads' (rf1 BK558.out HO_480002.out)).2.2); (case side14 => exact (Kd.R_reads' HO_480002.out).2.1); (case side15 => exact (Kd.R_reads' (rf1 BK558.out HO_480003.out)).2.2); (case side16 => exact (Kd.R_reads' HO_480003.out).2.1); rintro e w152 ⟨rfl, hb⟩; refine ⟨_, rfl, ?_⟩; replace HO_480000 := am (Kd.R_below (rf1 BK558.out HO_480000.out) hb); replace HO_480001 := am (Kd.R_below (rf1 BK558.out HO_480001.out) hb); replace HO_480002 := am (Kd.R_below (rf1 BK558.out HO_480002.out) hb); replace HO_480003 := am (Kd.R_below (rf1 BK558.out HO_480003.out) hb); replace HO_507000 := am (Kd.R_below (rf1 BK558.out HO_507000.out) hb); replace HO_507001 := am (Kd.R_below (rf1 BK558.out HO_507001.out) hb); replace HO_507002 := am (Kd.R_below (rf1 BK558.out HO_507002.out) hb); replace HO_507003 := am (Kd.R_below (rf1 BK558.out HO_507003.out) hb); replace HO535 := am (Kd.R_below (rf1 BK558.out HO535.out) hb); replace HO538 := am (Kd.R_below (rf1 BK558.out HO538.out) hb); replace HO541 := am (Kd.R_below (rf1 BK558.out HO541.out) hb); replace HO544 := am (Kd.R_below (rf1 BK558.out HO544.out) hb); replace HO547 := am (Kd.R_below (rf1 BK558.out HO547.out) hb); replace HO550 := am (Kd.R_below (rf1 BK558.out HO550.out) hb); replace HO553 := am (Kd.R_below (rf1 BK558.out HO553.out) hb); replace HO556 := am (Kd.R_below (rf1 BK558.out HO556.out) hb); replace BK452 := am (blk_below (g := gb452) (o := .cells #[.slice A0_0 l0_0.length c0_0, .slice A0_1 l0_1.length c0_1, .slice A0_2 l0_2.length c0_2, .slice A0_3 l0_3.length c0_3] 26 (0, 0)) (kf1 NB452_558.out BK452.out) hb); replace BK479 := am (blk_below (g := gb479) (o := .cells #[.slice Ao23 t466.length co23, .slice Ao26 t469.length co26, .slice Ao27 t472.length co27, .slice Ao28 t475.length co28] 30 (0, 0)) (kf1 NB479_558.out BK479.out) hb); replace BK506 := am (blk_below (g := gb506) (o := .cells #[.slice Ao41 t493.length co41, .slice Ao46 t496.length co46, .slice Ao47 t499.length co47, .slice Ao48 t502.length co48] 30 (0, 0)) (kf1 NB506_558.out BK506.out) hb); replace BK558 := am (blk_below (g := gb558) (o := .cells #[.slice Ao127 t545.length co127, .slice Ao132 t548.length co132, .slice Ao133 t551.length co133, .slice Ao134 t554.length co134] 30 (0, 0)) (kp4 (kf0 BK558.out)) hb); replace HB := am (below_step (bs4 GE452.out GE479.out GE506.out GE558.out HB.out) hb); (try clear hb); (try clear hb2); (try clear hk); (try clear hi)))
             go_meet
             case rel => exact ⟨_, (true), (by first | rfl | (simp; done) | (simp [*]; done)), H', ⟨by have := HJ10.out; have := HJ71.out; first | omega | exact Nat.le_refl _⟩, ⟨rl (Kd.R_mono HO_507000.out (fun _ hk => by simp only [ne_eq] at hk ⊢; simp only [hk, not_false_eq_true, and_self]))⟩, ⟨rl (Kd.R_mono HO_507001.out (fun _ hk => by simp only [ne_eq] at hk ⊢; simp only [hk, not_false_eq_true, and_self]))⟩, ⟨rl (Kd.R_mono HO_507002.out (fun _ hk => by simp only [ne_eq] at hk ⊢; simp only [hk, not_false_eq_true, and_self]))⟩, ⟨rl (Kd.R_mono HO_507003.out (fun _ hk => by simp only [ne_eq] at hk ⊢; simp only [hk, not_false_eq_true, and_self]))⟩, ⟨kl BK506.out⟩, ⟨by exact bs4 GE452.out GE479.out GE506.out GE558.out HB.out⟩⟩
           case rest =>
            clear HC111
            try clear c1
            try clear c2
            try clear p2
            try clear c3
            try clear c3b0
            try clear c4
            try clear c5
            try clear c6
            try clear c7
            try clear c8
            try clear c9
            try clear c10
            try clear c11
            try clear c12
            try clear c13
            try clear c14
            try clear c15
            try clear c17
            try clear c19
            try clear c21
            try clear c22
            try clear c23
            try clear c24
            try clear c25
            try clear c33
            try clear c34
            try clear c42
            try clear c43
            try clear c44
            try clear c50
            try clear c51
            try clear c52
            try clear c53
            try clear c55
            try clear c56
            try clear c59
            try clear c60
            try clear c61
            try clear c63
            try clear c64
            try clear c67
            try clear c70
            try clear c80
            try clear c81
            try clear c82
            try clear c85
            try clear c85b0
            try clear c87
            try clear c88
            try clear c89
            try clear c90
            try clear c92
            try clear c93
            try clear c96
            try clear c97
            try clear c98
            try clear c100
            try clear c101
            try clear c104
            try clear c107
            try clear c107b0
            try clear c108
            try clear c108b0
            try clear c108b1
            try clear c112
            try clear c113
            try clear c118
            try clear c128
            try clear c129
            try clear c130
            try clear c136
            try clear c137
            try clear c138
            try clear c139
            try clear c141
            try clear c142
            try clear c145
            try clear c146
            try clear c147
            try clear c149
            try clear c150
            try clear hcz102_0
            try clear hcz102_1
            try clear hcz102_2
            try clear hcz102_3
            try clear hcz114_0
            try clear hcz114_1
            try clear hcz114_2
            try clear hcz114_3
            try clear hcz116_0
            try clear hcz116_1
            try clear hcz116_2
            try clear hcz116_3
            try clear hcz119_0
            try clear hcz119_1
            try clear hcz119_2
            try clear hcz119_3
            try clear hcz131_0
            try clear hcz131_1
            try clear hcz131_2
            try clear hcz131_3
            try clear hcz13_0
            try clear hcz13_1
            try clear hcz13_2
            try clear hcz13_3
            try clear hcz140_0
            try clear hcz140_1
            try clear hcz140_2
            try clear hcz140_3
            try clear hcz143_0
            try clear hcz143_1
            try clear hcz143_2
            try clear hcz143_3
            try clear hcz148_0
            try clear hcz148_1
            try clear hcz148_2
            try clear hcz148_3
            try clear hcz151_0
            try clear hcz151_1
            try clear hcz151_2
            try clear hcz151_3
            try clear hcz15_0
            try clear hcz15_1
            try clear hcz15_2
            try clear hcz15_3
            try clear hcz25_0
            try clear hcz25_1
            try clear hcz25_2
            try clear hcz25_3
            try clear hcz29_0
            try clear hcz29_1
            try clear hcz29_2
            try clear hcz29_3
            try clear hcz35_0
            try clear hcz35_1
            try clear hcz35_2
            try clear hcz35_3
            try clear hcz45_0
            try clear hcz45_1
            try clear hcz45_2
            try clear hcz45_3
            try clear hcz54_0
            try clear hcz54_1
            try clear hcz54_2
            try clear hcz54_3
            try clear hcz57_0
            try clear hcz57_1
            try clear hcz57_2
            try clear hcz57_3
            try clear hcz5_0
            try clear hcz5_1
            try clear hcz5_2
            try clear hcz5_3
            try clear hcz62_0
            try clear hcz62_1
            try clear hcz62_2
            try clear hcz62_3
            try clear hcz65_0
            try clear hcz65_1
            try clear hcz65_2
            try clear hcz65_3
            try clear hcz83_0
            try clear hcz83_1
            try clear hcz83_2
            try clear hcz83_3
            try clear hcz91_0
            try clear hcz91_1
            try clear hcz91_2
            try clear hcz91_3
            try clear hcz94_0
            try clear hcz94_1
            try clear hcz94_2
            try clear hcz94_3
            try clear hcz99_0
            try clear hcz99_1
            try clear hcz99_2
            try clear hcz99_3
            try clear hfz102_0
            try clear hfz102_1
            try clear hfz102_2
            try clear hfz102_3
            try clear hfz114_0
            try clear hfz114_1
            try clear hfz114_2
            try clear hfz114_3
            try clear hfz116_0
            try clear hfz116_1
            try clear hfz116_2
            try clear hfz116_3
            try clear hfz119_0
            try clear hfz119_1
            try clear hfz119_2
            try clear hfz119_3
            try clear hfz131_0
            try clear hfz131_1
            try clear hfz131_2
            try clear hfz131_3
            try clear hfz13_0
            try clear hfz13_1
            try clear hfz13_2
            try clear hfz13_3
            try clear hfz140_0
            try clear hfz140_1
            try clear hfz140_2
            try clear hfz140_3
            try clear hfz143_0
            try clear hfz143_1
            try clear hfz143_2
            try clear hfz143_3
            try clear hfz148_0
            try clear hfz148_1
            try clear hfz148_2
            try clear hfz148_3
            try clear hfz151_0
            try clear hfz151_1
            try clear hfz151_2
            try clear hfz151_3
            try clear hfz15_0
            try clear hfz15_1
            try clear hfz15_2
            try clear hfz15_3
            try clear hfz25_0
            try clear hfz25_1
            try clear hfz25_2
            try clear hfz25_3
            try clear hfz29_0
            try clear hfz29_1
            try clear hfz29_2
            try clear hfz29_3
            try clear hfz35_0
            try clear hfz35_1
            try clear hfz35_2
            try clear hfz35_3
            try clear hfz45_0
            try clear hfz45_1
            try clear hfz45_2
            try clear hfz45_3
            try clear hfz54_0
            try clear hfz54_1
            try clear hfz54_2
            try clear hfz54_3
            try clear hfz57_0
            try clear hfz57_1
            try clear hfz57_2
            try clear hfz57_3
            try clear hfz5_0
            try clear hfz5_1
            try clear hfz5_2
            try clear hfz5_3
            try clear hfz62_0
            try clear hfz62_1
            try clear hfz62_2
            try clear hfz62_3
            try clear hfz65_0
            try clear hfz65_1
            try clear hfz65_2
            try clear hfz65_3
            try clear hfz83_0
            try clear hfz83_1
            try clear hfz83_2
            try clear hfz83_3
            try clear hfz91_0
            try clear hfz91_1
            try clear hfz91_2
            try clear hfz91_3
            try clear hfz94_0
            try clear hfz94_1
            try clear hfz94_2
            try clear hfz94_3
            try clear hfz99_0
            try clear hfz99_1
            try clear hfz99_2
            try clear hfz99_3
            try clear p2
            obtain ⟨kq, x87_110, rfl, HA, HJ110, HO_507000, HO_507001, HO_507002, HO_507003, BK506, HB⟩ := hcut
            have hl507000_110 := (Kd.R_reads' HO_507000.out).1
            rw [hl507000_110] at HO_507000
            (try simp only [hl507000_110])
            (try simp only [hl507000_110] at BK506)
            (try simp only [hl507000_110] at HO_507001)
            (try simp only [hl507000_110] at HO_507002)
            (try simp only [hl507000_110] at HO_507003)
            have hl507001_110 := (Kd.R_reads' HO_507001.out).1
            rw [hl507001_110] at HO_507001
            (try simp only [hl507001_110])
            (try simp only [hl507001_110] at BK506)
            (try simp only [hl507001_110] at HO_507000)
            (try simp only [hl507001_110] at HO_507002)
            (try simp only [hl507001_110] at HO_507003)
            have hl507002_110 := (Kd.R_reads' HO_507002.out).1
            rw [hl507002_110] at HO_507002
            (try simp only [hl507002_110])
            (try simp only [hl507002_110] at BK506)
            (try simp only [hl507002_110] at HO_507000)
            (try simp only [hl507002_110] at HO_507001)
            (try simp only [hl507002_110] at HO_507003)
            have hl507003_110 := (Kd.R_reads' HO_507003.out).1
            rw [hl507003_110] at HO_507003
            (try simp only [hl507003_110])
            (try simp only [hl507003_110] at BK506)
            (try simp only [hl507003_110] at HO_507000)
            (try simp only [hl507003_110] at HO_507001)
            (try simp only [hl507003_110] at HO_507002)
            cases kq with
            | zero => exact absurd HA.out (by simp [laws_FnExactShadeRoots.j2])
            | succ kj110 =>
             have H := HA.out
             clear HA
             simp only [laws_FnExactShadeRoots.j2] at H
             by_cases c153 : x87_110 = true
             ·subst c153
              have H1 : (none) = some r := by rw [if_pos rfl] at H; exact H
              clear H
              have H := H1
              clear H1
              exact absurd H (by simp)
             ·replace c153 := Bool.eq_false_iff.mpr c153
              subst c153
              have H1 : ((laws_heldColored.f kj110 t528 t529 t530 t531 1).bind fun t560 => (if t560 < 0 then (none) else (if t560 = t527 then (some true) else (none)))) = some r := by rw [if_neg (show ¬ (false = true) by decide)] at H; exact H
              clear H
              have H := H1
              clear H1
              replace H := Option.bind_eq_some_iff.mp H
              obtain ⟨t560, A1540, H⟩ := H
              replace H : (if t560 < 0 then (none) else (if t560 = t527 then (some true) else (none))) = some r := H
              have A154 := am A1540
              clear A1540
              by_cases c155 : t560 < 0
              ·rw [if_pos c155] at H
               exact absurd H (by simp)
              ·rw [if_neg c155] at H
               have c155b0 : decide (t560 < 0) = false := decide_eq_false c155
               clear c155
               by_cases c156 : t560 = t527
               ·rw [if_pos c156] at H
                have c156b0 : (t560 == t527) = true := beq_iff_eq.mpr c156
                have c156b1 : (t560 != t527) = false := bne_eq_false_iff_eq.mpr c156
                clear c156
                obtain rfl := Option.some.inj H
                have hcz157_0 : wc.cell? ⟨gb506, 0, none⟩ = some (.slice Ao41 t528.length co41) := (blk_cell BK506.out 0).trans rfl
                have hcz157_1 : wc.cell? ⟨gb506, 1, none⟩ = some (.slice Ao46 t529.length co46) := (blk_cell BK506.out 1).trans rfl
                have hcz157_2 : wc.cell? ⟨gb506, 2, none⟩ = some (.slice Ao47 t530.length co47) := (blk_cell BK506.out 2).trans rfl
                have hcz157_3 : wc.cell? ⟨gb506, 3, none⟩ = some (.slice Ao48 t531.length co48) := (blk_cell BK506.out 3).trans rfl
                have hfz157_0 := blk_frozen BK506.out 0
                have hfz157_1 := blk_frozen BK506.out 1
                have hfz157_2 := blk_frozen BK506.out 2
                have hfz157_3 := blk_frozen BK506.out 3
                go_wp2_with (first | ((with_reducible refine gate_callee (f := 23) rfl ?_); refine goesL_ (some 90) rfl rfl Try.func23 (by kernel_rfl) rfl #[.agg #[.slice Ao41 t528.length co41, .slice Ao46 t529.length co46, .slice Ao47 t530.length co47, .slice Ao48 t531.length co48], .int .i64 1] rfl (by (try simp only [List.map_toArray, List.map_cons, List.map_nil]); first | done | rfl | (simp only [List.length_drop, List.length_take]; rfl)) ?_; (with_reducible refine (laws_heldColored.calls kj110 _ _ t528 _ _ t529 _ _ t530 _ _ t531 1 t560 _ ?side1 ?side2 ?side3 ?side4 ?side5 ?side6 ?side7 ?side8 A154.out).mono ?_); (case side1 => exact cl ((Kd.R_reads' HO_507000.out).2.2)); (case side2 => exact (Kd.R_reads' HO_507000.out).2.1); (case side3 => exact cl ((Kd.R_reads' HO_507001.out).2.2)); (case side4 => exact (Kd.R_reads' HO_507001.out).2.1); (case side5 => exact cl ((Kd.R_reads' HO_507002.out).2.2)); (case side6 => exact (Kd.R_reads' HO_507002.out).2.1); (case side7 => exact cl ((Kd.R_reads' HO_507003.out).2.2)); (case side8 => exact (Kd.R_reads' HO_507003.out).2.1); rintro e w158 ⟨rfl, hb⟩; refine ⟨_, rfl, ?_⟩; replace HO_507000 := am (Kd.R_below (rl HO_507000.out) hb); replace HO_507001 := am (Kd.R_below (rl HO_507001.out) hb); replace HO_507002 := am (Kd.R_below (rl HO_507002.out) hb); replace HO_507003 := am (Kd.R_below (rl HO_507003.out) hb); replace BK506 := am (blk_below (g := gb506) (o := .cells #[.slice Ao41 t528.length co41, .slice Ao46 t529.length co46, .slice Ao47 t530.length co47, .slice Ao48 t531.length co48] 30 (0, 0)) (kl BK506.out) hb); replace HB := am (below_step (bs1 GE506.out HB.out) hb); (try clear hb); (try clear hb2); (try clear hk); (try clear hi)))
                go_ret
                exact ⟨by first | rfl | (simp [errW_none, errW_some] <;> rfl) | (simp [*, errW_none, errW_some] <;> rfl), by exact bs1 GE506.out HB.out⟩
               ·rw [if_neg c156] at H
                exact absurd H (by simp)
          ·rw [if_neg c108] at H
           exact absurd H (by simp)
     ·replace c70 := Bool.eq_false_iff.mpr c70
      subst c70
      have H1 : (none) = some r := by rw [if_neg (show ¬ (false = true) by decide)] at H; exact H
      clear H
      have H := H1
      clear H1
      exact absurd H (by simp)

end Go.Proofs.Ytkbaggfkidalfaa.A
