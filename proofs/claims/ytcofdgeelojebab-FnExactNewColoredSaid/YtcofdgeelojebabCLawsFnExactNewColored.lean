/- Contracts of functions of the given program (CLawsFnExactNewColored). No conditions beyond those stated. -/
import Derived.Test.YtcofdgeelojebabA0
import Derived.Test.YtcofdgeelojebabAImplNewColored
import Derived.Test.YtcofdgeelojebabALawsEqColored
import Derived.Test.YtcofdgeelojebabALawsEqHeap
import Derived.Test.YtcofdgeelojebabALawsHeldColored
import Derived.Test.YtcofdgeelojebabALawsMarkColored
import Derived.Test.YtcofdgeelojebabALawsMarkHeap
import Derived.Test.YtcofdgeelojebabALawsSzHeap
import Derived.Test.YtcofdgeelojebabALawsToHeap
import Derived.Test.YtcofdgeelojebabASpecNewColored
import Derived.Test.YtcofdgeelojebabA0
namespace Go.Proofs.Ytcofdgeelojebab.A
open Go.RowKit Go.Proofs.YtcofdgeelojebabW.PrintWords Go.Proofs.YtcofdgeelojebabW.PrintLast Go.Proofs.YtcofdgeelojebabW.PrintMore
attribute [local go_sem] max2_int min2_int max_two min_two max_three min_three max_four min_four   -- for this text's walks alone
set_option linter.unusedVariables false
set_option linter.unusedSimpArgs false

/-! ### laws_FnExactNewColored -/
mutual
def laws_FnExactNewColored.j0 : Nat → Bool → Bool → Bool → List Int → List Int → List Int → List Int → List Int → List Int → List Int → List Int → List Int → List Int → List Int → List Int → List Int → List Int → Option (Bool)
  | 0, _, _, _, _, _, _, _, _, _, _, _, _, _, _, _, _, _ => none
  | k + 1, x5, x8, x40, x864000, x864001, x864002, x888000, x888001, x888002, x888003, x898000, x898001, x898002, x912000, x912001, x912002, x912003 => if x40 = true then (none) else ((laws_toHeap.f k x864000 x864001 x864002).bind fun bt913 => ((laws_eqHeap.f k x898000 x898001 x898002 bt913.1 bt913.2.1 bt913.2.2).bind fun t922 => (if t922 = true then ((laws_markHeap.f k x898000 x898001 x898002 1).bind fun bt923 => (if bt923.1 < 0 then (laws_FnExactNewColored.j1 k x5 true x864000 x864001 x864002 x888000 x888001 x888002 x888003 x912000 x912001 x912002 x912003) else ((laws_eqColored.f k x912000 x912001 x912002 x912003 x888000 x888001 x888002 x888003).bind fun t927 => (if t927 = true then (laws_FnExactNewColored.j1 k x5 (x8 != x5) x864000 x864001 x864002 x888000 x888001 x888002 x888003 x912000 x912001 x912002 x912003) else (laws_FnExactNewColored.j1 k x5 true x864000 x864001 x864002 x888000 x888001 x888002 x888003 x912000 x912001 x912002 x912003))))) else (none))))
def laws_FnExactNewColored.j1 : Nat → Bool → Bool → List Int → List Int → List Int → List Int → List Int → List Int → List Int → List Int → List Int → List Int → List Int → Option (Bool)
  | 0, _, _, _, _, _, _, _, _, _, _, _, _, _ => none
  | k + 1, x5, x61, x864000, x864001, x864002, x888000, x888001, x888002, x888003, x912000, x912001, x912002, x912003 => if x61 = true then (none) else ((laws_markColored.f k x912000 x912001 x912002 x912003 1).bind fun bt928 => ((laws_heldColored.f k bt928.2.1 bt928.2.2.1 bt928.2.2.2.1 bt928.2.2.2.2 1).bind fun t933 => (if t933 < 0 then (none) else (if t933 = bt928.1 then ((laws_toHeap.f k x864000 x864001 x864002).bind fun bt934 => ((impl_NewColored.f k bt934.1 bt934.2.1 bt934.2.2).bind fun bt943 => ((laws_eqColored.f k bt943.1 bt943.2.1 bt943.2.2.1 bt943.2.2.2.1 x888000 x888001 x888002 x888003).bind fun t957 => (if t957 = true then (laws_FnExactNewColored.j2 k bt928.1 (bt943.2.2.2.2 != x5) bt928.2.1 bt928.2.2.1 bt928.2.2.2.1 bt928.2.2.2.2) else (laws_FnExactNewColored.j2 k bt928.1 true bt928.2.1 bt928.2.2.1 bt928.2.2.2.1 bt928.2.2.2.2))))) else (none)))))
def laws_FnExactNewColored.j2 : Nat → Int → Bool → List Int → List Int → List Int → List Int → Option (Bool)
  | 0, _, _, _, _, _, _ => none
  | k + 1, x10, x87, x912000, x912001, x912002, x912003 => if x87 = true then (none) else ((laws_heldColored.f k x912000 x912001 x912002 x912003 1).bind fun t958 => (if t958 < 0 then (none) else (if t958 = x10 then (some true) else (none))))
end
def laws_FnExactNewColored.f (k : Nat) (l0_0 : List Int) (l0_1 : List Int) (l0_2 : List Int) : Option (Bool) := (laws_szHeap.f l0_0 l0_1 l0_2 1048576).bind fun t864 => (if t864 < 0 then (some true) else ((laws_toHeap.f k l0_0 l0_1 l0_2).bind fun bt865 => ((spec_NewColored.f k bt865.1 bt865.2.1 bt865.2.2).bind fun bt874 => ((laws_toHeap.f k l0_0 l0_1 l0_2).bind fun bt888 => ((impl_NewColored.f k bt888.1 bt888.2.1 bt888.2.2).bind fun bt898 => ((laws_eqColored.f k bt898.1 bt898.2.1 bt898.2.2.1 bt898.2.2.2.1 bt874.1 bt874.2.1 bt874.2.2.1 bt874.2.2.2.1).bind fun t912 => (if t912 = true then (laws_FnExactNewColored.j0 k bt874.2.2.2.2 bt898.2.2.2.2 (bt898.2.2.2.2 != bt874.2.2.2.2) l0_0 l0_1 l0_2 bt874.1 bt874.2.1 bt874.2.2.1 bt874.2.2.2.1 bt888.1 bt888.2.1 bt888.2.2 bt898.1 bt898.2.1 bt898.2.2.1 bt898.2.2.2.1) else (laws_FnExactNewColored.j0 k bt874.2.2.2.2 bt898.2.2.2.2 true l0_0 l0_1 l0_2 bt874.1 bt874.2.1 bt874.2.2.1 bt874.2.2.2.1 bt888.1 bt888.2.1 bt888.2.2 bt898.1 bt898.2.1 bt898.2.2.1 bt898.2.2.2.1))))))))
theorem laws_FnExactNewColored.mono_l : ∀ k, (∀ y0 y1 y2 y3 y4 y5 y6 y7 y8 y9 y10 y11 y12 y13 y14 y15 y16, LeO (laws_FnExactNewColored.j0 k y0 y1 y2 y3 y4 y5 y6 y7 y8 y9 y10 y11 y12 y13 y14 y15 y16) (laws_FnExactNewColored.j0 (k + 1) y0 y1 y2 y3 y4 y5 y6 y7 y8 y9 y10 y11 y12 y13 y14 y15 y16)) ∧ (∀ y0 y1 y2 y3 y4 y5 y6 y7 y8 y9 y10 y11 y12, LeO (laws_FnExactNewColored.j1 k y0 y1 y2 y3 y4 y5 y6 y7 y8 y9 y10 y11 y12) (laws_FnExactNewColored.j1 (k + 1) y0 y1 y2 y3 y4 y5 y6 y7 y8 y9 y10 y11 y12)) ∧ (∀ y0 y1 y2 y3 y4 y5, LeO (laws_FnExactNewColored.j2 k y0 y1 y2 y3 y4 y5) (laws_FnExactNewColored.j2 (k + 1) y0 y1 y2 y3 y4 y5))
  | 0 => ⟨fun _ _ _ _ _ _ _ _ _ _ _ _ _ _ _ _ _ r h => by simp [laws_FnExactNewColored.j0] at h, fun _ _ _ _ _ _ _ _ _ _ _ _ _ r h => by simp [laws_FnExactNewColored.j1] at h, fun _ _ _ _ _ _ r h => by simp [laws_FnExactNewColored.j2] at h⟩
  | k + 1 => by
    obtain ⟨ih0, ih1, ih2⟩ := laws_FnExactNewColored.mono_l k
    refine ⟨?_, ?_, ?_⟩
    · intro y0 y1 y2 y3 y4 y5 y6 y7 y8 y9 y10 y11 y12 y13 y14 y15 y16
      unfold laws_FnExactNewColored.j0
      repeat' first
      | (with_reducible exact ih0 _ _ _ _ _ _ _ _ _ _ _ _ _ _ _ _ _)
      | (with_reducible exact ih1 _ _ _ _ _ _ _ _ _ _ _ _ _)
      | (with_reducible exact ih2 _ _ _ _ _ _)
      | (with_reducible exact impl_NewColored.mono _ _ _ _)
      | (with_reducible exact laws_eqColored.mono _ _ _ _ _ _ _ _ _)
      | (with_reducible exact laws_eqHeap.mono _ _ _ _ _ _ _)
      | (with_reducible exact laws_heldColored.mono _ _ _ _ _ _)
      | (with_reducible exact laws_markColored.mono _ _ _ _ _ _)
      | (with_reducible exact laws_markHeap.mono _ _ _ _ _)
      | (with_reducible exact laws_toHeap.mono _ _ _ _)
      | (with_reducible exact spec_NewColored.mono _ _ _ _)
      | (with_reducible exact LeO.refl _)
      | (with_reducible exact LeO.none _)
      | (with_reducible refine LeO.ite ?_ ?_)
      | (with_reducible refine LeO.bind ?_ (fun _ => ?_))
      | exact ih0 _ _ _ _ _ _ _ _ _ _ _ _ _ _ _ _ _
      | exact ih1 _ _ _ _ _ _ _ _ _ _ _ _ _
      | exact ih2 _ _ _ _ _ _
      | exact impl_NewColored.mono _ _ _ _
      | exact laws_eqColored.mono _ _ _ _ _ _ _ _ _
      | exact laws_eqHeap.mono _ _ _ _ _ _ _
      | exact laws_heldColored.mono _ _ _ _ _ _
      | exact laws_markColored.mono _ _ _ _ _ _
      | exact laws_markHeap.mono _ _ _ _ _
      | exact laws_toHeap.mono _ _ _ _
      | exact spec_NewColored.mono _ _ _ _
      | exact LeO.none _
      | refine LeO.ite ?_ ?_
      | refine LeO.bind ?_ (fun _ => ?_)
    · intro y0 y1 y2 y3 y4 y5 y6 y7 y8 y9 y10 y11 y12
      unfold laws_FnExactNewColored.j1
      repeat' first
      | (with_reducible exact ih0 _ _ _ _ _ _ _ _ _ _ _ _ _ _ _ _ _)
      | (with_reducible exact ih1 _ _ _ _ _ _ _ _ _ _ _ _ _)
      | (with_reducible exact ih2 _ _ _ _ _ _)
      | (with_reducible exact impl_NewColored.mono _ _ _ _)
      | (with_reducible exact laws_eqColored.mono _ _ _ _ _ _ _ _ _)
      | (with_reducible exact laws_eqHeap.mono _ _ _ _ _ _ _)
      | (with_reducible exact laws_heldColored.mono _ _ _ _ _ _)
      | (with_reducible exact laws_markColored.mono _ _ _ _ _ _)
      | (with_reducible exact laws_markHeap.mono _ _ _ _ _)
      | (with_reducible exact laws_toHeap.mono _ _ _ _)
      | (with_reducible exact spec_NewColored.mono _ _ _ _)
      | (with_reducible exact LeO.refl _)
      | (with_reducible exact LeO.none _)
      | (with_reducible refine LeO.ite ?_ ?_)
      | (with_reducible refine LeO.bind ?_ (fun _ => ?_))
      | exact ih0 _ _ _ _ _ _ _ _ _ _ _ _ _ _ _ _ _
      | exact ih1 _ _ _ _ _ _ _ _ _ _ _ _ _
      | exact ih2 _ _ _ _ _ _
      | exact impl_NewColored.mono _ _ _ _
      | exact laws_eqColored.mono _ _ _ _ _ _ _ _ _
      | exact laws_eqHeap.mono _ _ _ _ _ _ _
      | exact laws_heldColored.mono _ _ _ _ _ _
      | exact laws_markColored.mono _ _ _ _ _ _
      | exact laws_markHeap.mono _ _ _ _ _
      | exact laws_toHeap.mono _ _ _ _
      | exact spec_NewColored.mono _ _ _ _
      | exact LeO.none _
      | refine LeO.ite ?_ ?_
      | refine LeO.bind ?_ (fun _ => ?_)
    · intro y0 y1 y2 y3 y4 y5
      unfold laws_FnExactNewColored.j2
      repeat' first
      | (with_reducible exact ih0 _ _ _ _ _ _ _ _ _ _ _ _ _ _ _ _ _)
      | (with_reducible exact ih1 _ _ _ _ _ _ _ _ _ _ _ _ _)
      | (with_reducible exact ih2 _ _ _ _ _ _)
      | (with_reducible exact impl_NewColored.mono _ _ _ _)
      | (with_reducible exact laws_eqColored.mono _ _ _ _ _ _ _ _ _)
      | (with_reducible exact laws_eqHeap.mono _ _ _ _ _ _ _)
      | (with_reducible exact laws_heldColored.mono _ _ _ _ _ _)
      | (with_reducible exact laws_markColored.mono _ _ _ _ _ _)
      | (with_reducible exact laws_markHeap.mono _ _ _ _ _)
      | (with_reducible exact laws_toHeap.mono _ _ _ _)
      | (with_reducible exact spec_NewColored.mono _ _ _ _)
      | (with_reducible exact LeO.refl _)
      | (with_reducible exact LeO.none _)
      | (with_reducible refine LeO.ite ?_ ?_)
      | (with_reducible refine LeO.bind ?_ (fun _ => ?_))
      | exact ih0 _ _ _ _ _ _ _ _ _ _ _ _ _ _ _ _ _
      | exact ih1 _ _ _ _ _ _ _ _ _ _ _ _ _
      | exact ih2 _ _ _ _ _ _
      | exact impl_NewColored.mono _ _ _ _
      | exact laws_eqColored.mono _ _ _ _ _ _ _ _ _
      | exact laws_eqHeap.mono _ _ _ _ _ _ _
      | exact laws_heldColored.mono _ _ _ _ _ _
      | exact laws_markColored.mono _ _ _ _ _ _
      | exact laws_markHeap.mono _ _ _ _ _
      | exact laws_toHeap.mono _ _ _ _
      | exact spec_NewColored.mono _ _ _ _
      | exact LeO.none _
      | refine LeO.ite ?_ ?_
      | refine LeO.bind ?_ (fun _ => ?_)
theorem laws_FnExactNewColored.mono : ∀ a0 a1 a2 k, LeO (laws_FnExactNewColored.f k a0 a1 a2) (laws_FnExactNewColored.f (k + 1) a0 a1 a2) := by
  intro a0 a1 a2 k
  obtain ⟨ih0, ih1, ih2⟩ := laws_FnExactNewColored.mono_l k
  unfold laws_FnExactNewColored.f
  repeat' first
      | (with_reducible exact ih0 _ _ _ _ _ _ _ _ _ _ _ _ _ _ _ _ _)
      | (with_reducible exact ih1 _ _ _ _ _ _ _ _ _ _ _ _ _)
      | (with_reducible exact ih2 _ _ _ _ _ _)
      | (with_reducible exact impl_NewColored.mono _ _ _ _)
      | (with_reducible exact laws_eqColored.mono _ _ _ _ _ _ _ _ _)
      | (with_reducible exact laws_eqHeap.mono _ _ _ _ _ _ _)
      | (with_reducible exact laws_heldColored.mono _ _ _ _ _ _)
      | (with_reducible exact laws_markColored.mono _ _ _ _ _ _)
      | (with_reducible exact laws_markHeap.mono _ _ _ _ _)
      | (with_reducible exact laws_toHeap.mono _ _ _ _)
      | (with_reducible exact spec_NewColored.mono _ _ _ _)
      | (with_reducible exact LeO.refl _)
      | (with_reducible exact LeO.none _)
      | (with_reducible refine LeO.ite ?_ ?_)
      | (with_reducible refine LeO.bind ?_ (fun _ => ?_))
      | exact ih0 _ _ _ _ _ _ _ _ _ _ _ _ _ _ _ _ _
      | exact ih1 _ _ _ _ _ _ _ _ _ _ _ _ _
      | exact ih2 _ _ _ _ _ _
      | exact impl_NewColored.mono _ _ _ _
      | exact laws_eqColored.mono _ _ _ _ _ _ _ _ _
      | exact laws_eqHeap.mono _ _ _ _ _ _ _
      | exact laws_heldColored.mono _ _ _ _ _ _
      | exact laws_markColored.mono _ _ _ _ _ _
      | exact laws_markHeap.mono _ _ _ _ _
      | exact laws_toHeap.mono _ _ _ _
      | exact spec_NewColored.mono _ _ _ _
      | exact LeO.none _
      | refine LeO.ite ?_ ?_
      | refine LeO.bind ?_ (fun _ => ?_)
set_option maxHeartbeats 8000000 in
set_option maxRecDepth 100000 in
theorem laws_FnExactNewColored.calls (k : Nat) (A0_0 : Option Addr) (c0_0 : Nat) (l0_0 : List Int) (A0_1 : Option Addr) (c0_1 : Nat) (l0_1 : List Int) (A0_2 : Option Addr) (c0_2 : Nat) (l0_2 : List Int) (r : Bool) (w : World) (hr0_0 : Kd.C (Kd.int .i64) w A0_0 l0_0.length l0_0) (hc0_0 : l0_0.length ≤ c0_0) (hr0_1 : Kd.C (Kd.int .i64) w A0_1 l0_1.length l0_1) (hc0_1 : l0_1.length ≤ c0_1) (hr0_2 : Kd.C (Kd.int .i64) w A0_2 l0_2.length l0_2) (hc0_2 : l0_2.length ≤ c0_2) (h : laws_FnExactNewColored.f k l0_0 l0_1 l0_2 = some r) :
    Calls Try.prog 9 #[.agg #[.slice A0_0 l0_0.length c0_0, .slice A0_1 l0_1.length c0_1, .slice A0_2 l0_2.length c0_2]] w fun e w' => e = .returned (.bool r) ∧ Below w.heap.size w w' := by
  have hu38 := Try.underlying38
  have hu48 := Try.underlying48
  have hu25 := Try.underlying25
  have HR0_0 := am hr0_0
  have HC0_0 := am hc0_0
  clear hr0_0 hc0_0
  have HR0_1 := am hr0_1
  have HC0_1 := am hc0_1
  clear hr0_1 hc0_1
  have HR0_2 := am hr0_2
  have HC0_2 := am hc0_2
  clear hr0_2 hc0_2
  have HB := am (Below.refl w.heap.size w)
  have H : ((laws_szHeap.f l0_0 l0_1 l0_2 1048576).bind fun t864 => (if t864 < 0 then (some true) else ((laws_toHeap.f k l0_0 l0_1 l0_2).bind fun bt865 => ((spec_NewColored.f k bt865.1 bt865.2.1 bt865.2.2).bind fun bt874 => ((laws_toHeap.f k l0_0 l0_1 l0_2).bind fun bt888 => ((impl_NewColored.f k bt888.1 bt888.2.1 bt888.2.2).bind fun bt898 => ((laws_eqColored.f k bt898.1 bt898.2.1 bt898.2.2.1 bt898.2.2.2.1 bt874.1 bt874.2.1 bt874.2.2.1 bt874.2.2.2.1).bind fun t912 => (if t912 = true then (laws_FnExactNewColored.j0 k bt874.2.2.2.2 bt898.2.2.2.2 (bt898.2.2.2.2 != bt874.2.2.2.2) l0_0 l0_1 l0_2 bt874.1 bt874.2.1 bt874.2.2.1 bt874.2.2.2.1 bt888.1 bt888.2.1 bt888.2.2 bt898.1 bt898.2.1 bt898.2.2.1 bt898.2.2.2.1) else (laws_FnExactNewColored.j0 k bt874.2.2.2.2 bt898.2.2.2.2 true l0_0 l0_1 l0_2 bt874.1 bt874.2.1 bt874.2.2.1 bt874.2.2.2.1 bt888.1 bt888.2.1 bt888.2.2 bt898.1 bt898.2.1 bt898.2.2.1 bt898.2.2.2.1))))))))) = some r := h
  clear h
  replace H := Option.bind_eq_some_iff.mp H
  obtain ⟨t864, A20, H⟩ := H
  replace H : (if t864 < 0 then (some true) else ((laws_toHeap.f k l0_0 l0_1 l0_2).bind fun bt865 => ((spec_NewColored.f k bt865.1 bt865.2.1 bt865.2.2).bind fun bt874 => ((laws_toHeap.f k l0_0 l0_1 l0_2).bind fun bt888 => ((impl_NewColored.f k bt888.1 bt888.2.1 bt888.2.2).bind fun bt898 => ((laws_eqColored.f k bt898.1 bt898.2.1 bt898.2.2.1 bt898.2.2.2.1 bt874.1 bt874.2.1 bt874.2.2.1 bt874.2.2.2.1).bind fun t912 => (if t912 = true then (laws_FnExactNewColored.j0 k bt874.2.2.2.2 bt898.2.2.2.2 (bt898.2.2.2.2 != bt874.2.2.2.2) l0_0 l0_1 l0_2 bt874.1 bt874.2.1 bt874.2.2.1 bt874.2.2.2.1 bt888.1 bt888.2.1 bt888.2.2 bt898.1 bt898.2.1 bt898.2.2.1 bt898.2.2.2.1) else (laws_FnExactNewColored.j0 k bt874.2.2.2.2 bt898.2.2.2.2 true l0_0 l0_1 l0_2 bt874.1 bt874.2.1 bt874.2.2.1 bt874.2.2.2.1 bt888.1 bt888.2.1 bt888.2.2 bt898.1 bt898.2.1 bt898.2.2.1 bt898.2.2.2.1)))))))) = some r := H
  have A2 := am A20
  clear A20
  by_cases c3 : t864 < 0
  · rw [if_pos c3] at H
    have c3b0 : decide (t864 < 0) = true := decide_eq_true c3
    clear c3
    obtain rfl := Option.some.inj H
    go_enter Try.func9, Try.ntmps9
    go_wp2_with (first | ((with_reducible refine gate_dst (N := 1) rfl ?_); refine box_event ?hg (N := 1) ?hd (cs := #[.slice A0_0 l0_0.length c0_0, .slice A0_1 l0_1.length c0_1, .slice A0_2 l0_2.length c0_2]) (t := 38) ?hr ?_; (case hd => rfl); (case hg => rfl); (case hr => first | (go_simp; done) | (go_simp; rfl)); intro gb863 hg w4 hbox hb; have n0_ := am (below_step (bl HB.out) hb); have n1_ := am (hbox); have n2_ := am ((by rw [hg]; exact (below_size (bl HB.out)) : w.heap.size ≤ gb863)); have n3_ := am ((by rw [hg]; exact (below_size (bl HB.out)) : w.heap.size ≤ gb863)); clear HB; have HB := n0_; have BK863 := n1_; have GW863 := n2_; have GE863 := n3_; clear n0_ n1_ n2_ n3_; clear hb hbox hg; have hcz5_0 : w4.cell? ⟨gb863, 0, none⟩ = some (.slice A0_0 l0_0.length c0_0) := (blk_cell BK863.out 0).trans rfl; have hcz5_1 : w4.cell? ⟨gb863, 1, none⟩ = some (.slice A0_1 l0_1.length c0_1) := (blk_cell BK863.out 1).trans rfl; have hcz5_2 : w4.cell? ⟨gb863, 2, none⟩ = some (.slice A0_2 l0_2.length c0_2) := (blk_cell BK863.out 2).trans rfl; have hfz5_0 := blk_frozen BK863.out 0; have hfz5_1 := blk_frozen BK863.out 1; have hfz5_2 := blk_frozen BK863.out 2) | ((with_reducible refine gate_callee (f := 25) rfl ?_); refine goesL_ (some 16) rfl rfl Try.func25 (by kernel_rfl) rfl #[.agg #[.slice A0_0 l0_0.length c0_0, .slice A0_1 l0_1.length c0_1, .slice A0_2 l0_2.length c0_2], .int .i64 1048576] rfl (by (try simp only [List.map_toArray, List.map_cons, List.map_nil]); first | done | rfl | (simp only [List.length_drop, List.length_take]; rfl)) ?_; (with_reducible refine (laws_szHeap.calls _ _ l0_0 _ _ l0_1 _ _ l0_2 1048576 t864 _ ?side1 ?side2 ?side3 ?side4 ?side5 ?side6 A2.out).mono ?_); (case side1 => exact cl (Kd.C_below HR0_0.out HB.out)); (case side2 => exact HC0_0.out); (case side3 => exact cl (Kd.C_below HR0_1.out HB.out)); (case side4 => exact HC0_1.out); (case side5 => exact cl (Kd.C_below HR0_2.out HB.out)); (case side6 => exact HC0_2.out); rintro e w6 ⟨rfl, hb⟩; refine ⟨_, rfl, ?_⟩; have n0_ := am (blk_below (g := gb863) (o := .cells #[.slice A0_0 l0_0.length c0_0, .slice A0_1 l0_1.length c0_1, .slice A0_2 l0_2.length c0_2] 38 (0, 0)) (kl BK863.out) hb); have n1_ := am (below_step (by repeat (first | (with_reducible first | exact HB.out | apply below_alloc | apply pw_below_drewN | apply below_drew1 | refine below_set ?_ GE863.out) | exact HB.out)) hb); clear BK863; clear HB; have BK863 := n0_; have HB := n1_; clear n0_ n1_; (try clear hb); (try clear hb2); (try clear hk); (try clear hi)))
    go_ret
    exact ⟨by first | rfl | (simp [errW_none, errW_some] <;> rfl) | (simp [*, errW_none, errW_some] <;> rfl), by repeat (first | (with_reducible first | exact HB.out | apply below_alloc | apply pw_below_drewN | apply below_drew1 | refine below_set ?_ GE863.out) | exact HB.out)⟩
  · rw [if_neg c3] at H
    have c3b0 : decide (t864 < 0) = false := decide_eq_false c3
    clear c3
    replace H := Option.bind_eq_some_iff.mp H
    obtain ⟨⟨t865, t868, t871⟩, A70, H⟩ := H
    replace H : ((spec_NewColored.f k t865 t868 t871).bind fun bt874 => ((laws_toHeap.f k l0_0 l0_1 l0_2).bind fun bt888 => ((impl_NewColored.f k bt888.1 bt888.2.1 bt888.2.2).bind fun bt898 => ((laws_eqColored.f k bt898.1 bt898.2.1 bt898.2.2.1 bt898.2.2.2.1 bt874.1 bt874.2.1 bt874.2.2.1 bt874.2.2.2.1).bind fun t912 => (if t912 = true then (laws_FnExactNewColored.j0 k bt874.2.2.2.2 bt898.2.2.2.2 (bt898.2.2.2.2 != bt874.2.2.2.2) l0_0 l0_1 l0_2 bt874.1 bt874.2.1 bt874.2.2.1 bt874.2.2.2.1 bt888.1 bt888.2.1 bt888.2.2 bt898.1 bt898.2.1 bt898.2.2.1 bt898.2.2.2.1) else (laws_FnExactNewColored.j0 k bt874.2.2.2.2 bt898.2.2.2.2 true l0_0 l0_1 l0_2 bt874.1 bt874.2.1 bt874.2.2.1 bt874.2.2.2.1 bt888.1 bt888.2.1 bt888.2.2 bt898.1 bt898.2.1 bt898.2.2.1 bt898.2.2.2.1)))))) = some r := H
    have A7 := am A70
    clear A70
    replace H := Option.bind_eq_some_iff.mp H
    obtain ⟨⟨t874, t877, t880, t883, t886⟩, A80, H⟩ := H
    replace H : ((laws_toHeap.f k l0_0 l0_1 l0_2).bind fun bt888 => ((impl_NewColored.f k bt888.1 bt888.2.1 bt888.2.2).bind fun bt898 => ((laws_eqColored.f k bt898.1 bt898.2.1 bt898.2.2.1 bt898.2.2.2.1 t874 t877 t880 t883).bind fun t912 => (if t912 = true then (laws_FnExactNewColored.j0 k t886 bt898.2.2.2.2 (bt898.2.2.2.2 != t886) l0_0 l0_1 l0_2 t874 t877 t880 t883 bt888.1 bt888.2.1 bt888.2.2 bt898.1 bt898.2.1 bt898.2.2.1 bt898.2.2.2.1) else (laws_FnExactNewColored.j0 k t886 bt898.2.2.2.2 true l0_0 l0_1 l0_2 t874 t877 t880 t883 bt888.1 bt888.2.1 bt888.2.2 bt898.1 bt898.2.1 bt898.2.2.1 bt898.2.2.2.1))))) = some r := H
    have A8 := am A80
    clear A80
    replace H := Option.bind_eq_some_iff.mp H
    obtain ⟨⟨t888, t891, t894⟩, A90, H⟩ := H
    replace H : ((impl_NewColored.f k t888 t891 t894).bind fun bt898 => ((laws_eqColored.f k bt898.1 bt898.2.1 bt898.2.2.1 bt898.2.2.2.1 t874 t877 t880 t883).bind fun t912 => (if t912 = true then (laws_FnExactNewColored.j0 k t886 bt898.2.2.2.2 (bt898.2.2.2.2 != t886) l0_0 l0_1 l0_2 t874 t877 t880 t883 t888 t891 t894 bt898.1 bt898.2.1 bt898.2.2.1 bt898.2.2.2.1) else (laws_FnExactNewColored.j0 k t886 bt898.2.2.2.2 true l0_0 l0_1 l0_2 t874 t877 t880 t883 t888 t891 t894 bt898.1 bt898.2.1 bt898.2.2.1 bt898.2.2.2.1)))) = some r := H
    have A9 := am A90
    clear A90
    replace H := Option.bind_eq_some_iff.mp H
    obtain ⟨⟨t898, t901, t904, t907, t910⟩, A100, H⟩ := H
    replace H : ((laws_eqColored.f k t898 t901 t904 t907 t874 t877 t880 t883).bind fun t912 => (if t912 = true then (laws_FnExactNewColored.j0 k t886 t910 (t910 != t886) l0_0 l0_1 l0_2 t874 t877 t880 t883 t888 t891 t894 t898 t901 t904 t907) else (laws_FnExactNewColored.j0 k t886 t910 true l0_0 l0_1 l0_2 t874 t877 t880 t883 t888 t891 t894 t898 t901 t904 t907))) = some r := H
    have A10 := am A100
    clear A100
    have HC11 := am H
    clear H
    go_enter Try.func9, Try.ntmps9
    go_upto_region 8 with (first | ((with_reducible refine gate_dst (N := 1) rfl ?_); refine box_event ?hg (N := 1) ?hd (cs := #[.slice A0_0 l0_0.length c0_0, .slice A0_1 l0_1.length c0_1, .slice A0_2 l0_2.length c0_2]) (t := 38) ?hr ?_; (case hd => rfl); (case hg => rfl); (case hr => first | (go_simp; done) | (go_simp; rfl)); intro gb863 hg w12 hbox hb; have n0_ := am (below_step (bl HB.out) hb); have n1_ := am (hbox); have n2_ := am ((by rw [hg]; exact (below_size (bl HB.out)) : w.heap.size ≤ gb863)); have n3_ := am ((by rw [hg]; exact (below_size (bl HB.out)) : w.heap.size ≤ gb863)); clear HB; have HB := n0_; have BK863 := n1_; have GW863 := n2_; have GE863 := n3_; clear n0_ n1_ n2_ n3_; clear hb hbox hg; have hcz13_0 : w12.cell? ⟨gb863, 0, none⟩ = some (.slice A0_0 l0_0.length c0_0) := (blk_cell BK863.out 0).trans rfl; have hcz13_1 : w12.cell? ⟨gb863, 1, none⟩ = some (.slice A0_1 l0_1.length c0_1) := (blk_cell BK863.out 1).trans rfl; have hcz13_2 : w12.cell? ⟨gb863, 2, none⟩ = some (.slice A0_2 l0_2.length c0_2) := (blk_cell BK863.out 2).trans rfl; have hfz13_0 := blk_frozen BK863.out 0; have hfz13_1 := blk_frozen BK863.out 1; have hfz13_2 := blk_frozen BK863.out 2) | ((with_reducible refine gate_callee (f := 25) rfl ?_); refine goesL_ (some 16) rfl rfl Try.func25 (by kernel_rfl) rfl #[.agg #[.slice A0_0 l0_0.length c0_0, .slice A0_1 l0_1.length c0_1, .slice A0_2 l0_2.length c0_2], .int .i64 1048576] rfl (by (try simp only [List.map_toArray, List.map_cons, List.map_nil]); first | done | rfl | (simp only [List.length_drop, List.length_take]; rfl)) ?_; (with_reducible refine (laws_szHeap.calls _ _ l0_0 _ _ l0_1 _ _ l0_2 1048576 t864 _ ?side1 ?side2 ?side3 ?side4 ?side5 ?side6 A2.out).mono ?_); (case side1 => exact cl (Kd.C_below HR0_0.out HB.out)); (case side2 => exact HC0_0.out); (case side3 => exact cl (Kd.C_below HR0_1.out HB.out)); (case side4 => exact HC0_1.out); (case side5 => exact cl (Kd.C_below HR0_2.out HB.out)); (case side6 => exact HC0_2.out); rintro e w14 ⟨rfl, hb⟩; refine ⟨_, rfl, ?_⟩; have n0_ := am (blk_below (g := gb863) (o := .cells #[.slice A0_0 l0_0.length c0_0, .slice A0_1 l0_1.length c0_1, .slice A0_2 l0_2.length c0_2] 38 (0, 0)) (kl BK863.out) hb); have n1_ := am (below_step (by repeat (first | (with_reducible first | exact HB.out | apply below_alloc | apply pw_below_drewN | apply below_drew1 | refine below_set ?_ GE863.out) | exact HB.out)) hb); clear BK863; clear HB; have BK863 := n0_; have HB := n1_; clear n0_ n1_; (try clear hb); (try clear hb2); (try clear hk); (try clear hi); have hcz15_0 : w14.cell? ⟨gb863, 0, none⟩ = some (.slice A0_0 l0_0.length c0_0) := (blk_cell BK863.out 0).trans rfl; have hcz15_1 : w14.cell? ⟨gb863, 1, none⟩ = some (.slice A0_1 l0_1.length c0_1) := (blk_cell BK863.out 1).trans rfl; have hcz15_2 : w14.cell? ⟨gb863, 2, none⟩ = some (.slice A0_2 l0_2.length c0_2) := (blk_cell BK863.out 2).trans rfl; have hfz15_0 := blk_frozen BK863.out 0; have hfz15_1 := blk_frozen BK863.out 1; have hfz15_2 := blk_frozen BK863.out 2) | ((with_reducible refine gate_callee (f := 27) rfl ?_); refine goesL_ (some 21) rfl rfl Try.func27 (by kernel_rfl) rfl #[.agg #[.slice A0_0 l0_0.length c0_0, .slice A0_1 l0_1.length c0_1, .slice A0_2 l0_2.length c0_2]] rfl (by (try simp only [List.map_toArray, List.map_cons, List.map_nil]); first | done | rfl | (simp only [List.length_drop, List.length_take]; rfl)) ?_; (with_reducible refine (laws_toHeap.calls k _ _ l0_0 _ _ l0_1 _ _ l0_2 t865 t868 t871 _ ?side1 ?side2 ?side3 ?side4 ?side5 ?side6 A7.out).mono ?_); (case side1 => exact cl (Kd.C_below HR0_0.out HB.out)); (case side2 => exact HC0_0.out); (case side3 => exact cl (Kd.C_below HR0_1.out HB.out)); (case side4 => exact HC0_1.out); (case side5 => exact cl (Kd.C_below HR0_2.out HB.out)); (case side6 => exact HC0_2.out); rintro e w16 ⟨v866, v869, v872, rfl, ho0, ho1, ho2, hb⟩; refine ⟨_, rfl, ?_⟩; have n0_ := am (Kd.R_lower ho0 (below_size (by repeat (first | (with_reducible first | exact HB.out | apply below_alloc | apply pw_below_drewN | apply below_drew1 | refine below_set ?_ GE863.out) | exact HB.out)))); have n1_ := am (Kd.R_lower ho1 (below_size (by repeat (first | (with_reducible first | exact HB.out | apply below_alloc | apply pw_below_drewN | apply below_drew1 | refine below_set ?_ GE863.out) | exact HB.out)))); have n2_ := am (Kd.R_lower ho2 (below_size (by repeat (first | (with_reducible first | exact HB.out | apply below_alloc | apply pw_below_drewN | apply below_drew1 | refine below_set ?_ GE863.out) | exact HB.out)))); have n3_ := am (blk_below (g := gb863) (o := .cells #[.slice A0_0 l0_0.length c0_0, .slice A0_1 l0_1.length c0_1, .slice A0_2 l0_2.length c0_2] 38 (0, 0)) (kl BK863.out) hb); have n4_ := am (below_step (by repeat (first | (with_reducible first | exact HB.out | apply below_alloc | apply pw_below_drewN | apply below_drew1 | refine below_set ?_ GE863.out) | exact HB.out)) hb); clear BK863; clear HB; have HO867 := n0_; have HO870 := n1_; have HO873 := n2_; have BK863 := n3_; have HB := n4_; clear n0_ n1_ n2_ n3_ n4_; (try clear hb); (try clear hb2); (try clear hk); (try clear hi); (try clear ho0); (try clear ho1); (try clear ho2); obtain ⟨Ao17, co17, eo17⟩ := Kd.R_slice HO867.out; subst eo17; obtain ⟨Ao18, co18, eo18⟩ := Kd.R_slice HO870.out; subst eo18; obtain ⟨Ao19, co19, eo19⟩ := Kd.R_slice HO873.out; subst eo19) | ((with_reducible refine gate_callee (f := 37) rfl ?_); refine goesL_ (some 22) rfl rfl Try.func37 (by kernel_rfl) rfl #[.agg #[.slice Ao17 t865.length co17, .slice Ao18 t868.length co18, .slice Ao19 t871.length co19]] rfl (by (try simp only [List.map_toArray, List.map_cons, List.map_nil]); first | done | rfl | (simp only [List.length_drop, List.length_take]; rfl)) ?_; (with_reducible refine (spec_NewColored.calls k _ _ t865 _ _ t868 _ _ t871 t874 t877 t880 t883 t886 _ ?side1 ?side2 ?side3 ?side4 ?side5 ?side6 A8.out).mono ?_); (case side1 => repeat (first | exact (Kd.R_reads' HO867.out).2.2 | (with_reducible refine Kd.C_alloc ?_ _) | (with_reducible refine Kd.C_drewN ?_ _) | (with_reducible refine Kd.C_drew ?_))); (case side2 => exact (Kd.R_reads' HO867.out).2.1); (case side3 => repeat (first | exact (Kd.R_reads' HO870.out).2.2 | (with_reducible refine Kd.C_alloc ?_ _) | (with_reducible refine Kd.C_drewN ?_ _) | (with_reducible refine Kd.C_drew ?_))); (case side4 => exact (Kd.R_reads' HO870.out).2.1); (case side5 => repeat (first | exact (Kd.R_reads' HO873.out).2.2 | (with_reducible refine Kd.C_alloc ?_ _) | (with_reducible refine Kd.C_drewN ?_ _) | (with_reducible refine Kd.C_drew ?_))); (case side6 => exact (Kd.R_reads' HO873.out).2.1); rintro e w20 ⟨v875, v878, v881, v884, rfl, ho0, ho1, ho2, ho3, hb⟩; refine ⟨_, rfl, ?_⟩; have n0_ := am (Kd.R_mono (Kd.R_told (Kd.R_told (Kd.R_told (Kd.R_told (Kd.R_old (rl HO867.out) hb) (Kd.R_base ho0)) (Kd.R_base ho1)) (Kd.R_base ho2)) (Kd.R_base ho3)) (fun _ h_ => h_.1)); have n1_ := am (Kd.R_mono (Kd.R_told (Kd.R_told (Kd.R_told (Kd.R_told (Kd.R_old (rl HO870.out) hb) (Kd.R_base ho0)) (Kd.R_base ho1)) (Kd.R_base ho2)) (Kd.R_base ho3)) (fun _ h_ => h_.1)); have n2_ := am (Kd.R_mono (Kd.R_told (Kd.R_told (Kd.R_told (Kd.R_told (Kd.R_old (rl HO873.out) hb) (Kd.R_base ho0)) (Kd.R_base ho1)) (Kd.R_base ho2)) (Kd.R_base ho3)) (fun _ h_ => h_.1)); have n3_ := am (Kd.R_lower (Kd.R_new' (Kd.R_new' (Kd.R_new' ho0 (Kd.R_lt (rl HO867.out))) (Kd.R_lt (rl HO870.out))) (Kd.R_lt (rl HO873.out))) (below_size (by repeat (first | (with_reducible first | exact HB.out | apply below_alloc | apply pw_below_drewN | apply below_drew1 | refine below_set ?_ GE863.out) | exact HB.out)))); have n4_ := am (Kd.R_lower (Kd.R_new' (Kd.R_new' (Kd.R_new' ho1 (Kd.R_lt (rl HO867.out))) (Kd.R_lt (rl HO870.out))) (Kd.R_lt (rl HO873.out))) (below_size (by repeat (first | (with_reducible first | exact HB.out | apply below_alloc | apply pw_below_drewN | apply below_drew1 | refine below_set ?_ GE863.out) | exact HB.out)))); have n5_ := am (Kd.R_lower (Kd.R_new' (Kd.R_new' (Kd.R_new' ho2 (Kd.R_lt (rl HO867.out))) (Kd.R_lt (rl HO870.out))) (Kd.R_lt (rl HO873.out))) (below_size (by repeat (first | (with_reducible first | exact HB.out | apply below_alloc | apply pw_below_drewN | apply below_drew1 | refine below_set ?_ GE863.out) | exact HB.out)))); have n6_ := am (Kd.R_lower (Kd.R_new' (Kd.R_new' (Kd.R_new' ho3 (Kd.R_lt (rl HO867.out))) (Kd.R_lt (rl HO870.out))) (Kd.R_lt (rl HO873.out))) (below_size (by repeat (first | (with_reducible first | exact HB.out | apply below_alloc | apply pw_below_drewN | apply below_drew1 | refine below_set ?_ GE863.out) | exact HB.out)))); have n7_ := am (blk_below (g := gb863) (o := .cells #[.slice A0_0 l0_0.length c0_0, .slice A0_1 l0_1.length c0_1, .slice A0_2 l0_2.length c0_2] 38 (0, 0)) (kl BK863.out) hb); have n8_ := am (below_step (by repeat (first | (with_reducible first | exact HB.out | apply below_alloc | apply pw_below_drewN | apply below_drew1 | refine below_set ?_ GE863.out) | exact HB.out)) hb); clear HO867; clear HO870; clear HO873; clear BK863; clear HB; have HO867 := n0_; have HO870 := n1_; have HO873 := n2_; have HO876 := n3_; have HO879 := n4_; have HO882 := n5_; have HO885 := n6_; have BK863 := n7_; have HB := n8_; clear n0_ n1_ n2_ n3_ n4_ n5_ n6_ n7_ n8_; (try clear hb); (try clear hb2); (try clear hk); (try clear hi); (try clear ho0); (try clear ho1); (try clear ho2); (try clear ho3)) | ((with_reducible refine gate_dst (N := 4) rfl ?_); refine box_event ?hg (N := 4) ?hd (cs := #[.slice none 0 0, .slice none 0 0, .slice none 0 0, .slice none 0 0]) (t := 48) ?hr ?_; (case hd => rfl); (case hg => rfl); (case hr => first | (go_simp; done) | (go_simp; rfl)); intro gb887 hg w21 hbox hb; have n0_ := am (Kd.R_below (rl HO867.out) hb); have n1_ := am (Kd.R_below (rl HO870.out) hb); have n2_ := am (Kd.R_below (rl HO873.out) hb); have n3_ := am (Kd.R_below (rl HO876.out) hb); have n4_ := am (Kd.R_below (rl HO879.out) hb); have n5_ := am (Kd.R_below (rl HO882.out) hb); have n6_ := am (Kd.R_below (rl HO885.out) hb); have n7_ := am (blk_below (g := gb863) (o := .cells #[.slice A0_0 l0_0.length c0_0, .slice A0_1 l0_1.length c0_1, .slice A0_2 l0_2.length c0_2] 38 (0, 0)) (kl BK863.out) hb); have n8_ := am (below_step (by repeat (first | (with_reducible first | exact HB.out | apply below_alloc | apply pw_below_drewN | apply below_drew1 | refine below_set ?_ GE863.out) | exact HB.out)) hb); have n9_ := am (hbox); have n10_ := am ((by rw [hg]; exact (below_size (by repeat (first | (with_reducible first | exact HB.out | apply below_alloc | apply pw_below_drewN | apply below_drew1 | refine below_set ?_ GE863.out) | exact HB.out))) : w.heap.size ≤ gb887)); have n11_ := am ((by rw [hg]; exact (below_size (by repeat (first | (with_reducible first | exact HB.out | apply below_alloc | apply pw_below_drewN | apply below_drew1 | refine below_set ?_ GE863.out) | exact HB.out))) : w.heap.size ≤ gb887)); have n12_ := am ((by rw [hg]; exact Nat.ne_of_lt (blk_lt (g := gb863) (o := .cells #[.slice A0_0 l0_0.length c0_0, .slice A0_1 l0_1.length c0_1, .slice A0_2 l0_2.length c0_2] 38 (0, 0)) (kl BK863.out)) : gb863 ≠ gb887)); have n13_ := am ((by rw [hg]; exact Nat.ne_of_gt (blk_lt (g := gb863) (o := .cells #[.slice A0_0 l0_0.length c0_0, .slice A0_1 l0_1.length c0_1, .slice A0_2 l0_2.length c0_2] 38 (0, 0)) (kl BK863.out)) : gb887 ≠ gb863)); clear HO867; clear HO870; clear HO873; clear HO876; clear HO879; clear HO882; clear HO885; clear BK863; clear HB; have HO867 := n0_; have HO870 := n1_; have HO873 := n2_; have HO876 := n3_; have HO879 := n4_; have HO882 := n5_; have HO885 := n6_; have BK863 := n7_; have HB := n8_; have BK887 := n9_; have GW887 := n10_; have GE887 := n11_; have NB863_887 := n12_; have NB887_863 := n13_; clear n0_ n1_ n2_ n3_ n4_ n5_ n6_ n7_ n8_ n9_ n10_ n11_ n12_ n13_; clear hb hbox hg; obtain ⟨Ao22, co22, eo22⟩ := Kd.R_slice HO876.out; subst eo22; have hnb23 := NB887_863.out; have hnc23 := NB863_887.out; have hcz24_0 : w21.cell? ⟨gb887, 0, none⟩ = some (.slice none 0 0) := (blk_cell BK887.out 0).trans rfl; have hcz24_1 : w21.cell? ⟨gb887, 1, none⟩ = some (.slice none 0 0) := (blk_cell BK887.out 1).trans rfl; have hcz24_2 : w21.cell? ⟨gb887, 2, none⟩ = some (.slice none 0 0) := (blk_cell BK887.out 2).trans rfl; have hcz24_3 : w21.cell? ⟨gb887, 3, none⟩ = some (.slice none 0 0) := (blk_cell BK887.out 3).trans rfl; have hfz24_0 := blk_frozen BK887.out 0; have hfz24_1 := blk_frozen BK887.out 1; have hfz24_2 := blk_frozen BK887.out 2; have hfz24_3 := blk_frozen BK887.out 3; obtain ⟨Ao25, co25, eo25⟩ := Kd.R_slice HO879.out; subst eo25; obtain ⟨Ao26, co26, eo26⟩ := Kd.R_slice HO882.out; subst eo26; obtain ⟨Ao27, co27, eo27⟩ := Kd.R_slice HO885.out; subst eo27; have hcz28_0 : w21.cell? ⟨gb863, 0, none⟩ = some (.slice A0_0 l0_0.length c0_0) := (blk_cell BK863.out 0).trans rfl; have hcz28_1 : w21.cell? ⟨gb863, 1, none⟩ = some (.slice A0_1 l0_1.length c0_1) := (blk_cell BK863.out 1).trans rfl; have hcz28_2 : w21.cell? ⟨gb863, 2, none⟩ = some (.slice A0_2 l0_2.length c0_2) := (blk_cell BK863.out 2).trans rfl; have hfz28_0 := blk_frozen BK863.out 0; have hfz28_1 := blk_frozen BK863.out 1; have hfz28_2 := blk_frozen BK863.out 2) | ((with_reducible refine gate_callee (f := 27) rfl ?_); refine goesL_ (some 26) rfl rfl Try.func27 (by kernel_rfl) rfl #[.agg #[.slice A0_0 l0_0.length c0_0, .slice A0_1 l0_1.length c0_1, .slice A0_2 l0_2.length c0_2]] rfl (by (try simp only [List.map_toArray, List.map_cons, List.map_nil]); first | done | rfl | (simp only [List.length_drop, List.length_take]; rfl)) ?_; (with_reducible refine (laws_toHeap.calls k _ _ l0_0 _ _ l0_1 _ _ l0_2 t888 t891 t894 _ ?side1 ?side2 ?side3 ?side4 ?side5 ?side6 A9.out).mono ?_); (case side1 => exact Kd.C_below HR0_0.out (by repeat (first | (with_reducible first | exact HB.out | apply below_alloc | apply pw_below_drewN | apply below_drew1 | refine below_set ?_ GE863.out | refine below_set ?_ GE887.out) | exact HB.out))); (case side2 => exact HC0_0.out); (case side3 => exact Kd.C_below HR0_1.out (by repeat (first | (with_reducible first | exact HB.out | apply below_alloc | apply pw_below_drewN | apply below_drew1 | refine below_set ?_ GE863.out | refine below_set ?_ GE887.out) | exact HB.out))); (case side4 => exact HC0_1.out); (case side5 => exact Kd.C_below HR0_2.out (by repeat (first | (with_reducible first | exact HB.out | apply below_alloc | apply pw_below_drewN | apply below_drew1 | refine below_set ?_ GE863.out | refine below_set ?_ GE887.out) | exact HB.out))); (case side6 => exact HC0_2.out); rintro e w29 ⟨v889, v892, v895, rfl, ho0, ho1, ho2, hb⟩; refine ⟨_, rfl, ?_⟩; have n0_ := am (Kd.R_mono (Kd.R_told (Kd.R_told (Kd.R_told (Kd.R_old (rl ((far4 HO867.out BK887.out (by decide) (.slice Ao22 t874.length co22) (.slice Ao25 t877.length co25) (.slice Ao26 t880.length co26) (.slice Ao27 t883.length co27)))) hb) (Kd.R_base ho0)) (Kd.R_base ho1)) (Kd.R_base ho2)) (fun _ h_ => h_.1)); have n1_ := am (Kd.R_mono (Kd.R_told (Kd.R_told (Kd.R_told (Kd.R_old (rl ((far4 HO870.out BK887.out (by decide) (.slice Ao22 t874.length co22) (.slice Ao25 t877.length co25) (.slice Ao26 t880.length co26) (.slice Ao27 t883.length co27)))) hb) (Kd.R_base ho0)) (Kd.R_base ho1)) (Kd.R_base ho2)) (fun _ h_ => h_.1)); have n2_ := am (Kd.R_mono (Kd.R_told (Kd.R_told (Kd.R_told (Kd.R_old (rl ((far4 HO873.out BK887.out (by decide) (.slice Ao22 t874.length co22) (.slice Ao25 t877.length co25) (.slice Ao26 t880.length co26) (.slice Ao27 t883.length co27)))) hb) (Kd.R_base ho0)) (Kd.R_base ho1)) (Kd.R_base ho2)) (fun _ h_ => h_.1)); have n3_ := am (Kd.R_mono (Kd.R_told (Kd.R_told (Kd.R_told (Kd.R_old (rl ((far4 HO876.out BK887.out (by decide) (.slice Ao22 t874.length co22) (.slice Ao25 t877.length co25) (.slice Ao26 t880.length co26) (.slice Ao27 t883.length co27)))) hb) (Kd.R_base ho0)) (Kd.R_base ho1)) (Kd.R_base ho2)) (fun _ h_ => h_.1)); have n4_ := am (Kd.R_mono (Kd.R_told (Kd.R_told (Kd.R_told (Kd.R_old (rl ((far4 HO879.out BK887.out (by decide) (.slice Ao22 t874.length co22) (.slice Ao25 t877.length co25) (.slice Ao26 t880.length co26) (.slice Ao27 t883.length co27)))) hb) (Kd.R_base ho0)) (Kd.R_base ho1)) (Kd.R_base ho2)) (fun _ h_ => h_.1)); have n5_ := am (Kd.R_mono (Kd.R_told (Kd.R_told (Kd.R_told (Kd.R_old (rl ((far4 HO882.out BK887.out (by decide) (.slice Ao22 t874.length co22) (.slice Ao25 t877.length co25) (.slice Ao26 t880.length co26) (.slice Ao27 t883.length co27)))) hb) (Kd.R_base ho0)) (Kd.R_base ho1)) (Kd.R_base ho2)) (fun _ h_ => h_.1)); have n6_ := am (Kd.R_mono (Kd.R_told (Kd.R_told (Kd.R_told (Kd.R_old (rl ((far4 HO885.out BK887.out (by decide) (.slice Ao22 t874.length co22) (.slice Ao25 t877.length co25) (.slice Ao26 t880.length co26) (.slice Ao27 t883.length co27)))) hb) (Kd.R_base ho0)) (Kd.R_base ho1)) (Kd.R_base ho2)) (fun _ h_ => h_.1)); have n7_ := am (Kd.R_lower (Kd.R_new' (Kd.R_new' (Kd.R_new' (Kd.R_new' (Kd.R_new' (Kd.R_new' (Kd.R_new' ho0 (Kd.R_lt (rl ((far4 HO867.out BK887.out (by decide) (.slice Ao22 t874.length co22) (.slice Ao25 t877.length co25) (.slice Ao26 t880.length co26) (.slice Ao27 t883.length co27)))))) (Kd.R_lt (rl ((far4 HO870.out BK887.out (by decide) (.slice Ao22 t874.length co22) (.slice Ao25 t877.length co25) (.slice Ao26 t880.length co26) (.slice Ao27 t883.length co27)))))) (Kd.R_lt (rl ((far4 HO873.out BK887.out (by decide) (.slice Ao22 t874.length co22) (.slice Ao25 t877.length co25) (.slice Ao26 t880.length co26) (.slice Ao27 t883.length co27)))))) (Kd.R_lt (rl ((far4 HO876.out BK887.out (by decide) (.slice Ao22 t874.length co22) (.slice Ao25 t877.length co25) (.slice Ao26 t880.length co26) (.slice Ao27 t883.length co27)))))) (Kd.R_lt (rl ((far4 HO879.out BK887.out (by decide) (.slice Ao22 t874.length co22) (.slice Ao25 t877.length co25) (.slice Ao26 t880.length co26) (.slice Ao27 t883.length co27)))))) (Kd.R_lt (rl ((far4 HO882.out BK887.out (by decide) (.slice Ao22 t874.length co22) (.slice Ao25 t877.length co25) (.slice Ao26 t880.length co26) (.slice Ao27 t883.length co27)))))) (Kd.R_lt (rl ((far4 HO885.out BK887.out (by decide) (.slice Ao22 t874.length co22) (.slice Ao25 t877.length co25) (.slice Ao26 t880.length co26) (.slice Ao27 t883.length co27)))))) (below_size (by repeat (first | (with_reducible first | exact HB.out | apply below_alloc | apply pw_below_drewN | apply below_drew1 | refine below_set ?_ GE863.out | refine below_set ?_ GE887.out) | exact HB.out)))); have n8_ := am (Kd.R_lower (Kd.R_new' (Kd.R_new' (Kd.R_new' (Kd.R_new' (Kd.R_new' (Kd.R_new' (Kd.R_new' ho1 (Kd.R_lt (rl ((far4 HO867.out BK887.out (by decide) (.slice Ao22 t874.length co22) (.slice Ao25 t877.length co25) (.slice Ao26 t880.length co26) (.slice Ao27 t883.length co27)))))) (Kd.R_lt (rl ((far4 HO870.out BK887.out (by decide) (.slice Ao22 t874.length co22) (.slice Ao25 t877.length co25) (.slice Ao26 t880.length co26) (.slice Ao27 t883.length co27)))))) (Kd.R_lt (rl ((far4 HO873.out BK887.out (by decide) (.slice Ao22 t874.length co22) (.slice Ao25 t877.length co25) (.slice Ao26 t880.length co26) (.slice Ao27 t883.length co27)))))) (Kd.R_lt (rl ((far4 HO876.out BK887.out (by decide) (.slice Ao22 t874.length co22) (.slice Ao25 t877.length co25) (.slice Ao26 t880.length co26) (.slice Ao27 t883.length co27)))))) (Kd.R_lt (rl ((far4 HO879.out BK887.out (by decide) (.slice Ao22 t874.length co22) (.slice Ao25 t877.length co25) (.slice Ao26 t880.length co26) (.slice Ao27 t883.length co27)))))) (Kd.R_lt (rl ((far4 HO882.out BK887.out (by decide) (.slice Ao22 t874.length co22) (.slice Ao25 t877.length co25) (.slice Ao26 t880.length co26) (.slice Ao27 t883.length co27)))))) (Kd.R_lt (rl ((far4 HO885.out BK887.out (by decide) (.slice Ao22 t874.length co22) (.slice Ao25 t877.length co25) (.slice Ao26 t880.length co26) (.slice Ao27 t883.length co27)))))) (below_size (by repeat (first | (with_reducible first | exact HB.out | apply below_alloc | apply pw_below_drewN | apply below_drew1 | refine below_set ?_ GE863.out | refine below_set ?_ GE887.out) | exact HB.out)))); have n9_ := am (Kd.R_lower (Kd.R_new' (Kd.R_new' (Kd.R_new' (Kd.R_new' (Kd.R_new' (Kd.R_new' (Kd.R_new' ho2 (Kd.R_lt (rl ((far4 HO867.out BK887.out (by decide) (.slice Ao22 t874.length co22) (.slice Ao25 t877.length co25) (.slice Ao26 t880.length co26) (.slice Ao27 t883.length co27)))))) (Kd.R_lt (rl ((far4 HO870.out BK887.out (by decide) (.slice Ao22 t874.length co22) (.slice Ao25 t877.length co25) (.slice Ao26 t880.length co26) (.slice Ao27 t883.length co27)))))) (Kd.R_lt (rl ((far4 HO873.out BK887.out (by decide) (.slice Ao22 t874.length co22) (.slice Ao25 t877.length co25) (.slice Ao26 t880.length co26) (.slice Ao27 t883.length co27)))))) (Kd.R_lt (rl ((far4 HO876.out BK887.out (by decide) (.slice Ao22 t874.length co22) (.slice Ao25 t877.length co25) (.slice Ao26 t880.length co26) (.slice Ao27 t883.length co27)))))) (Kd.R_lt (rl ((far4 HO879.out BK887.out (by decide) (.slice Ao22 t874.length co22) (.slice Ao25 t877.length co25) (.slice Ao26 t880.length co26) (.slice Ao27 t883.length co27)))))) (Kd.R_lt (rl ((far4 HO882.out BK887.out (by decide) (.slice Ao22 t874.length co22) (.slice Ao25 t877.length co25) (.slice Ao26 t880.length co26) (.slice Ao27 t883.length co27)))))) (Kd.R_lt (rl ((far4 HO885.out BK887.out (by decide) (.slice Ao22 t874.length co22) (.slice Ao25 t877.length co25) (.slice Ao26 t880.length co26) (.slice Ao27 t883.length co27)))))) (below_size (by repeat (first | (with_reducible first | exact HB.out | apply below_alloc | apply pw_below_drewN | apply below_drew1 | refine below_set ?_ GE863.out | refine below_set ?_ GE887.out) | exact HB.out)))); have n10_ := am (blk_below (g := gb863) (o := .cells #[.slice A0_0 l0_0.length c0_0, .slice A0_1 l0_1.length c0_1, .slice A0_2 l0_2.length c0_2] 38 (0, 0)) (by (with_reducible repeat (first | refine blk_drewN ?_ _ | refine blk_drew ?_ | refine blk_alloc ?_ _)); refine blk_far ?_ NB863_887.out _; (with_reducible repeat (first | refine blk_drewN ?_ _ | refine blk_drew ?_ | refine blk_alloc ?_ _)); refine blk_far ?_ NB863_887.out _; (with_reducible repeat (first | refine blk_drewN ?_ _ | refine blk_drew ?_ | refine blk_alloc ?_ _)); refine blk_far ?_ NB863_887.out _; (with_reducible repeat (first | refine blk_drewN ?_ _ | refine blk_drew ?_ | refine blk_alloc ?_ _)); refine blk_far ?_ NB863_887.out _; (with_reducible repeat (first | refine blk_drewN ?_ _ | refine blk_drew ?_ | refine blk_alloc ?_ _)); exact BK863.out) hb); have n11_ := am (blk_below (g := gb887) (o := .cells #[.slice Ao22 t874.length co22, .slice Ao25 t877.length co25, .slice Ao26 t880.length co26, .slice Ao27 t883.length co27] 48 (0, 0)) (by (with_reducible repeat (first | refine blk_drewN ?_ _ | refine blk_drew ?_ | refine blk_alloc ?_ _)); refine blk_put (cs := #[.slice Ao22 t874.length co22, .slice Ao25 t877.length co25, .slice Ao26 t880.length co26, .slice none 0 0]) ?_ 3 _ rfl; (with_reducible repeat (first | refine blk_drewN ?_ _ | refine blk_drew ?_ | refine blk_alloc ?_ _)); refine blk_put (cs := #[.slice Ao22 t874.length co22, .slice Ao25 t877.length co25, .slice none 0 0, .slice none 0 0]) ?_ 2 _ rfl; (with_reducible repeat (first | refine blk_drewN ?_ _ | refine blk_drew ?_ | refine blk_alloc ?_ _)); refine blk_put (cs := #[.slice Ao22 t874.length co22, .slice none 0 0, .slice none 0 0, .slice none 0 0]) ?_ 1 _ rfl; (with_reducible repeat (first | refine blk_drewN ?_ _ | refine blk_drew ?_ | refine blk_alloc ?_ _)); refine blk_put (cs := #[.slice none 0 0, .slice none 0 0, .slice none 0 0, .slice none 0 0]) ?_ 0 _ rfl; (with_reducible repeat (first | refine blk_drewN ?_ _ | refine blk_drew ?_ | refine blk_alloc ?_ _)); exact BK887.out) hb); have n12_ := am (below_step (by repeat (first | (with_reducible first | exact HB.out | apply below_alloc | apply pw_below_drewN | apply below_drew1 | refine below_set ?_ GE863.out | refine below_set ?_ GE887.out) | exact HB.out)) hb); clear HO867; clear HO870; clear HO873; clear HO876; clear HO879; clear HO882; clear HO885; clear BK863; clear BK887; clear HB; have HO867 := n0_; have HO870 := n1_; have HO873 := n2_; have HO876 := n3_; have HO879 := n4_; have HO882 := n5_; have HO885 := n6_; have HO890 := n7_; have HO893 := n8_; have HO896 := n9_; have BK863 := n10_; have BK887 := n11_; have HB := n12_; clear n0_ n1_ n2_ n3_ n4_ n5_ n6_ n7_ n8_ n9_ n10_ n11_ n12_; (try clear hb); (try clear hb2); (try clear hk); (try clear hi); (try clear ho0); (try clear ho1); (try clear ho2)) | ((with_reducible refine gate_dst (N := 6) rfl ?_); refine box_event ?hg (N := 6) ?hd (cs := #[.slice none 0 0, .slice none 0 0, .slice none 0 0]) (t := 25) ?hr ?_; (case hd => rfl); (case hg => rfl); (case hr => first | (go_simp; done) | (go_simp; rfl)); intro gb897 hg w30 hbox hb; have n0_ := am (Kd.R_below (rl HO867.out) hb); have n1_ := am (Kd.R_below (rl HO870.out) hb); have n2_ := am (Kd.R_below (rl HO873.out) hb); have n3_ := am (Kd.R_below (rl HO876.out) hb); have n4_ := am (Kd.R_below (rl HO879.out) hb); have n5_ := am (Kd.R_below (rl HO882.out) hb); have n6_ := am (Kd.R_below (rl HO885.out) hb); have n7_ := am (Kd.R_below (rl HO890.out) hb); have n8_ := am (Kd.R_below (rl HO893.out) hb); have n9_ := am (Kd.R_below (rl HO896.out) hb); have n10_ := am (blk_below (g := gb863) (o := .cells #[.slice A0_0 l0_0.length c0_0, .slice A0_1 l0_1.length c0_1, .slice A0_2 l0_2.length c0_2] 38 (0, 0)) (kl BK863.out) hb); have n11_ := am (blk_below (g := gb887) (o := .cells #[.slice Ao22 t874.length co22, .slice Ao25 t877.length co25, .slice Ao26 t880.length co26, .slice Ao27 t883.length co27] 48 (0, 0)) (kl BK887.out) hb); have n12_ := am (below_step (by repeat (first | (with_reducible first | exact HB.out | apply below_alloc | apply pw_below_drewN | apply below_drew1 | refine below_set ?_ GE863.out | refine below_set ?_ GE887.out) | exact HB.out)) hb); have n13_ := am (hbox); have n14_ := am ((by rw [hg]; exact (below_size (by repeat (first | (with_reducible first | exact HB.out | apply below_alloc | apply pw_below_drewN | apply below_drew1 | refine below_set ?_ GE863.out | refine below_set ?_ GE887.out) | exact HB.out))) : w.heap.size ≤ gb897)); have n15_ := am ((by rw [hg]; exact (below_size (by repeat (first | (with_reducible first | exact HB.out | apply below_alloc | apply pw_below_drewN | apply below_drew1 | refine below_set ?_ GE863.out | refine below_set ?_ GE887.out) | exact HB.out))) : w.heap.size ≤ gb897)); have n16_ := am ((by rw [hg]; exact Nat.ne_of_lt (blk_lt (g := gb863) (o := .cells #[.slice A0_0 l0_0.length c0_0, .slice A0_1 l0_1.length c0_1, .slice A0_2 l0_2.length c0_2] 38 (0, 0)) (kl BK863.out)) : gb863 ≠ gb897)); have n17_ := am ((by rw [hg]; exact Nat.ne_of_gt (blk_lt (g := gb863) (o := .cells #[.slice A0_0 l0_0.length c0_0, .slice A0_1 l0_1.length c0_1, .slice A0_2 l0_2.length c0_2] 38 (0, 0)) (kl BK863.out)) : gb897 ≠ gb863)); have n18_ := am ((by rw [hg]; exact Nat.ne_of_lt (blk_lt (g := gb887) (o := .cells #[.slice Ao22 t874.length co22, .slice Ao25 t877.length co25, .slice Ao26 t880.length co26, .slice Ao27 t883.length co27] 48 (0, 0)) (kl BK887.out)) : gb887 ≠ gb897)); have n19_ := am ((by rw [hg]; exact Nat.ne_of_gt (blk_lt (g := gb887) (o := .cells #[.slice Ao22 t874.length co22, .slice Ao25 t877.length co25, .slice Ao26 t880.length co26, .slice Ao27 t883.length co27] 48 (0, 0)) (kl BK887.out)) : gb897 ≠ gb887)); clear HO867; clear HO870; clear HO873; clear HO876; clear HO879; clear HO882; clear HO885; clear HO890; clear HO893; clear HO896; clear BK863; clear BK887; clear HB; have HO867 := n0_; have HO870 := n1_; have HO873 := n2_; have HO876 := n3_; have HO879 := n4_; have HO882 := n5_; have HO885 := n6_; have HO890 := n7_; have HO893 := n8_; have HO896 := n9_; have BK863 := n10_; have BK887 := n11_; have HB := n12_; have BK897 := n13_; have GW897 := n14_; have GE897 := n15_; have NB863_897 := n16_; have NB897_863 := n17_; have NB887_897 := n18_; have NB897_887 := n19_; clear n0_ n1_ n2_ n3_ n4_ n5_ n6_ n7_ n8_ n9_ n10_ n11_ n12_ n13_ n14_ n15_ n16_ n17_ n18_ n19_; clear hb hbox hg; obtain ⟨Ao31, co31, eo31⟩ := Kd.R_slice HO890.out; subst eo31; have hnb32 := NB897_863.out; have hnc32 := NB863_897.out; have hnb33 := NB897_887.out; have hnc33 := NB887_897.out; have hcz34_0 : w30.cell? ⟨gb897, 0, none⟩ = some (.slice none 0 0) := (blk_cell BK897.out 0).trans rfl; have hcz34_1 : w30.cell? ⟨gb897, 1, none⟩ = some (.slice none 0 0) := (blk_cell BK897.out 1).trans rfl; have hcz34_2 : w30.cell? ⟨gb897, 2, none⟩ = some (.slice none 0 0) := (blk_cell BK897.out 2).trans rfl; have hfz34_0 := blk_frozen BK897.out 0; have hfz34_1 := blk_frozen BK897.out 1; have hfz34_2 := blk_frozen BK897.out 2; obtain ⟨Ao35, co35, eo35⟩ := Kd.R_slice HO893.out; subst eo35; obtain ⟨Ao36, co36, eo36⟩ := Kd.R_slice HO896.out; subst eo36) | ((with_reducible refine gate_callee (f := 38) rfl ?_); refine goesL_ (some 29) rfl rfl Try.func38 (by kernel_rfl) rfl #[.agg #[.slice Ao31 t888.length co31, .slice Ao35 t891.length co35, .slice Ao36 t894.length co36]] rfl (by (try simp only [List.map_toArray, List.map_cons, List.map_nil]); first | done | rfl | (simp only [List.length_drop, List.length_take]; rfl)) ?_; (with_reducible refine (impl_NewColored.calls k _ _ t888 _ _ t891 _ _ t894 t898 t901 t904 t907 t910 _ ?side1 ?side2 ?side3 ?side4 ?side5 ?side6 A10.out).mono ?_); (case side1 => exact (Kd.R_reads' (rl ((far3 HO890.out BK897.out (by decide) (.slice Ao31 t888.length co31) (.slice Ao35 t891.length co35) (.slice Ao36 t894.length co36))))).2.2); (case side2 => exact (Kd.R_reads' HO890.out).2.1); (case side3 => exact (Kd.R_reads' (rl ((far3 HO893.out BK897.out (by decide) (.slice Ao31 t888.length co31) (.slice Ao35 t891.length co35) (.slice Ao36 t894.length co36))))).2.2); (case side4 => exact (Kd.R_reads' HO893.out).2.1); (case side5 => exact (Kd.R_reads' (rl ((far3 HO896.out BK897.out (by decide) (.slice Ao31 t888.length co31) (.slice Ao35 t891.length co35) (.slice Ao36 t894.length co36))))).2.2); (case side6 => exact (Kd.R_reads' HO896.out).2.1); rintro e w37 ⟨v899, v902, v905, v908, rfl, ho0, ho1, ho2, ho3, hb⟩; refine ⟨_, rfl, ?_⟩; have n0_ := am (Kd.R_mono (Kd.R_told (Kd.R_told (Kd.R_told (Kd.R_told (Kd.R_old (rl ((far3 HO867.out BK897.out (by decide) (.slice Ao31 t888.length co31) (.slice Ao35 t891.length co35) (.slice Ao36 t894.length co36)))) hb) (Kd.R_base ho0)) (Kd.R_base ho1)) (Kd.R_base ho2)) (Kd.R_base ho3)) (fun _ h_ => h_.1)); have n1_ := am (Kd.R_mono (Kd.R_told (Kd.R_told (Kd.R_told (Kd.R_told (Kd.R_old (rl ((far3 HO870.out BK897.out (by decide) (.slice Ao31 t888.length co31) (.slice Ao35 t891.length co35) (.slice Ao36 t894.length co36)))) hb) (Kd.R_base ho0)) (Kd.R_base ho1)) (Kd.R_base ho2)) (Kd.R_base ho3)) (fun _ h_ => h_.1)); have n2_ := am (Kd.R_mono (Kd.R_told (Kd.R_told (Kd.R_told (Kd.R_told (Kd.R_old (rl ((far3 HO873.out BK897.out (by decide) (.slice Ao31 t888.length co31) (.slice Ao35 t891.length co35) (.slice Ao36 t894.length co36)))) hb) (Kd.R_base ho0)) (Kd.R_base ho1)) (Kd.R_base ho2)) (Kd.R_base ho3)) (fun _ h_ => h_.1)); have n3_ := am (Kd.R_mono (Kd.R_told (Kd.R_told (Kd.R_told (Kd.R_told (Kd.R_old (rl ((far3 HO876.out BK897.out (by decide) (.slice Ao31 t888.length co31) (.slice Ao35 t891.length co35) (.slice Ao36 t894.length co36)))) hb) (Kd.R_base ho0)) (Kd.R_base ho1)) (Kd.R_base ho2)) (Kd.R_base ho3)) (fun _ h_ => h_.1)); have n4_ := am (Kd.R_mono (Kd.R_told (Kd.R_told (Kd.R_told (Kd.R_told (Kd.R_old (rl ((far3 HO879.out BK897.out (by decide) (.slice Ao31 t888.length co31) (.slice Ao35 t891.length co35) (.slice Ao36 t894.length co36)))) hb) (Kd.R_base ho0)) (Kd.R_base ho1)) (Kd.R_base ho2)) (Kd.R_base ho3)) (fun _ h_ => h_.1)); have n5_ := am (Kd.R_mono (Kd.R_told (Kd.R_told (Kd.R_told (Kd.R_told (Kd.R_old (rl ((far3 HO882.out BK897.out (by decide) (.slice Ao31 t888.length co31) (.slice Ao35 t891.length co35) (.slice Ao36 t894.length co36)))) hb) (Kd.R_base ho0)) (Kd.R_base ho1)) (Kd.R_base ho2)) (Kd.R_base ho3)) (fun _ h_ => h_.1)); have n6_ := am (Kd.R_mono (Kd.R_told (Kd.R_told (Kd.R_told (Kd.R_told (Kd.R_old (rl ((far3 HO885.out BK897.out (by decide) (.slice Ao31 t888.length co31) (.slice Ao35 t891.length co35) (.slice Ao36 t894.length co36)))) hb) (Kd.R_base ho0)) (Kd.R_base ho1)) (Kd.R_base ho2)) (Kd.R_base ho3)) (fun _ h_ => h_.1)); have n7_ := am (Kd.R_mono (Kd.R_told (Kd.R_told (Kd.R_told (Kd.R_told (Kd.R_old (rl ((far3 HO890.out BK897.out (by decide) (.slice Ao31 t888.length co31) (.slice Ao35 t891.length co35) (.slice Ao36 t894.length co36)))) hb) (Kd.R_base ho0)) (Kd.R_base ho1)) (Kd.R_base ho2)) (Kd.R_base ho3)) (fun _ h_ => h_.1)); have n8_ := am (Kd.R_mono (Kd.R_told (Kd.R_told (Kd.R_told (Kd.R_told (Kd.R_old (rl ((far3 HO893.out BK897.out (by decide) (.slice Ao31 t888.length co31) (.slice Ao35 t891.length co35) (.slice Ao36 t894.length co36)))) hb) (Kd.R_base ho0)) (Kd.R_base ho1)) (Kd.R_base ho2)) (Kd.R_base ho3)) (fun _ h_ => h_.1)); have n9_ := am (Kd.R_mono (Kd.R_told (Kd.R_told (Kd.R_told (Kd.R_told (Kd.R_old (rl ((far3 HO896.out BK897.out (by decide) (.slice Ao31 t888.length co31) (.slice Ao35 t891.length co35) (.slice Ao36 t894.length co36)))) hb) (Kd.R_base ho0)) (Kd.R_base ho1)) (Kd.R_base ho2)) (Kd.R_base ho3)) (fun _ h_ => h_.1)); have n10_ := am (Kd.R_lower (Kd.R_new' (Kd.R_new' (Kd.R_new' (Kd.R_new' (Kd.R_new' (Kd.R_new' (Kd.R_new' (Kd.R_new' (Kd.R_new' (Kd.R_new' ho0 (Kd.R_lt (rl ((far3 HO867.out BK897.out (by decide) (.slice Ao31 t888.length co31) (.slice Ao35 t891.length co35) (.slice Ao36 t894.length co36)))))) (Kd.R_lt (rl ((far3 HO870.out BK897.out (by decide) (.slice Ao31 t888.length co31) (.slice Ao35 t891.length co35) (.slice Ao36 t894.length co36)))))) (Kd.R_lt (rl ((far3 HO873.out BK897.out (by decide) (.slice Ao31 t888.length co31) (.slice Ao35 t891.length co35) (.slice Ao36 t894.length co36)))))) (Kd.R_lt (rl ((far3 HO876.out BK897.out (by decide) (.slice Ao31 t888.length co31) (.slice Ao35 t891.length co35) (.slice Ao36 t894.length co36)))))) (Kd.R_lt (rl ((far3 HO879.out BK897.out (by decide) (.slice Ao31 t888.length co31) (.slice Ao35 t891.length co35) (.slice Ao36 t894.length co36)))))) (Kd.R_lt (rl ((far3 HO882.out BK897.out (by decide) (.slice Ao31 t888.length co31) (.slice Ao35 t891.length co35) (.slice Ao36 t894.length co36)))))) (Kd.R_lt (rl ((far3 HO885.out BK897.out (by decide) (.slice Ao31 t888.length co31) (.slice Ao35 t891.length co35) (.slice Ao36 t894.length co36)))))) (Kd.R_lt (rl ((far3 HO890.out BK897.out (by decide) (.slice Ao31 t888.length co31) (.slice Ao35 t891.length co35) (.slice Ao36 t894.length co36)))))) (Kd.R_lt (rl ((far3 HO893.out BK897.out (by decide) (.slice Ao31 t888.length co31) (.slice Ao35 t891.length co35) (.slice Ao36 t894.length co36)))))) (Kd.R_lt (rl ((far3 HO896.out BK897.out (by decide) (.slice Ao31 t888.length co31) (.slice Ao35 t891.length co35) (.slice Ao36 t894.length co36)))))) (below_size (by repeat (first | (with_reducible first | exact HB.out | apply below_alloc | apply pw_below_drewN | apply below_drew1 | refine below_set ?_ GE863.out | refine below_set ?_ GE887.out | refine below_set ?_ GE897.out) | exact HB.out)))); have n11_ := am (Kd.R_lower (Kd.R_new' (Kd.R_new' (Kd.R_new' (Kd.R_new' (Kd.R_new' (Kd.R_new' (Kd.R_new' (Kd.R_new' (Kd.R_new' (Kd.R_new' ho1 (Kd.R_lt (rl ((far3 HO867.out BK897.out (by decide) (.slice Ao31 t888.length co31) (.slice Ao35 t891.length co35) (.slice Ao36 t894.length co36)))))) (Kd.R_lt (rl ((far3 HO870.out BK897.out (by decide) (.slice Ao31 t888.length co31) (.slice Ao35 t891.length co35) (.slice Ao36 t894.length co36)))))) (Kd.R_lt (rl ((far3 HO873.out BK897.out (by decide) (.slice Ao31 t888.length co31) (.slice Ao35 t891.length co35) (.slice Ao36 t894.length co36)))))) (Kd.R_lt (rl ((far3 HO876.out BK897.out (by decide) (.slice Ao31 t888.length co31) (.slice Ao35 t891.length co35) (.slice Ao36 t894.length co36)))))) (Kd.R_lt (rl ((far3 HO879.out BK897.out (by decide) (.slice Ao31 t888.length co31) (.slice Ao35 t891.length co35) (.slice Ao36 t894.length co36)))))) (Kd.R_lt (rl ((far3 HO882.out BK897.out (by decide) (.slice Ao31 t888.length co31) (.slice Ao35 t891.length co35) (.slice Ao36 t894.length co36)))))) (Kd.R_lt (rl ((far3 HO885.out BK897.out (by decide) (.slice Ao31 t888.length co31) (.slice Ao35 t891.length co35) (.slice Ao36 t894.length co36)))))) (Kd.R_lt (rl ((far3 HO890.out BK897.out (by decide) (.slice Ao31 t888.length co31) (.slice Ao35 t891.length co35) (.slice Ao36 t894.length co36)))))) (Kd.R_lt (rl ((far3 HO893.out BK897.out (by decide) (.slice Ao31 t888.length co31) (.slice Ao35 t891.length co35) (.slice Ao36 t894.length co36)))))) (Kd.R_lt (rl ((far3 HO896.out BK897.out (by decide) (.slice Ao31 t888.length co31) (.slice Ao35 t891.length co35) (.slice Ao36 t894.length co36)))))) (below_size (by repeat (first | (with_reducible first | exact HB.out | apply below_alloc | apply pw_below_drewN | apply below_drew1 | refine below_set ?_ GE863.out | refine below_set ?_ GE887.out | refine below_set ?_ GE897.out) | exact HB.out)))); have n12_ := am (Kd.R_lower (Kd.R_new' (Kd.R_new' (Kd.R_new' (Kd.R_new' (Kd.R_new' (Kd.R_new' (Kd.R_new' (Kd.R_new' (Kd.R_new' (Kd.R_new' ho2 (Kd.R_lt (rl ((far3 HO867.out BK897.out (by decide) (.slice Ao31 t888.length co31) (.slice Ao35 t891.length co35) (.slice Ao36 t894.length co36)))))) (Kd.R_lt (rl ((far3 HO870.out BK897.out (by decide) (.slice Ao31 t888.length co31) (.slice Ao35 t891.length co35) (.slice Ao36 t894.length co36)))))) (Kd.R_lt (rl ((far3 HO873.out BK897.out (by decide) (.slice Ao31 t888.length co31) (.slice Ao35 t891.length co35) (.slice Ao36 t894.length co36)))))) (Kd.R_lt (rl ((far3 HO876.out BK897.out (by decide) (.slice Ao31 t888.length co31) (.slice Ao35 t891.length co35) (.slice Ao36 t894.length co36)))))) (Kd.R_lt (rl ((far3 HO879.out BK897.out (by decide) (.slice Ao31 t888.length co31) (.slice Ao35 t891.length co35) (.slice Ao36 t894.length co36)))))) (Kd.R_lt (rl ((far3 HO882.out BK897.out (by decide) (.slice Ao31 t888.length co31) (.slice Ao35 t891.length co35) (.slice Ao36 t894.length co36)))))) (Kd.R_lt (rl ((far3 HO885.out BK897.out (by decide) (.slice Ao31 t888.length co31) (.slice Ao35 t891.length co35) (.slice Ao36 t894.length co36)))))) (Kd.R_lt (rl ((far3 HO890.out BK897.out (by decide) (.slice Ao31 t888.length co31) (.slice Ao35 t891.length co35) (.slice Ao36 t894.length co36)))))) (Kd.R_lt (rl ((far3 HO893.out BK897.out (by decide) (.slice Ao31 t888.length co31) (.slice Ao35 t891.length co35) (.slice Ao36 t894.length co36)))))) (Kd.R_lt (rl ((far3 HO896.out BK897.out (by decide) (.slice Ao31 t888.length co31) (.slice Ao35 t891.length co35) (.slice Ao36 t894.length co36)))))) (below_size (by repeat (first | (with_reducible first | exact HB.out | apply below_alloc | apply pw_below_drewN | apply below_drew1 | refine below_set ?_ GE863.out | refine below_set ?_ GE887.out | refine below_set ?_ GE897.out) | exact HB.out)))); have n13_ := am (Kd.R_lower (Kd.R_new' (Kd.R_new' (Kd.R_new' (Kd.R_new' (Kd.R_new' (Kd.R_new' (Kd.R_new' (Kd.R_new' (Kd.R_new' (Kd.R_new' ho3 (Kd.R_lt (rl ((far3 HO867.out BK897.out (by decide) (.slice Ao31 t888.length co31) (.slice Ao35 t891.length co35) (.slice Ao36 t894.length co36)))))) (Kd.R_lt (rl ((far3 HO870.out BK897.out (by decide) (.slice Ao31 t888.length co31) (.slice Ao35 t891.length co35) (.slice Ao36 t894.length co36)))))) (Kd.R_lt (rl ((far3 HO873.out BK897.out (by decide) (.slice Ao31 t888.length co31) (.slice Ao35 t891.length co35) (.slice Ao36 t894.length co36)))))) (Kd.R_lt (rl ((far3 HO876.out BK897.out (by decide) (.slice Ao31 t888.length co31) (.slice Ao35 t891.length co35) (.slice Ao36 t894.length co36)))))) (Kd.R_lt (rl ((far3 HO879.out BK897.out (by decide) (.slice Ao31 t888.length co31) (.slice Ao35 t891.length co35) (.slice Ao36 t894.length co36)))))) (Kd.R_lt (rl ((far3 HO882.out BK897.out (by decide) (.slice Ao31 t888.length co31) (.slice Ao35 t891.length co35) (.slice Ao36 t894.length co36)))))) (Kd.R_lt (rl ((far3 HO885.out BK897.out (by decide) (.slice Ao31 t888.length co31) (.slice Ao35 t891.length co35) (.slice Ao36 t894.length co36)))))) (Kd.R_lt (rl ((far3 HO890.out BK897.out (by decide) (.slice Ao31 t888.length co31) (.slice Ao35 t891.length co35) (.slice Ao36 t894.length co36)))))) (Kd.R_lt (rl ((far3 HO893.out BK897.out (by decide) (.slice Ao31 t888.length co31) (.slice Ao35 t891.length co35) (.slice Ao36 t894.length co36)))))) (Kd.R_lt (rl ((far3 HO896.out BK897.out (by decide) (.slice Ao31 t888.length co31) (.slice Ao35 t891.length co35) (.slice Ao36 t894.length co36)))))) (below_size (by repeat (first | (with_reducible first | exact HB.out | apply below_alloc | apply pw_below_drewN | apply below_drew1 | refine below_set ?_ GE863.out | refine below_set ?_ GE887.out | refine below_set ?_ GE897.out) | exact HB.out)))); have n14_ := am (blk_below (g := gb863) (o := .cells #[.slice A0_0 l0_0.length c0_0, .slice A0_1 l0_1.length c0_1, .slice A0_2 l0_2.length c0_2] 38 (0, 0)) (by (with_reducible repeat (first | refine blk_drewN ?_ _ | refine blk_drew ?_ | refine blk_alloc ?_ _)); refine blk_far ?_ NB863_897.out _; (with_reducible repeat (first | refine blk_drewN ?_ _ | refine blk_drew ?_ | refine blk_alloc ?_ _)); refine blk_far ?_ NB863_897.out _; (with_reducible repeat (first | refine blk_drewN ?_ _ | refine blk_drew ?_ | refine blk_alloc ?_ _)); refine blk_far ?_ NB863_897.out _; (with_reducible repeat (first | refine blk_drewN ?_ _ | refine blk_drew ?_ | refine blk_alloc ?_ _)); exact BK863.out) hb); have n15_ := am (blk_below (g := gb887) (o := .cells #[.slice Ao22 t874.length co22, .slice Ao25 t877.length co25, .slice Ao26 t880.length co26, .slice Ao27 t883.length co27] 48 (0, 0)) (by (with_reducible repeat (first | refine blk_drewN ?_ _ | refine blk_drew ?_ | refine blk_alloc ?_ _)); refine blk_far ?_ NB887_897.out _; (with_reducible repeat (first | refine blk_drewN ?_ _ | refine blk_drew ?_ | refine blk_alloc ?_ _)); refine blk_far ?_ NB887_897.out _; (with_reducible repeat (first | refine blk_drewN ?_ _ | refine blk_drew ?_ | refine blk_alloc ?_ _)); refine blk_far ?_ NB887_897.out _; (with_reducible repeat (first | refine blk_drewN ?_ _ | refine blk_drew ?_ | refine blk_alloc ?_ _)); exact BK887.out) hb); have n16_ := am (blk_below (g := gb897) (o := .cells #[.slice Ao31 t888.length co31, .slice Ao35 t891.length co35, .slice Ao36 t894.length co36] 25 (0, 0)) (by (with_reducible repeat (first | refine blk_drewN ?_ _ | refine blk_drew ?_ | refine blk_alloc ?_ _)); refine blk_put (cs := #[.slice Ao31 t888.length co31, .slice Ao35 t891.length co35, .slice none 0 0]) ?_ 2 _ rfl; (with_reducible repeat (first | refine blk_drewN ?_ _ | refine blk_drew ?_ | refine blk_alloc ?_ _)); refine blk_put (cs := #[.slice Ao31 t888.length co31, .slice none 0 0, .slice none 0 0]) ?_ 1 _ rfl; (with_reducible repeat (first | refine blk_drewN ?_ _ | refine blk_drew ?_ | refine blk_alloc ?_ _)); refine blk_put (cs := #[.slice none 0 0, .slice none 0 0, .slice none 0 0]) ?_ 0 _ rfl; (with_reducible repeat (first | refine blk_drewN ?_ _ | refine blk_drew ?_ | refine blk_alloc ?_ _)); exact BK897.out) hb); have n17_ := am (below_step (by repeat (first | (with_reducible first | exact HB.out | apply below_alloc | apply pw_below_drewN | apply below_drew1 | refine below_set ?_ GE863.out | refine below_set ?_ GE887.out | refine below_set ?_ GE897.out) | exact HB.out)) hb); clear HO867; clear HO870; clear HO873; clear HO876; clear HO879; clear HO882; clear HO885; clear HO890; clear HO893; clear HO896; clear BK863; clear BK887; clear BK897; clear HB; have HO867 := n0_; have HO870 := n1_; have HO873 := n2_; have HO876 := n3_; have HO879 := n4_; have HO882 := n5_; have HO885 := n6_; have HO890 := n7_; have HO893 := n8_; have HO896 := n9_; have HO900 := n10_; have HO903 := n11_; have HO906 := n12_; have HO909 := n13_; have BK863 := n14_; have BK887 := n15_; have BK897 := n16_; have HB := n17_; clear n0_ n1_ n2_ n3_ n4_ n5_ n6_ n7_ n8_ n9_ n10_ n11_ n12_ n13_ n14_ n15_ n16_ n17_; (try clear hb); (try clear hb2); (try clear hk); (try clear hi); (try clear ho0); (try clear ho1); (try clear ho2); (try clear ho3)) | ((with_reducible refine gate_dst (N := 7) rfl ?_); refine box_event ?hg (N := 7) ?hd (cs := #[.slice none 0 0, .slice none 0 0, .slice none 0 0, .slice none 0 0]) (t := 48) ?hr ?_; (case hd => rfl); (case hg => rfl); (case hr => first | (go_simp; done) | (go_simp; rfl)); intro gb911 hg w38 hbox hb; have n0_ := am (Kd.R_below (rl HO867.out) hb); have n1_ := am (Kd.R_below (rl HO870.out) hb); have n2_ := am (Kd.R_below (rl HO873.out) hb); have n3_ := am (Kd.R_below (rl HO876.out) hb); have n4_ := am (Kd.R_below (rl HO879.out) hb); have n5_ := am (Kd.R_below (rl HO882.out) hb); have n6_ := am (Kd.R_below (rl HO885.out) hb); have n7_ := am (Kd.R_below (rl HO890.out) hb); have n8_ := am (Kd.R_below (rl HO893.out) hb); have n9_ := am (Kd.R_below (rl HO896.out) hb); have n10_ := am (Kd.R_below (rl HO900.out) hb); have n11_ := am (Kd.R_below (rl HO903.out) hb); have n12_ := am (Kd.R_below (rl HO906.out) hb); have n13_ := am (Kd.R_below (rl HO909.out) hb); have n14_ := am (blk_below (g := gb863) (o := .cells #[.slice A0_0 l0_0.length c0_0, .slice A0_1 l0_1.length c0_1, .slice A0_2 l0_2.length c0_2] 38 (0, 0)) (kl BK863.out) hb); have n15_ := am (blk_below (g := gb887) (o := .cells #[.slice Ao22 t874.length co22, .slice Ao25 t877.length co25, .slice Ao26 t880.length co26, .slice Ao27 t883.length co27] 48 (0, 0)) (kl BK887.out) hb); have n16_ := am (blk_below (g := gb897) (o := .cells #[.slice Ao31 t888.length co31, .slice Ao35 t891.length co35, .slice Ao36 t894.length co36] 25 (0, 0)) (kl BK897.out) hb); have n17_ := am (below_step (by repeat (first | (with_reducible first | exact HB.out | apply below_alloc | apply pw_below_drewN | apply below_drew1 | refine below_set ?_ GE863.out | refine below_set ?_ GE887.out | refine below_set ?_ GE897.out) | exact HB.out)) hb); have n18_ := am (hbox); have n19_ := am ((by rw [hg]; exact (below_size (by repeat (first | (with_reducible first | exact HB.out | apply below_alloc | apply pw_below_drewN | apply below_drew1 | refine below_set ?_ GE863.out | refine below_set ?_ GE887.out | refine below_set ?_ GE897.out) | exact HB.out))) : w.heap.size ≤ gb911)); have n20_ := am ((by rw [hg]; exact (below_size (by repeat (first | (with_reducible first | exact HB.out | apply below_alloc | apply pw_below_drewN | apply below_drew1 | refine below_set ?_ GE863.out | refine below_set ?_ GE887.out | refine below_set ?_ GE897.out) | exact HB.out))) : w.heap.size ≤ gb911)); have n21_ := am ((by rw [hg]; exact Nat.ne_of_lt (blk_lt (g := gb863) (o := .cells #[.slice A0_0 l0_0.length c0_0, .slice A0_1 l0_1.length c0_1, .slice A0_2 l0_2.length c0_2] 38 (0, 0)) (kl BK863.out)) : gb863 ≠ gb911)); have n22_ := am ((by rw [hg]; exact Nat.ne_of_gt (blk_lt (g := gb863) (o := .cells #[.slice A0_0 l0_0.length c0_0, .slice A0_1 l0_1.length c0_1, .slice A0_2 l0_2.length c0_2] 38 (0, 0)) (kl BK863.out)) : gb911 ≠ gb863)); have n23_ := am ((by rw [hg]; exact Nat.ne_of_lt (blk_lt (g := gb887) (o := .cells #[.slice Ao22 t874.length co22, .slice Ao25 t877.length co25, .slice Ao26 t880.length co26, .slice Ao27 t883.length co27] 48 (0, 0)) (kl BK887.out)) : gb887 ≠ gb911)); have n24_ := am ((by rw [hg]; exact Nat.ne_of_gt (blk_lt (g := gb887) (o := .cells #[.slice Ao22 t874.length co22, .slice Ao25 t877.length co25, .slice Ao26 t880.length co26, .slice Ao27 t883.length co27] 48 (0, 0)) (kl BK887.out)) : gb911 ≠ gb887)); have n25_ := am ((by rw [hg]; exact Nat.ne_of_lt (blk_lt (g := gb897) (o := .cells #[.slice Ao31 t888.length co31, .slice Ao35 t891.length co35, .slice Ao36 t894.length co36] 25 (0, 0)) (kl BK897.out)) : gb897 ≠ gb911)); have n26_ := am ((by rw [hg]; exact Nat.ne_of_gt (blk_lt (g := gb897) (o := .cells #[.slice Ao31 t888.length co31, .slice Ao35 t891.length co35, .slice Ao36 t894.length co36] 25 (0, 0)) (kl BK897.out)) : gb911 ≠ gb897)); clear HO867; clear HO870; clear HO873; clear HO876; clear HO879; clear HO882; clear HO885; clear HO890; clear HO893; clear HO896; clear HO900; clear HO903; clear HO906; clear HO909; clear BK863; clear BK887; clear BK897; clear HB; have HO867 := n0_; have HO870 := n1_; have HO873 := n2_; have HO876 := n3_; have HO879 := n4_; have HO882 := n5_; have HO885 := n6_; have HO890 := n7_; have HO893 := n8_; have HO896 := n9_; have HO900 := n10_; have HO903 := n11_; have HO906 := n12_; have HO909 := n13_; have BK863 := n14_; have BK887 := n15_; have BK897 := n16_; have HB := n17_; have BK911 := n18_; have GW911 := n19_; have GE911 := n20_; have NB863_911 := n21_; have NB911_863 := n22_; have NB887_911 := n23_; have NB911_887 := n24_; have NB897_911 := n25_; have NB911_897 := n26_; clear n0_ n1_ n2_ n3_ n4_ n5_ n6_ n7_ n8_ n9_ n10_ n11_ n12_ n13_ n14_ n15_ n16_ n17_ n18_ n19_ n20_ n21_ n22_ n23_ n24_ n25_ n26_; clear hb hbox hg; obtain ⟨Ao39, co39, eo39⟩ := Kd.R_slice HO900.out; subst eo39; have hnb40 := NB911_863.out; have hnc40 := NB863_911.out; have hnb41 := NB911_887.out; have hnc41 := NB887_911.out; have hnb42 := NB911_897.out; have hnc42 := NB897_911.out; have hcz43_0 : w38.cell? ⟨gb911, 0, none⟩ = some (.slice none 0 0) := (blk_cell BK911.out 0).trans rfl; have hcz43_1 : w38.cell? ⟨gb911, 1, none⟩ = some (.slice none 0 0) := (blk_cell BK911.out 1).trans rfl; have hcz43_2 : w38.cell? ⟨gb911, 2, none⟩ = some (.slice none 0 0) := (blk_cell BK911.out 2).trans rfl; have hcz43_3 : w38.cell? ⟨gb911, 3, none⟩ = some (.slice none 0 0) := (blk_cell BK911.out 3).trans rfl; have hfz43_0 := blk_frozen BK911.out 0; have hfz43_1 := blk_frozen BK911.out 1; have hfz43_2 := blk_frozen BK911.out 2; have hfz43_3 := blk_frozen BK911.out 3; obtain ⟨Ao44, co44, eo44⟩ := Kd.R_slice HO903.out; subst eo44; obtain ⟨Ao45, co45, eo45⟩ := Kd.R_slice HO906.out; subst eo45; obtain ⟨Ao46, co46, eo46⟩ := Kd.R_slice HO909.out; subst eo46))
    (try simp only [Act.put, List.setIfInBounds_toArray, List.set_cons_zero, List.set_cons_succ])
    go_cut [40] (fun v40 wc => ∃ (kq : Nat) (x40_10 : Bool), v40 = .bool x40_10 ∧ Aside0 (laws_FnExactNewColored.j0 kq t886 t910 x40_10 l0_0 l0_1 l0_2 t874 t877 t880 t883 t888 t891 t894 t898 t901 t904 t907 = some r) ∧ Aside0 (kq ≤ k) ∧ Aside0 (Kd.R (Kd.int .i64) 3 wc w.heap.size (fun k_ => some k_ ≠ ((.slice Ao25 t877.length co25) : Value).ownBlock ∧ some k_ ≠ ((.slice Ao26 t880.length co26) : Value).ownBlock ∧ some k_ ≠ ((.slice Ao27 t883.length co27) : Value).ownBlock ∧ some k_ ≠ ((.slice Ao31 t888.length co31) : Value).ownBlock ∧ some k_ ≠ ((.slice Ao35 t891.length co35) : Value).ownBlock ∧ some k_ ≠ ((.slice Ao36 t894.length co36) : Value).ownBlock ∧ some k_ ≠ ((.slice Ao39 t898.length co39) : Value).ownBlock ∧ some k_ ≠ ((.slice Ao44 t901.length co44) : Value).ownBlock ∧ some k_ ≠ ((.slice Ao45 t904.length co45) : Value).ownBlock ∧ some k_ ≠ ((.slice Ao46 t907.length co46) : Value).ownBlock) (.slice Ao22 t874.length co22) t874) ∧ Aside0 (Kd.R (Kd.int .i64) 3 wc w.heap.size (fun k_ => some k_ ≠ ((.slice Ao22 t874.length co22) : Value).ownBlock ∧ some k_ ≠ ((.slice Ao26 t880.length co26) : Value).ownBlock ∧ some k_ ≠ ((.slice Ao27 t883.length co27) : Value).ownBlock ∧ some k_ ≠ ((.slice Ao31 t888.length co31) : Value).ownBlock ∧ some k_ ≠ ((.slice Ao35 t891.length co35) : Value).ownBlock ∧ some k_ ≠ ((.slice Ao36 t894.length co36) : Value).ownBlock ∧ some k_ ≠ ((.slice Ao39 t898.length co39) : Value).ownBlock ∧ some k_ ≠ ((.slice Ao44 t901.length co44) : Value).ownBlock ∧ some k_ ≠ ((.slice Ao45 t904.length co45) : Value).ownBlock ∧ some k_ ≠ ((.slice Ao46 t907.length co46) : Value).ownBlock) (.slice Ao25 t877.length co25) t877) ∧ Aside0 (Kd.R (Kd.int .i64) 3 wc w.heap.size (fun k_ => some k_ ≠ ((.slice Ao22 t874.length co22) : Value).ownBlock ∧ some k_ ≠ ((.slice Ao25 t877.length co25) : Value).ownBlock ∧ some k_ ≠ ((.slice Ao27 t883.length co27) : Value).ownBlock ∧ some k_ ≠ ((.slice Ao31 t888.length co31) : Value).ownBlock ∧ some k_ ≠ ((.slice Ao35 t891.length co35) : Value).ownBlock ∧ some k_ ≠ ((.slice Ao36 t894.length co36) : Value).ownBlock ∧ some k_ ≠ ((.slice Ao39 t898.length co39) : Value).ownBlock ∧ some k_ ≠ ((.slice Ao44 t901.length co44) : Value).ownBlock ∧ some k_ ≠ ((.slice Ao45 t904.length co45) : Value).ownBlock ∧ some k_ ≠ ((.slice Ao46 t907.length co46) : Value).ownBlock) (.slice Ao26 t880.length co26) t880) ∧ Aside0 (Kd.R (Kd.int .i64) 3 wc w.heap.size (fun k_ => some k_ ≠ ((.slice Ao22 t874.length co22) : Value).ownBlock ∧ some k_ ≠ ((.slice Ao25 t877.length co25) : Value).ownBlock ∧ some k_ ≠ ((.slice Ao26 t880.length co26) : Value).ownBlock ∧ some k_ ≠ ((.slice Ao31 t888.length co31) : Value).ownBlock ∧ some k_ ≠ ((.slice Ao35 t891.length co35) : Value).ownBlock ∧ some k_ ≠ ((.slice Ao36 t894.length co36) : Value).ownBlock ∧ some k_ ≠ ((.slice Ao39 t898.length co39) : Value).ownBlock ∧ some k_ ≠ ((.slice Ao44 t901.length co44) : Value).ownBlock ∧ some k_ ≠ ((.slice Ao45 t904.length co45) : Value).ownBlock ∧ some k_ ≠ ((.slice Ao46 t907.length co46) : Value).ownBlock) (.slice Ao27 t883.length co27) t883) ∧ Aside0 (Kd.R (Kd.int .i64) 3 wc w.heap.size (fun k_ => some k_ ≠ ((.slice Ao22 t874.length co22) : Value).ownBlock ∧ some k_ ≠ ((.slice Ao25 t877.length co25) : Value).ownBlock ∧ some k_ ≠ ((.slice Ao26 t880.length co26) : Value).ownBlock ∧ some k_ ≠ ((.slice Ao27 t883.length co27) : Value).ownBlock ∧ some k_ ≠ ((.slice Ao35 t891.length co35) : Value).ownBlock ∧ some k_ ≠ ((.slice Ao36 t894.length co36) : Value).ownBlock ∧ some k_ ≠ ((.slice Ao39 t898.length co39) : Value).ownBlock ∧ some k_ ≠ ((.slice Ao44 t901.length co44) : Value).ownBlock ∧ some k_ ≠ ((.slice Ao45 t904.length co45) : Value).ownBlock ∧ some k_ ≠ ((.slice Ao46 t907.length co46) : Value).ownBlock) (.slice Ao31 t888.length co31) t888) ∧ Aside0 (Kd.R (Kd.int .i64) 3 wc w.heap.size (fun k_ => some k_ ≠ ((.slice Ao22 t874.length co22) : Value).ownBlock ∧ some k_ ≠ ((.slice Ao25 t877.length co25) : Value).ownBlock ∧ some k_ ≠ ((.slice Ao26 t880.length co26) : Value).ownBlock ∧ some k_ ≠ ((.slice Ao27 t883.length co27) : Value).ownBlock ∧ some k_ ≠ ((.slice Ao31 t888.length co31) : Value).ownBlock ∧ some k_ ≠ ((.slice Ao36 t894.length co36) : Value).ownBlock ∧ some k_ ≠ ((.slice Ao39 t898.length co39) : Value).ownBlock ∧ some k_ ≠ ((.slice Ao44 t901.length co44) : Value).ownBlock ∧ some k_ ≠ ((.slice Ao45 t904.length co45) : Value).ownBlock ∧ some k_ ≠ ((.slice Ao46 t907.length co46) : Value).ownBlock) (.slice Ao35 t891.length co35) t891) ∧ Aside0 (Kd.R (Kd.int .i64) 3 wc w.heap.size (fun k_ => some k_ ≠ ((.slice Ao22 t874.length co22) : Value).ownBlock ∧ some k_ ≠ ((.slice Ao25 t877.length co25) : Value).ownBlock ∧ some k_ ≠ ((.slice Ao26 t880.length co26) : Value).ownBlock ∧ some k_ ≠ ((.slice Ao27 t883.length co27) : Value).ownBlock ∧ some k_ ≠ ((.slice Ao31 t888.length co31) : Value).ownBlock ∧ some k_ ≠ ((.slice Ao35 t891.length co35) : Value).ownBlock ∧ some k_ ≠ ((.slice Ao39 t898.length co39) : Value).ownBlock ∧ some k_ ≠ ((.slice Ao44 t901.length co44) : Value).ownBlock ∧ some k_ ≠ ((.slice Ao45 t904.length co45) : Value).ownBlock ∧ some k_ ≠ ((.slice Ao46 t907.length co46) : Value).ownBlock) (.slice Ao36 t894.length co36) t894) ∧ Aside0 (Kd.R (Kd.int .i64) 3 wc w.heap.size (fun k_ => some k_ ≠ ((.slice Ao22 t874.length co22) : Value).ownBlock ∧ some k_ ≠ ((.slice Ao25 t877.length co25) : Value).ownBlock ∧ some k_ ≠ ((.slice Ao26 t880.length co26) : Value).ownBlock ∧ some k_ ≠ ((.slice Ao27 t883.length co27) : Value).ownBlock ∧ some k_ ≠ ((.slice Ao31 t888.length co31) : Value).ownBlock ∧ some k_ ≠ ((.slice Ao35 t891.length co35) : Value).ownBlock ∧ some k_ ≠ ((.slice Ao36 t894.length co36) : Value).ownBlock ∧ some k_ ≠ ((.slice Ao44 t901.length co44) : Value).ownBlock ∧ some k_ ≠ ((.slice Ao45 t904.length co45) : Value).ownBlock ∧ some k_ ≠ ((.slice Ao46 t907.length co46) : Value).ownBlock) (.slice Ao39 t898.length co39) t898) ∧ Aside0 (Kd.R (Kd.int .i64) 3 wc w.heap.size (fun k_ => some k_ ≠ ((.slice Ao22 t874.length co22) : Value).ownBlock ∧ some k_ ≠ ((.slice Ao25 t877.length co25) : Value).ownBlock ∧ some k_ ≠ ((.slice Ao26 t880.length co26) : Value).ownBlock ∧ some k_ ≠ ((.slice Ao27 t883.length co27) : Value).ownBlock ∧ some k_ ≠ ((.slice Ao31 t888.length co31) : Value).ownBlock ∧ some k_ ≠ ((.slice Ao35 t891.length co35) : Value).ownBlock ∧ some k_ ≠ ((.slice Ao36 t894.length co36) : Value).ownBlock ∧ some k_ ≠ ((.slice Ao39 t898.length co39) : Value).ownBlock ∧ some k_ ≠ ((.slice Ao45 t904.length co45) : Value).ownBlock ∧ some k_ ≠ ((.slice Ao46 t907.length co46) : Value).ownBlock) (.slice Ao44 t901.length co44) t901) ∧ Aside0 (Kd.R (Kd.int .i64) 3 wc w.heap.size (fun k_ => some k_ ≠ ((.slice Ao22 t874.length co22) : Value).ownBlock ∧ some k_ ≠ ((.slice Ao25 t877.length co25) : Value).ownBlock ∧ some k_ ≠ ((.slice Ao26 t880.length co26) : Value).ownBlock ∧ some k_ ≠ ((.slice Ao27 t883.length co27) : Value).ownBlock ∧ some k_ ≠ ((.slice Ao31 t888.length co31) : Value).ownBlock ∧ some k_ ≠ ((.slice Ao35 t891.length co35) : Value).ownBlock ∧ some k_ ≠ ((.slice Ao36 t894.length co36) : Value).ownBlock ∧ some k_ ≠ ((.slice Ao39 t898.length co39) : Value).ownBlock ∧ some k_ ≠ ((.slice Ao44 t901.length co44) : Value).ownBlock ∧ some k_ ≠ ((.slice Ao46 t907.length co46) : Value).ownBlock) (.slice Ao45 t904.length co45) t904) ∧ Aside0 (Kd.R (Kd.int .i64) 3 wc w.heap.size (fun k_ => some k_ ≠ ((.slice Ao22 t874.length co22) : Value).ownBlock ∧ some k_ ≠ ((.slice Ao25 t877.length co25) : Value).ownBlock ∧ some k_ ≠ ((.slice Ao26 t880.length co26) : Value).ownBlock ∧ some k_ ≠ ((.slice Ao27 t883.length co27) : Value).ownBlock ∧ some k_ ≠ ((.slice Ao31 t888.length co31) : Value).ownBlock ∧ some k_ ≠ ((.slice Ao35 t891.length co35) : Value).ownBlock ∧ some k_ ≠ ((.slice Ao36 t894.length co36) : Value).ownBlock ∧ some k_ ≠ ((.slice Ao39 t898.length co39) : Value).ownBlock ∧ some k_ ≠ ((.slice Ao44 t901.length co44) : Value).ownBlock ∧ some k_ ≠ ((.slice Ao45 t904.length co45) : Value).ownBlock) (.slice Ao46 t907.length co46) t907) ∧ Aside0 (wc.heap[gb863]? = some (.cells #[(.slice A0_0 l0_0.length c0_0), (.slice A0_1 l0_1.length c0_1), (.slice A0_2 l0_2.length c0_2)] 38 (0, 0))) ∧ Aside0 (wc.heap[gb887]? = some (.cells #[(.slice Ao22 t874.length co22), (.slice Ao25 t877.length co25), (.slice Ao26 t880.length co26), (.slice Ao27 t883.length co27)] 48 (0, 0))) ∧ Aside0 (wc.heap[gb897]? = some (.cells #[(.slice Ao31 t888.length co31), (.slice Ao35 t891.length co35), (.slice Ao36 t894.length co36)] 25 (0, 0))) ∧ Aside0 (wc.heap[gb911]? = some (.cells #[(.slice Ao39 t898.length co39), (.slice Ao44 t901.length co44), (.slice Ao45 t904.length co45), (.slice Ao46 t907.length co46)] 48 (0, 0))) ∧ Aside0 (Below w.heap.size w wc))
    case first =>
      have H := HC11.out
      clear HC11
      replace H := Option.bind_eq_some_iff.mp H
      obtain ⟨t912, A470, H⟩ := H
      replace H : (if t912 = true then (laws_FnExactNewColored.j0 k t886 t910 (t910 != t886) l0_0 l0_1 l0_2 t874 t877 t880 t883 t888 t891 t894 t898 t901 t904 t907) else (laws_FnExactNewColored.j0 k t886 t910 true l0_0 l0_1 l0_2 t874 t877 t880 t883 t888 t891 t894 t898 t901 t904 t907)) = some r := H
      have A47 := am A470
      clear A470
      by_cases c48 : t912 = true
      · subst c48
        have H1 : (laws_FnExactNewColored.j0 k t886 t910 (t910 != t886) l0_0 l0_1 l0_2 t874 t877 t880 t883 t888 t891 t894 t898 t901 t904 t907) = some r := by rw [if_pos rfl] at H; exact H
        clear H
        have H := H1
        clear H1
        have H' := am H
        clear H
        have hnb49 := NB911_863.out
        have hnc49 := NB863_911.out
        have hnb50 := NB911_887.out
        have hnc50 := NB887_911.out
        have hnb51 := NB911_897.out
        have hnc51 := NB897_911.out
        have hcz52_0 : w38.cell? ⟨gb911, 0, none⟩ = some (.slice none 0 0) := (blk_cell BK911.out 0).trans rfl
        have hcz52_1 : w38.cell? ⟨gb911, 1, none⟩ = some (.slice none 0 0) := (blk_cell BK911.out 1).trans rfl
        have hcz52_2 : w38.cell? ⟨gb911, 2, none⟩ = some (.slice none 0 0) := (blk_cell BK911.out 2).trans rfl
        have hcz52_3 : w38.cell? ⟨gb911, 3, none⟩ = some (.slice none 0 0) := (blk_cell BK911.out 3).trans rfl
        have hfz52_0 := blk_frozen BK911.out 0
        have hfz52_1 := blk_frozen BK911.out 1
        have hfz52_2 := blk_frozen BK911.out 2
        have hfz52_3 := blk_frozen BK911.out 3
        have hnb53 := NB887_863.out
        have hnc53 := NB863_887.out
        have hnb54 := NB887_897.out
        have hnc54 := NB897_887.out
        have hcz55_0 : w38.cell? ⟨gb887, 0, none⟩ = some (.slice Ao22 t874.length co22) := (blk_cell BK887.out 0).trans rfl
        have hcz55_1 : w38.cell? ⟨gb887, 1, none⟩ = some (.slice Ao25 t877.length co25) := (blk_cell BK887.out 1).trans rfl
        have hcz55_2 : w38.cell? ⟨gb887, 2, none⟩ = some (.slice Ao26 t880.length co26) := (blk_cell BK887.out 2).trans rfl
        have hcz55_3 : w38.cell? ⟨gb887, 3, none⟩ = some (.slice Ao27 t883.length co27) := (blk_cell BK887.out 3).trans rfl
        have hfz55_0 := blk_frozen BK887.out 0
        have hfz55_1 := blk_frozen BK887.out 1
        have hfz55_2 := blk_frozen BK887.out 2
        have hfz55_3 := blk_frozen BK887.out 3
        go_wp2_with (first | ((with_reducible refine gate_callee (f := 39) rfl ?_); refine goesL_ (some 34) rfl rfl Try.func39 (by kernel_rfl) rfl #[.agg #[.slice Ao39 t898.length co39, .slice Ao44 t901.length co44, .slice Ao45 t904.length co45, .slice Ao46 t907.length co46], .agg #[.slice Ao22 t874.length co22, .slice Ao25 t877.length co25, .slice Ao26 t880.length co26, .slice Ao27 t883.length co27]] rfl (by (try simp only [List.map_toArray, List.map_cons, List.map_nil]); first | done | rfl | (simp only [List.length_drop, List.length_take]; rfl)) ?_; (with_reducible refine (laws_eqColored.calls k _ _ t898 _ _ t901 _ _ t904 _ _ t907 _ _ t874 _ _ t877 _ _ t880 _ _ t883 true _ ?side1 ?side2 ?side3 ?side4 ?side5 ?side6 ?side7 ?side8 ?side9 ?side10 ?side11 ?side12 ?side13 ?side14 ?side15 ?side16 A47.out).mono ?_); (case side1 => exact (Kd.R_reads' (rl ((far4 HO900.out BK911.out (by decide) (.slice Ao39 t898.length co39) (.slice Ao44 t901.length co44) (.slice Ao45 t904.length co45) (.slice Ao46 t907.length co46))))).2.2); (case side2 => exact (Kd.R_reads' HO900.out).2.1); (case side3 => exact (Kd.R_reads' (rl ((far4 HO903.out BK911.out (by decide) (.slice Ao39 t898.length co39) (.slice Ao44 t901.length co44) (.slice Ao45 t904.length co45) (.slice Ao46 t907.length co46))))).2.2); (case side4 => exact (Kd.R_reads' HO903.out).2.1); (case side5 => exact (Kd.R_reads' (rl ((far4 HO906.out BK911.out (by decide) (.slice Ao39 t898.length co39) (.slice Ao44 t901.length co44) (.slice Ao45 t904.length co45) (.slice Ao46 t907.length co46))))).2.2); (case side6 => exact (Kd.R_reads' HO906.out).2.1); (case side7 => exact (Kd.R_reads' (rl ((far4 HO909.out BK911.out (by decide) (.slice Ao39 t898.length co39) (.slice Ao44 t901.length co44) (.slice Ao45 t904.length co45) (.slice Ao46 t907.length co46))))).2.2); (case side8 => exact (Kd.R_reads' HO909.out).2.1); (case side9 => exact (Kd.R_reads' (rl ((far4 HO876.out BK911.out (by decide) (.slice Ao39 t898.length co39) (.slice Ao44 t901.length co44) (.slice Ao45 t904.length co45) (.slice Ao46 t907.length co46))))).2.2); (case side10 => exact (Kd.R_reads' HO876.out).2.1); (case side11 => exact (Kd.R_reads' (rl ((far4 HO879.out BK911.out (by decide) (.slice Ao39 t898.length co39) (.slice Ao44 t901.length co44) (.slice Ao45 t904.length co45) (.slice Ao46 t907.length co46))))).2.2); (case side12 => exact (Kd.R_reads' HO879.out).2.1); (case side13 => exact (Kd.R_reads' (rl ((far4 HO882.out BK911.out (by decide) (.slice Ao39 t898.length co39) (.slice Ao44 t901.length co44) (.slice Ao45 t904.length co45) (.slice Ao46 t907.length co46))))).2.2); (case side14 => exact (Kd.R_reads' HO882.out).2.1); (case side15 => exact (Kd.R_reads' (rl ((far4 HO885.out BK911.out (by decide) (.slice Ao39 t898.length co39) (.slice Ao44 t901.length co44) (.slice Ao45 t904.length co45) (.slice Ao46 t907.length co46))))).2.2); (case side16 => exact (Kd.R_reads' HO885.out).2.1); rintro e w56 ⟨rfl, hb⟩; refine ⟨_, rfl, ?_⟩; have n0_ := am (Kd.R_below (rl ((far4 HO867.out BK911.out (by decide) (.slice Ao39 t898.length co39) (.slice Ao44 t901.length co44) (.slice Ao45 t904.length co45) (.slice Ao46 t907.length co46)))) hb); have n1_ := am (Kd.R_below (rl ((far4 HO870.out BK911.out (by decide) (.slice Ao39 t898.length co39) (.slice Ao44 t901.length co44) (.slice Ao45 t904.length co45) (.slice Ao46 t907.length co46)))) hb); have n2_ := am (Kd.R_below (rl ((far4 HO873.out BK911.out (by decide) (.slice Ao39 t898.length co39) (.slice Ao44 t901.length co44) (.slice Ao45 t904.length co45) (.slice Ao46 t907.length co46)))) hb); have n3_ := am (Kd.R_below (rl ((far4 HO876.out BK911.out (by decide) (.slice Ao39 t898.length co39) (.slice Ao44 t901.length co44) (.slice Ao45 t904.length co45) (.slice Ao46 t907.length co46)))) hb); have n4_ := am (Kd.R_below (rl ((far4 HO879.out BK911.out (by decide) (.slice Ao39 t898.length co39) (.slice Ao44 t901.length co44) (.slice Ao45 t904.length co45) (.slice Ao46 t907.length co46)))) hb); have n5_ := am (Kd.R_below (rl ((far4 HO882.out BK911.out (by decide) (.slice Ao39 t898.length co39) (.slice Ao44 t901.length co44) (.slice Ao45 t904.length co45) (.slice Ao46 t907.length co46)))) hb); have n6_ := am (Kd.R_below (rl ((far4 HO885.out BK911.out (by decide) (.slice Ao39 t898.length co39) (.slice Ao44 t901.length co44) (.slice Ao45 t904.length co45) (.slice Ao46 t907.length co46)))) hb); have n7_ := am (Kd.R_below (rl ((far4 HO890.out BK911.out (by decide) (.slice Ao39 t898.length co39) (.slice Ao44 t901.length co44) (.slice Ao45 t904.length co45) (.slice Ao46 t907.length co46)))) hb); have n8_ := am (Kd.R_below (rl ((far4 HO893.out BK911.out (by decide) (.slice Ao39 t898.length co39) (.slice Ao44 t901.length co44) (.slice Ao45 t904.length co45) (.slice Ao46 t907.length co46)))) hb); have n9_ := am (Kd.R_below (rl ((far4 HO896.out BK911.out (by decide) (.slice Ao39 t898.length co39) (.slice Ao44 t901.length co44) (.slice Ao45 t904.length co45) (.slice Ao46 t907.length co46)))) hb); have n10_ := am (Kd.R_below (rl ((far4 HO900.out BK911.out (by decide) (.slice Ao39 t898.length co39) (.slice Ao44 t901.length co44) (.slice Ao45 t904.length co45) (.slice Ao46 t907.length co46)))) hb); have n11_ := am (Kd.R_below (rl ((far4 HO903.out BK911.out (by decide) (.slice Ao39 t898.length co39) (.slice Ao44 t901.length co44) (.slice Ao45 t904.length co45) (.slice Ao46 t907.length co46)))) hb); have n12_ := am (Kd.R_below (rl ((far4 HO906.out BK911.out (by decide) (.slice Ao39 t898.length co39) (.slice Ao44 t901.length co44) (.slice Ao45 t904.length co45) (.slice Ao46 t907.length co46)))) hb); have n13_ := am (Kd.R_below (rl ((far4 HO909.out BK911.out (by decide) (.slice Ao39 t898.length co39) (.slice Ao44 t901.length co44) (.slice Ao45 t904.length co45) (.slice Ao46 t907.length co46)))) hb); have n14_ := am (blk_below (g := gb863) (o := .cells #[.slice A0_0 l0_0.length c0_0, .slice A0_1 l0_1.length c0_1, .slice A0_2 l0_2.length c0_2] 38 (0, 0)) (by (with_reducible repeat (first | refine blk_drewN ?_ _ | refine blk_drew ?_ | refine blk_alloc ?_ _)); refine blk_far ?_ NB863_911.out _; (with_reducible repeat (first | refine blk_drewN ?_ _ | refine blk_drew ?_ | refine blk_alloc ?_ _)); refine blk_far ?_ NB863_911.out _; (with_reducible repeat (first | refine blk_drewN ?_ _ | refine blk_drew ?_ | refine blk_alloc ?_ _)); refine blk_far ?_ NB863_911.out _; (with_reducible repeat (first | refine blk_drewN ?_ _ | refine blk_drew ?_ | refine blk_alloc ?_ _)); refine blk_far ?_ NB863_911.out _; (with_reducible repeat (first | refine blk_drewN ?_ _ | refine blk_drew ?_ | refine blk_alloc ?_ _)); exact BK863.out) hb); have n15_ := am (blk_below (g := gb887) (o := .cells #[.slice Ao22 t874.length co22, .slice Ao25 t877.length co25, .slice Ao26 t880.length co26, .slice Ao27 t883.length co27] 48 (0, 0)) (by (with_reducible repeat (first | refine blk_drewN ?_ _ | refine blk_drew ?_ | refine blk_alloc ?_ _)); refine blk_far ?_ NB887_911.out _; (with_reducible repeat (first | refine blk_drewN ?_ _ | refine blk_drew ?_ | refine blk_alloc ?_ _)); refine blk_far ?_ NB887_911.out _; (with_reducible repeat (first | refine blk_drewN ?_ _ | refine blk_drew ?_ | refine blk_alloc ?_ _)); refine blk_far ?_ NB887_911.out _; (with_reducible repeat (first | refine blk_drewN ?_ _ | refine blk_drew ?_ | refine blk_alloc ?_ _)); refine blk_far ?_ NB887_911.out _; (with_reducible repeat (first | refine blk_drewN ?_ _ | refine blk_drew ?_ | refine blk_alloc ?_ _)); exact BK887.out) hb); have n16_ := am (blk_below (g := gb897) (o := .cells #[.slice Ao31 t888.length co31, .slice Ao35 t891.length co35, .slice Ao36 t894.length co36] 25 (0, 0)) (by (with_reducible repeat (first | refine blk_drewN ?_ _ | refine blk_drew ?_ | refine blk_alloc ?_ _)); refine blk_far ?_ NB897_911.out _; (with_reducible repeat (first | refine blk_drewN ?_ _ | refine blk_drew ?_ | refine blk_alloc ?_ _)); refine blk_far ?_ NB897_911.out _; (with_reducible repeat (first | refine blk_drewN ?_ _ | refine blk_drew ?_ | refine blk_alloc ?_ _)); refine blk_far ?_ NB897_911.out _; (with_reducible repeat (first | refine blk_drewN ?_ _ | refine blk_drew ?_ | refine blk_alloc ?_ _)); refine blk_far ?_ NB897_911.out _; (with_reducible repeat (first | refine blk_drewN ?_ _ | refine blk_drew ?_ | refine blk_alloc ?_ _)); exact BK897.out) hb); have n17_ := am (blk_below (g := gb911) (o := .cells #[.slice Ao39 t898.length co39, .slice Ao44 t901.length co44, .slice Ao45 t904.length co45, .slice Ao46 t907.length co46] 48 (0, 0)) (by (with_reducible repeat (first | refine blk_drewN ?_ _ | refine blk_drew ?_ | refine blk_alloc ?_ _)); refine blk_put (cs := #[.slice Ao39 t898.length co39, .slice Ao44 t901.length co44, .slice Ao45 t904.length co45, .slice none 0 0]) ?_ 3 _ rfl; (with_reducible repeat (first | refine blk_drewN ?_ _ | refine blk_drew ?_ | refine blk_alloc ?_ _)); refine blk_put (cs := #[.slice Ao39 t898.length co39, .slice Ao44 t901.length co44, .slice none 0 0, .slice none 0 0]) ?_ 2 _ rfl; (with_reducible repeat (first | refine blk_drewN ?_ _ | refine blk_drew ?_ | refine blk_alloc ?_ _)); refine blk_put (cs := #[.slice Ao39 t898.length co39, .slice none 0 0, .slice none 0 0, .slice none 0 0]) ?_ 1 _ rfl; (with_reducible repeat (first | refine blk_drewN ?_ _ | refine blk_drew ?_ | refine blk_alloc ?_ _)); refine blk_put (cs := #[.slice none 0 0, .slice none 0 0, .slice none 0 0, .slice none 0 0]) ?_ 0 _ rfl; (with_reducible repeat (first | refine blk_drewN ?_ _ | refine blk_drew ?_ | refine blk_alloc ?_ _)); exact BK911.out) hb); have n18_ := am (below_step (by repeat (first | (with_reducible first | exact HB.out | apply below_alloc | apply pw_below_drewN | apply below_drew1 | refine below_set ?_ GE863.out | refine below_set ?_ GE887.out | refine below_set ?_ GE897.out | refine below_set ?_ GE911.out) | exact HB.out)) hb); clear HO867; clear HO870; clear HO873; clear HO876; clear HO879; clear HO882; clear HO885; clear HO890; clear HO893; clear HO896; clear HO900; clear HO903; clear HO906; clear HO909; clear BK863; clear BK887; clear BK897; clear BK911; clear HB; have HO867 := n0_; have HO870 := n1_; have HO873 := n2_; have HO876 := n3_; have HO879 := n4_; have HO882 := n5_; have HO885 := n6_; have HO890 := n7_; have HO893 := n8_; have HO896 := n9_; have HO900 := n10_; have HO903 := n11_; have HO906 := n12_; have HO909 := n13_; have BK863 := n14_; have BK887 := n15_; have BK897 := n16_; have BK911 := n17_; have HB := n18_; clear n0_ n1_ n2_ n3_ n4_ n5_ n6_ n7_ n8_ n9_ n10_ n11_ n12_ n13_ n14_ n15_ n16_ n17_ n18_; (try clear hb); (try clear hb2); (try clear hk); (try clear hi)))
        go_meet
        case rel => exact ⟨_, ((t910 != t886)), (by first | rfl | (simp; done) | (simp [*]; done)), H', ⟨by first | omega | exact Nat.le_refl _⟩, ⟨rl (Kd.R_mono HO876.out (fun _ hk => by simp only [ne_eq] at hk ⊢; simp only [hk, not_false_eq_true, and_self]))⟩, ⟨rl (Kd.R_mono HO879.out (fun _ hk => by simp only [ne_eq] at hk ⊢; simp only [hk, not_false_eq_true, and_self]))⟩, ⟨rl (Kd.R_mono HO882.out (fun _ hk => by simp only [ne_eq] at hk ⊢; simp only [hk, not_false_eq_true, and_self]))⟩, ⟨rl (Kd.R_mono HO885.out (fun _ hk => by simp only [ne_eq] at hk ⊢; simp only [hk, not_false_eq_true, and_self]))⟩, ⟨rl (Kd.R_mono HO890.out (fun _ hk => by simp only [ne_eq] at hk ⊢; simp only [hk, not_false_eq_true, and_self]))⟩, ⟨rl (Kd.R_mono HO893.out (fun _ hk => by simp only [ne_eq] at hk ⊢; simp only [hk, not_false_eq_true, and_self]))⟩, ⟨rl (Kd.R_mono HO896.out (fun _ hk => by simp only [ne_eq] at hk ⊢; simp only [hk, not_false_eq_true, and_self]))⟩, ⟨rl (Kd.R_mono HO900.out (fun _ hk => by simp only [ne_eq] at hk ⊢; simp only [hk, not_false_eq_true, and_self]))⟩, ⟨rl (Kd.R_mono HO903.out (fun _ hk => by simp only [ne_eq] at hk ⊢; simp only [hk, not_false_eq_true, and_self]))⟩, ⟨rl (Kd.R_mono HO906.out (fun _ hk => by simp only [ne_eq] at hk ⊢; simp only [hk, not_false_eq_true, and_self]))⟩, ⟨rl (Kd.R_mono HO909.out (fun _ hk => by simp only [ne_eq] at hk ⊢; simp only [hk, not_false_eq_true, and_self]))⟩, ⟨kl BK863.out⟩, ⟨kl BK887.out⟩, ⟨kl BK897.out⟩, ⟨kl BK911.out⟩, ⟨by repeat (first | (with_reducible first | exact HB.out | apply below_alloc | apply pw_below_drewN | apply below_drew1 | refine below_set ?_ GE863.out | refine below_set ?_ GE887.out | refine below_set ?_ GE897.out | refine below_set ?_ GE911.out) | exact HB.out)⟩⟩
      · replace c48 := Bool.eq_false_iff.mpr c48
        subst c48
        have H1 : (laws_FnExactNewColored.j0 k t886 t910 true l0_0 l0_1 l0_2 t874 t877 t880 t883 t888 t891 t894 t898 t901 t904 t907) = some r := by rw [if_neg (show ¬ (false = true) by decide)] at H; exact H
        clear H
        have H := H1
        clear H1
        have H' := am H
        clear H
        have hnb57 := NB911_863.out
        have hnc57 := NB863_911.out
        have hnb58 := NB911_887.out
        have hnc58 := NB887_911.out
        have hnb59 := NB911_897.out
        have hnc59 := NB897_911.out
        have hcz60_0 : w38.cell? ⟨gb911, 0, none⟩ = some (.slice none 0 0) := (blk_cell BK911.out 0).trans rfl
        have hcz60_1 : w38.cell? ⟨gb911, 1, none⟩ = some (.slice none 0 0) := (blk_cell BK911.out 1).trans rfl
        have hcz60_2 : w38.cell? ⟨gb911, 2, none⟩ = some (.slice none 0 0) := (blk_cell BK911.out 2).trans rfl
        have hcz60_3 : w38.cell? ⟨gb911, 3, none⟩ = some (.slice none 0 0) := (blk_cell BK911.out 3).trans rfl
        have hfz60_0 := blk_frozen BK911.out 0
        have hfz60_1 := blk_frozen BK911.out 1
        have hfz60_2 := blk_frozen BK911.out 2
        have hfz60_3 := blk_frozen BK911.out 3
        have hnb61 := NB887_863.out
        have hnc61 := NB863_887.out
        have hnb62 := NB887_897.out
        have hnc62 := NB897_887.out
        have hcz63_0 : w38.cell? ⟨gb887, 0, none⟩ = some (.slice Ao22 t874.length co22) := (blk_cell BK887.out 0).trans rfl
        have hcz63_1 : w38.cell? ⟨gb887, 1, none⟩ = some (.slice Ao25 t877.length co25) := (blk_cell BK887.out 1).trans rfl
        have hcz63_2 : w38.cell? ⟨gb887, 2, none⟩ = some (.slice Ao26 t880.length co26) := (blk_cell BK887.out 2).trans rfl
        have hcz63_3 : w38.cell? ⟨gb887, 3, none⟩ = some (.slice Ao27 t883.length co27) := (blk_cell BK887.out 3).trans rfl
        have hfz63_0 := blk_frozen BK887.out 0
        have hfz63_1 := blk_frozen BK887.out 1
        have hfz63_2 := blk_frozen BK887.out 2
        have hfz63_3 := blk_frozen BK887.out 3
        go_wp2_with (first | ((with_reducible refine gate_callee (f := 39) rfl ?_); refine goesL_ (some 34) rfl rfl Try.func39 (by kernel_rfl) rfl #[.agg #[.slice Ao39 t898.length co39, .slice Ao44 t901.length co44, .slice Ao45 t904.length co45, .slice Ao46 t907.length co46], .agg #[.slice Ao22 t874.length co22, .slice Ao25 t877.length co25, .slice Ao26 t880.length co26, .slice Ao27 t883.length co27]] rfl (by (try simp only [List.map_toArray, List.map_cons, List.map_nil]); first | done | rfl | (simp only [List.length_drop, List.length_take]; rfl)) ?_; (with_reducible refine (laws_eqColored.calls k _ _ t898 _ _ t901 _ _ t904 _ _ t907 _ _ t874 _ _ t877 _ _ t880 _ _ t883 false _ ?side1 ?side2 ?side3 ?side4 ?side5 ?side6 ?side7 ?side8 ?side9 ?side10 ?side11 ?side12 ?side13 ?side14 ?side15 ?side16 A47.out).mono ?_); (case side1 => exact (Kd.R_reads' (rl ((far4 HO900.out BK911.out (by decide) (.slice Ao39 t898.length co39) (.slice Ao44 t901.length co44) (.slice Ao45 t904.length co45) (.slice Ao46 t907.length co46))))).2.2); (case side2 => exact (Kd.R_reads' HO900.out).2.1); (case side3 => exact (Kd.R_reads' (rl ((far4 HO903.out BK911.out (by decide) (.slice Ao39 t898.length co39) (.slice Ao44 t901.length co44) (.slice Ao45 t904.length co45) (.slice Ao46 t907.length co46))))).2.2); (case side4 => exact (Kd.R_reads' HO903.out).2.1); (case side5 => exact (Kd.R_reads' (rl ((far4 HO906.out BK911.out (by decide) (.slice Ao39 t898.length co39) (.slice Ao44 t901.length co44) (.slice Ao45 t904.length co45) (.slice Ao46 t907.length co46))))).2.2); (case side6 => exact (Kd.R_reads' HO906.out).2.1); (case side7 => exact (Kd.R_reads' (rl ((far4 HO909.out BK911.out (by decide) (.slice Ao39 t898.length co39) (.slice Ao44 t901.length co44) (.slice Ao45 t904.length co45) (.slice Ao46 t907.length co46))))).2.2); (case side8 => exact (Kd.R_reads' HO909.out).2.1); (case side9 => exact (Kd.R_reads' (rl ((far4 HO876.out BK911.out (by decide) (.slice Ao39 t898.length co39) (.slice Ao44 t901.length co44) (.slice Ao45 t904.length co45) (.slice Ao46 t907.length co46))))).2.2); (case side10 => exact (Kd.R_reads' HO876.out).2.1); (case side11 => exact (Kd.R_reads' (rl ((far4 HO879.out BK911.out (by decide) (.slice Ao39 t898.length co39) (.slice Ao44 t901.length co44) (.slice Ao45 t904.length co45) (.slice Ao46 t907.length co46))))).2.2); (case side12 => exact (Kd.R_reads' HO879.out).2.1); (case side13 => exact (Kd.R_reads' (rl ((far4 HO882.out BK911.out (by decide) (.slice Ao39 t898.length co39) (.slice Ao44 t901.length co44) (.slice Ao45 t904.length co45) (.slice Ao46 t907.length co46))))).2.2); (case side14 => exact (Kd.R_reads' HO882.out).2.1); (case side15 => exact (Kd.R_reads' (rl ((far4 HO885.out BK911.out (by decide) (.slice Ao39 t898.length co39) (.slice Ao44 t901.length co44) (.slice Ao45 t904.length co45) (.slice Ao46 t907.length co46))))).2.2); (case side16 => exact (Kd.R_reads' HO885.out).2.1); rintro e w64 ⟨rfl, hb⟩; refine ⟨_, rfl, ?_⟩; have n0_ := am (Kd.R_below (rl ((far4 HO867.out BK911.out (by decide) (.slice Ao39 t898.length co39) (.slice Ao44 t901.length co44) (.slice Ao45 t904.length co45) (.slice Ao46 t907.length co46)))) hb); have n1_ := am (Kd.R_below (rl ((far4 HO870.out BK911.out (by decide) (.slice Ao39 t898.length co39) (.slice Ao44 t901.length co44) (.slice Ao45 t904.length co45) (.slice Ao46 t907.length co46)))) hb); have n2_ := am (Kd.R_below (rl ((far4 HO873.out BK911.out (by decide) (.slice Ao39 t898.length co39) (.slice Ao44 t901.length co44) (.slice Ao45 t904.length co45) (.slice Ao46 t907.length co46)))) hb); have n3_ := am (Kd.R_below (rl ((far4 HO876.out BK911.out (by decide) (.slice Ao39 t898.length co39) (.slice Ao44 t901.length co44) (.slice Ao45 t904.length co45) (.slice Ao46 t907.length co46)))) hb); have n4_ := am (Kd.R_below (rl ((far4 HO879.out BK911.out (by decide) (.slice Ao39 t898.length co39) (.slice Ao44 t901.length co44) (.slice Ao45 t904.length co45) (.slice Ao46 t907.length co46)))) hb); have n5_ := am (Kd.R_below (rl ((far4 HO882.out BK911.out (by decide) (.slice Ao39 t898.length co39) (.slice Ao44 t901.length co44) (.slice Ao45 t904.length co45) (.slice Ao46 t907.length co46)))) hb); have n6_ := am (Kd.R_below (rl ((far4 HO885.out BK911.out (by decide) (.slice Ao39 t898.length co39) (.slice Ao44 t901.length co44) (.slice Ao45 t904.length co45) (.slice Ao46 t907.length co46)))) hb); have n7_ := am (Kd.R_below (rl ((far4 HO890.out BK911.out (by decide) (.slice Ao39 t898.length co39) (.slice Ao44 t901.length co44) (.slice Ao45 t904.length co45) (.slice Ao46 t907.length co46)))) hb); have n8_ := am (Kd.R_below (rl ((far4 HO893.out BK911.out (by decide) (.slice Ao39 t898.length co39) (.slice Ao44 t901.length co44) (.slice Ao45 t904.length co45) (.slice Ao46 t907.length co46)))) hb); have n9_ := am (Kd.R_below (rl ((far4 HO896.out BK911.out (by decide) (.slice Ao39 t898.length co39) (.slice Ao44 t901.length co44) (.slice Ao45 t904.length co45) (.slice Ao46 t907.length co46)))) hb); have n10_ := am (Kd.R_below (rl ((far4 HO900.out BK911.out (by decide) (.slice Ao39 t898.length co39) (.slice Ao44 t901.length co44) (.slice Ao45 t904.length co45) (.slice Ao46 t907.length co46)))) hb); have n11_ := am (Kd.R_below (rl ((far4 HO903.out BK911.out (by decide) (.slice Ao39 t898.length co39) (.slice Ao44 t901.length co44) (.slice Ao45 t904.length co45) (.slice Ao46 t907.length co46)))) hb); have n12_ := am (Kd.R_below (rl ((far4 HO906.out BK911.out (by decide) (.slice Ao39 t898.length co39) (.slice Ao44 t901.length co44) (.slice Ao45 t904.length co45) (.slice Ao46 t907.length co46)))) hb); have n13_ := am (Kd.R_below (rl ((far4 HO909.out BK911.out (by decide) (.slice Ao39 t898.length co39) (.slice Ao44 t901.length co44) (.slice Ao45 t904.length co45) (.slice Ao46 t907.length co46)))) hb); have n14_ := am (blk_below (g := gb863) (o := .cells #[.slice A0_0 l0_0.length c0_0, .slice A0_1 l0_1.length c0_1, .slice A0_2 l0_2.length c0_2] 38 (0, 0)) (by (with_reducible repeat (first | refine blk_drewN ?_ _ | refine blk_drew ?_ | refine blk_alloc ?_ _)); refine blk_far ?_ NB863_911.out _; (with_reducible repeat (first | refine blk_drewN ?_ _ | refine blk_drew ?_ | refine blk_alloc ?_ _)); refine blk_far ?_ NB863_911.out _; (with_reducible repeat (first | refine blk_drewN ?_ _ | refine blk_drew ?_ | refine blk_alloc ?_ _)); refine blk_far ?_ NB863_911.out _; (with_reducible repeat (first | refine blk_drewN ?_ _ | refine blk_drew ?_ | refine blk_alloc ?_ _)); refine blk_far ?_ NB863_911.out _; (with_reducible repeat (first | refine blk_drewN ?_ _ | refine blk_drew ?_ | refine blk_alloc ?_ _)); exact BK863.out) hb); have n15_ := am (blk_below (g := gb887) (o := .cells #[.slice Ao22 t874.length co22, .slice Ao25 t877.length co25, .slice Ao26 t880.length co26, .slice Ao27 t883.length co27] 48 (0, 0)) (by (with_reducible repeat (first | refine blk_drewN ?_ _ | refine blk_drew ?_ | refine blk_alloc ?_ _)); refine blk_far ?_ NB887_911.out _; (with_reducible repeat (first | refine blk_drewN ?_ _ | refine blk_drew ?_ | refine blk_alloc ?_ _)); refine blk_far ?_ NB887_911.out _; (with_reducible repeat (first | refine blk_drewN ?_ _ | refine blk_drew ?_ | refine blk_alloc ?_ _)); refine blk_far ?_ NB887_911.out _; (with_reducible repeat (first | refine blk_drewN ?_ _ | refine blk_drew ?_ | refine blk_alloc ?_ _)); refine blk_far ?_ NB887_911.out _; (with_reducible repeat (first | refine blk_drewN ?_ _ | refine blk_drew ?_ | refine blk_alloc ?_ _)); exact BK887.out) hb); have n16_ := am (blk_below (g := gb897) (o := .cells #[.slice Ao31 t888.length co31, .slice Ao35 t891.length co35, .slice Ao36 t894.length co36] 25 (0, 0)) (by (with_reducible repeat (first | refine blk_drewN ?_ _ | refine blk_drew ?_ | refine blk_alloc ?_ _)); refine blk_far ?_ NB897_911.out _; (with_reducible repeat (first | refine blk_drewN ?_ _ | refine blk_drew ?_ | refine blk_alloc ?_ _)); refine blk_far ?_ NB897_911.out _; (with_reducible repeat (first | refine blk_drewN ?_ _ | refine blk_drew ?_ | refine blk_alloc ?_ _)); refine blk_far ?_ NB897_911.out _; (with_reducible repeat (first | refine blk_drewN ?_ _ | refine blk_drew ?_ | refine blk_alloc ?_ _)); refine blk_far ?_ NB897_911.out _; (with_reducible repeat (first | refine blk_drewN ?_ _ | refine blk_drew ?_ | refine blk_alloc ?_ _)); exact BK897.out) hb); have n17_ := am (blk_below (g := gb911) (o := .cells #[.slice Ao39 t898.length co39, .slice Ao44 t901.length co44, .slice Ao45 t904.length co45, .slice Ao46 t907.length co46] 48 (0, 0)) (by (with_reducible repeat (first | refine blk_drewN ?_ _ | refine blk_drew ?_ | refine blk_alloc ?_ _)); refine blk_put (cs := #[.slice Ao39 t898.length co39, .slice Ao44 t901.length co44, .slice Ao45 t904.length co45, .slice none 0 0]) ?_ 3 _ rfl; (with_reducible repeat (first | refine blk_drewN ?_ _ | refine blk_drew ?_ | refine blk_alloc ?_ _)); refine blk_put (cs := #[.slice Ao39 t898.length co39, .slice Ao44 t901.length co44, .slice none 0 0, .slice none 0 0]) ?_ 2 _ rfl; (with_reducible repeat (first | refine blk_drewN ?_ _ | refine blk_drew ?_ | refine blk_alloc ?_ _)); refine blk_put (cs := #[.slice Ao39 t898.length co39, .slice none 0 0, .slice none 0 0, .slice none 0 0]) ?_ 1 _ rfl; (with_reducible repeat (first | refine blk_drewN ?_ _ | refine blk_drew ?_ | refine blk_alloc ?_ _)); refine blk_put (cs := #[.slice none 0 0, .slice none 0 0, .slice none 0 0, .slice none 0 0]) ?_ 0 _ rfl; (with_reducible repeat (first | refine blk_drewN ?_ _ | refine blk_drew ?_ | refine blk_alloc ?_ _)); exact BK911.out) hb); have n18_ := am (below_step (by repeat (first | (with_reducible first | exact HB.out | apply below_alloc | apply pw_below_drewN | apply below_drew1 | refine below_set ?_ GE863.out | refine below_set ?_ GE887.out | refine below_set ?_ GE897.out | refine below_set ?_ GE911.out) | exact HB.out)) hb); clear HO867; clear HO870; clear HO873; clear HO876; clear HO879; clear HO882; clear HO885; clear HO890; clear HO893; clear HO896; clear HO900; clear HO903; clear HO906; clear HO909; clear BK863; clear BK887; clear BK897; clear BK911; clear HB; have HO867 := n0_; have HO870 := n1_; have HO873 := n2_; have HO876 := n3_; have HO879 := n4_; have HO882 := n5_; have HO885 := n6_; have HO890 := n7_; have HO893 := n8_; have HO896 := n9_; have HO900 := n10_; have HO903 := n11_; have HO906 := n12_; have HO909 := n13_; have BK863 := n14_; have BK887 := n15_; have BK897 := n16_; have BK911 := n17_; have HB := n18_; clear n0_ n1_ n2_ n3_ n4_ n5_ n6_ n7_ n8_ n9_ n10_ n11_ n12_ n13_ n14_ n15_ n16_ n17_ n18_; (try clear hb); (try clear hb2); (try clear hk); (try clear hi)))
        go_meet
        case rel => exact ⟨_, (true), (by first | rfl | (simp; done) | (simp [*]; done)), H', ⟨by first | omega | exact Nat.le_refl _⟩, ⟨rl (Kd.R_mono HO876.out (fun _ hk => by simp only [ne_eq] at hk ⊢; simp only [hk, not_false_eq_true, and_self]))⟩, ⟨rl (Kd.R_mono HO879.out (fun _ hk => by simp only [ne_eq] at hk ⊢; simp only [hk, not_false_eq_true, and_self]))⟩, ⟨rl (Kd.R_mono HO882.out (fun _ hk => by simp only [ne_eq] at hk ⊢; simp only [hk, not_false_eq_true, and_self]))⟩, ⟨rl (Kd.R_mono HO885.out (fun _ hk => by simp only [ne_eq] at hk ⊢; simp only [hk, not_false_eq_true, and_self]))⟩, ⟨rl (Kd.R_mono HO890.out (fun _ hk => by simp only [ne_eq] at hk ⊢; simp only [hk, not_false_eq_true, and_self]))⟩, ⟨rl (Kd.R_mono HO893.out (fun _ hk => by simp only [ne_eq] at hk ⊢; simp only [hk, not_false_eq_true, and_self]))⟩, ⟨rl (Kd.R_mono HO896.out (fun _ hk => by simp only [ne_eq] at hk ⊢; simp only [hk, not_false_eq_true, and_self]))⟩, ⟨rl (Kd.R_mono HO900.out (fun _ hk => by simp only [ne_eq] at hk ⊢; simp only [hk, not_false_eq_true, and_self]))⟩, ⟨rl (Kd.R_mono HO903.out (fun _ hk => by simp only [ne_eq] at hk ⊢; simp only [hk, not_false_eq_true, and_self]))⟩, ⟨rl (Kd.R_mono HO906.out (fun _ hk => by simp only [ne_eq] at hk ⊢; simp only [hk, not_false_eq_true, and_self]))⟩, ⟨rl (Kd.R_mono HO909.out (fun _ hk => by simp only [ne_eq] at hk ⊢; simp only [hk, not_false_eq_true, and_self]))⟩, ⟨kl BK863.out⟩, ⟨kl BK887.out⟩, ⟨kl BK897.out⟩, ⟨kl BK911.out⟩, ⟨by repeat (first | (with_reducible first | exact HB.out | apply below_alloc | apply pw_below_drewN | apply below_drew1 | refine below_set ?_ GE863.out | refine below_set ?_ GE887.out | refine below_set ?_ GE897.out | refine below_set ?_ GE911.out) | exact HB.out)⟩⟩
    case rest =>
      clear HC11
      try clear c2
      try clear p2
      try clear c3
      try clear c3b0
      try clear c4
      try clear c5
      try clear c6
      try clear c9
      try clear c23
      try clear c25
      try clear c27
      try clear c32
      try clear c33
      try clear c37
      try clear c38
      try clear c39
      try clear c40
      try clear c41
      try clear c42
      try clear c48
      try clear c49
      try clear c50
      try clear c51
      try clear c53
      try clear c54
      try clear c57
      try clear c58
      try clear c59
      try clear c61
      try clear c62
      try clear hcz13_0
      try clear hcz13_1
      try clear hcz13_2
      try clear hcz15_0
      try clear hcz15_1
      try clear hcz15_2
      try clear hcz24_0
      try clear hcz24_1
      try clear hcz24_2
      try clear hcz24_3
      try clear hcz28_0
      try clear hcz28_1
      try clear hcz28_2
      try clear hcz34_0
      try clear hcz34_1
      try clear hcz34_2
      try clear hcz43_0
      try clear hcz43_1
      try clear hcz43_2
      try clear hcz43_3
      try clear hcz52_0
      try clear hcz52_1
      try clear hcz52_2
      try clear hcz52_3
      try clear hcz55_0
      try clear hcz55_1
      try clear hcz55_2
      try clear hcz55_3
      try clear hcz5_0
      try clear hcz5_1
      try clear hcz5_2
      try clear hcz60_0
      try clear hcz60_1
      try clear hcz60_2
      try clear hcz60_3
      try clear hcz63_0
      try clear hcz63_1
      try clear hcz63_2
      try clear hcz63_3
      try clear hfz13_0
      try clear hfz13_1
      try clear hfz13_2
      try clear hfz15_0
      try clear hfz15_1
      try clear hfz15_2
      try clear hfz24_0
      try clear hfz24_1
      try clear hfz24_2
      try clear hfz24_3
      try clear hfz28_0
      try clear hfz28_1
      try clear hfz28_2
      try clear hfz34_0
      try clear hfz34_1
      try clear hfz34_2
      try clear hfz43_0
      try clear hfz43_1
      try clear hfz43_2
      try clear hfz43_3
      try clear hfz52_0
      try clear hfz52_1
      try clear hfz52_2
      try clear hfz52_3
      try clear hfz55_0
      try clear hfz55_1
      try clear hfz55_2
      try clear hfz55_3
      try clear hfz5_0
      try clear hfz5_1
      try clear hfz5_2
      try clear hfz60_0
      try clear hfz60_1
      try clear hfz60_2
      try clear hfz60_3
      try clear hfz63_0
      try clear hfz63_1
      try clear hfz63_2
      try clear hfz63_3
      obtain ⟨kq, x40_10, rfl, HA, HJ10, HO_888000, HO_888001, HO_888002, HO_888003, HO_898000, HO_898001, HO_898002, HO_912000, HO_912001, HO_912002, HO_912003, BK863, BK887, BK897, BK911, HB⟩ := hcut
      cases kq with
      | zero => exact absurd HA.out (by simp [laws_FnExactNewColored.j0])
      | succ kj10 =>
        have H := HA.out
        clear HA
        simp only [laws_FnExactNewColored.j0] at H
        by_cases c65 : x40_10 = true
        · subst c65
          have H1 : (none) = some r := by rw [if_pos rfl] at H; exact H
          clear H
          have H := H1
          clear H1
          exact absurd H (by simp)
        · replace c65 := Bool.eq_false_iff.mpr c65
          subst c65
          have H1 : ((laws_toHeap.f kj10 l0_0 l0_1 l0_2).bind fun bt913 => ((laws_eqHeap.f kj10 t888 t891 t894 bt913.1 bt913.2.1 bt913.2.2).bind fun t922 => (if t922 = true then ((laws_markHeap.f kj10 t888 t891 t894 1).bind fun bt923 => (if bt923.1 < 0 then (laws_FnExactNewColored.j1 kj10 t886 true l0_0 l0_1 l0_2 t874 t877 t880 t883 t898 t901 t904 t907) else ((laws_eqColored.f kj10 t898 t901 t904 t907 t874 t877 t880 t883).bind fun t927 => (if t927 = true then (laws_FnExactNewColored.j1 kj10 t886 (t910 != t886) l0_0 l0_1 l0_2 t874 t877 t880 t883 t898 t901 t904 t907) else (laws_FnExactNewColored.j1 kj10 t886 true l0_0 l0_1 l0_2 t874 t877 t880 t883 t898 t901 t904 t907))))) else (none)))) = some r := by rw [if_neg (show ¬ (false = true) by decide)] at H; exact H
          clear H
          have H := H1
          clear H1
          replace H := Option.bind_eq_some_iff.mp H
          obtain ⟨⟨t913, t916, t919⟩, A660, H⟩ := H
          replace H : ((laws_eqHeap.f kj10 t888 t891 t894 t913 t916 t919).bind fun t922 => (if t922 = true then ((laws_markHeap.f kj10 t888 t891 t894 1).bind fun bt923 => (if bt923.1 < 0 then (laws_FnExactNewColored.j1 kj10 t886 true l0_0 l0_1 l0_2 t874 t877 t880 t883 t898 t901 t904 t907) else ((laws_eqColored.f kj10 t898 t901 t904 t907 t874 t877 t880 t883).bind fun t927 => (if t927 = true then (laws_FnExactNewColored.j1 kj10 t886 (t910 != t886) l0_0 l0_1 l0_2 t874 t877 t880 t883 t898 t901 t904 t907) else (laws_FnExactNewColored.j1 kj10 t886 true l0_0 l0_1 l0_2 t874 t877 t880 t883 t898 t901 t904 t907))))) else (none))) = some r := H
          have A66 := am A660
          clear A660
          replace H := Option.bind_eq_some_iff.mp H
          obtain ⟨t922, A670, H⟩ := H
          replace H : (if t922 = true then ((laws_markHeap.f kj10 t888 t891 t894 1).bind fun bt923 => (if bt923.1 < 0 then (laws_FnExactNewColored.j1 kj10 t886 true l0_0 l0_1 l0_2 t874 t877 t880 t883 t898 t901 t904 t907) else ((laws_eqColored.f kj10 t898 t901 t904 t907 t874 t877 t880 t883).bind fun t927 => (if t927 = true then (laws_FnExactNewColored.j1 kj10 t886 (t910 != t886) l0_0 l0_1 l0_2 t874 t877 t880 t883 t898 t901 t904 t907) else (laws_FnExactNewColored.j1 kj10 t886 true l0_0 l0_1 l0_2 t874 t877 t880 t883 t898 t901 t904 t907))))) else (none)) = some r := H
          have A67 := am A670
          clear A670
          by_cases c68 : t922 = true
          · subst c68
            have H1 : ((laws_markHeap.f kj10 t888 t891 t894 1).bind fun bt923 => (if bt923.1 < 0 then (laws_FnExactNewColored.j1 kj10 t886 true l0_0 l0_1 l0_2 t874 t877 t880 t883 t898 t901 t904 t907) else ((laws_eqColored.f kj10 t898 t901 t904 t907 t874 t877 t880 t883).bind fun t927 => (if t927 = true then (laws_FnExactNewColored.j1 kj10 t886 (t910 != t886) l0_0 l0_1 l0_2 t874 t877 t880 t883 t898 t901 t904 t907) else (laws_FnExactNewColored.j1 kj10 t886 true l0_0 l0_1 l0_2 t874 t877 t880 t883 t898 t901 t904 t907))))) = some r := by rw [if_pos rfl] at H; exact H
            clear H
            have H := H1
            clear H1
            replace H := Option.bind_eq_some_iff.mp H
            obtain ⟨⟨t923, t924, t925, t926⟩, A690, H⟩ := H
            replace H : (if t923 < 0 then (laws_FnExactNewColored.j1 kj10 t886 true l0_0 l0_1 l0_2 t874 t877 t880 t883 t898 t901 t904 t907) else ((laws_eqColored.f kj10 t898 t901 t904 t907 t874 t877 t880 t883).bind fun t927 => (if t927 = true then (laws_FnExactNewColored.j1 kj10 t886 (t910 != t886) l0_0 l0_1 l0_2 t874 t877 t880 t883 t898 t901 t904 t907) else (laws_FnExactNewColored.j1 kj10 t886 true l0_0 l0_1 l0_2 t874 t877 t880 t883 t898 t901 t904 t907)))) = some r := H
            have A69 := am A690
            clear A690
            have HC70 := am H
            clear H
            try go_wp2
            have n0_ := am (Kd.R_drew HO_888000.out)
            have n1_ := am (Kd.R_drew HO_888001.out)
            have n2_ := am (Kd.R_drew HO_888002.out)
            have n3_ := am (Kd.R_drew HO_888003.out)
            have n4_ := am (Kd.R_drew HO_898000.out)
            have n5_ := am (Kd.R_drew HO_898001.out)
            have n6_ := am (Kd.R_drew HO_898002.out)
            have n7_ := am (Kd.R_drew HO_912000.out)
            have n8_ := am (Kd.R_drew HO_912001.out)
            have n9_ := am (Kd.R_drew HO_912002.out)
            have n10_ := am (Kd.R_drew HO_912003.out)
            have n11_ := am (blk_drew BK863.out)
            have n12_ := am (blk_drew BK887.out)
            have n13_ := am (blk_drew BK897.out)
            have n14_ := am (blk_drew BK911.out)
            have n15_ := am (below_drew1 HB.out)
            clear HO_888000
            clear HO_888001
            clear HO_888002
            clear HO_888003
            clear HO_898000
            clear HO_898001
            clear HO_898002
            clear HO_912000
            clear HO_912001
            clear HO_912002
            clear HO_912003
            clear BK863
            clear BK887
            clear BK897
            clear BK911
            clear HB
            have HO_888000 := n0_
            have HO_888001 := n1_
            have HO_888002 := n2_
            have HO_888003 := n3_
            have HO_898000 := n4_
            have HO_898001 := n5_
            have HO_898002 := n6_
            have HO_912000 := n7_
            have HO_912001 := n8_
            have HO_912002 := n9_
            have HO_912003 := n10_
            have BK863 := n11_
            have BK887 := n12_
            have BK897 := n13_
            have BK911 := n14_
            have HB := n15_
            clear n0_ n1_ n2_ n3_ n4_ n5_ n6_ n7_ n8_ n9_ n10_ n11_ n12_ n13_ n14_ n15_
            refine start_ (n := 5) (S := fun w' => w'.cell? ⟨gb897, 0, none⟩ = some (.slice Ao31 t888.length co31) ∧ w'.cell? ⟨gb897, 1, none⟩ = some (.slice Ao35 t891.length co35) ∧ w'.cell? ⟨gb897, 2, none⟩ = some (.slice Ao36 t894.length co36) ∧ w'.cell? ⟨gb863, 0, none⟩ = some (.slice A0_0 l0_0.length c0_0) ∧ w'.cell? ⟨gb863, 1, none⟩ = some (.slice A0_1 l0_1.length c0_1) ∧ w'.cell? ⟨gb863, 2, none⟩ = some (.slice A0_2 l0_2.length c0_2)) (ds := []) #[false, false, false, false, false] (by kernel_rfl) rfl rfl ⟨(blk_cell BK897.out 0).trans rfl, (blk_cell BK897.out 1).trans rfl, (blk_cell BK897.out 2).trans rfl, (blk_cell BK863.out 0).trans rfl, (blk_cell BK863.out 1).trans rfl, (blk_cell BK863.out 2).trans rfl⟩ (fun hHeld => ?_)
            generalize wc.drew = w71 at HO_888000 HO_888001 HO_888002 HO_888003 HO_898000 HO_898001 HO_898002 HO_912000 HO_912001 HO_912002 HO_912003 BK863 BK887 BK897 BK911 HB hHeld ⊢
            refine take_ (i := 0) (N := some 41) (v := ?_) (a' := ?_) #[true, false, false, false, false] rfl rfl (by kernel_rfl) (fun _ _ _ h => h) (Or.inl ⟨by rfl, ?_⟩) hHeld ?_ ?_
            rotate_left
            · rintro w' ⟨s0, s1, s2, s3, s4, s5⟩
              go_simp
              with_reducible rfl
            rotate_left
            · simp only [Act.put, List.setIfInBounds_toArray, List.set_cons_zero, List.set_cons_succ, i64_w, i32_w]
              rfl
            refine take_ (i := 1) (N := some 42) (v := ?_) (a' := ?_) #[true, true, false, false, false] rfl rfl (by kernel_rfl) (fun _ _ _ h => h) (Or.inl ⟨by rfl, ?_⟩) hHeld ?_ ?_
            rotate_left
            · rintro w' ⟨s0, s1, s2, s3, s4, s5⟩
              go_simp
              with_reducible rfl
            rotate_left
            · simp only [Act.put, List.setIfInBounds_toArray, List.set_cons_zero, List.set_cons_succ, i64_w, i32_w]
              rfl
            refine one_ (i := 2) (N := some 43) #[true, true, true, false, false] rfl rfl (by kernel_rfl) (by decide) (fun K hK => ?_)
            refine goes_ Try.func27 (by kernel_rfl) rfl #[.agg #[.slice A0_0 l0_0.length c0_0, .slice A0_1 l0_1.length c0_1, .slice A0_2 l0_2.length c0_2]] (by rfl) rfl rfl (by (try simp only [List.map_toArray, List.map_cons, List.map_nil]); first | done | rfl | (simp only [List.length_drop, List.length_take]; rfl)) ?_
            with_reducible refine (laws_toHeap.calls kj10 _ _ l0_0 _ _ l0_1 _ _ l0_2 t913 t916 t919 _ ?side1 ?side2 ?side3 ?side4 ?side5 ?side6 A66.out).mono ?_
            (case side1 => exact cl (Kd.C_below HR0_0.out HB.out))
            (case side2 => exact HC0_0.out)
            (case side3 => exact cl (Kd.C_below HR0_1.out HB.out))
            (case side4 => exact HC0_1.out)
            (case side5 => exact cl (Kd.C_below HR0_2.out HB.out))
            (case side6 => exact HC0_2.out)
            rintro e w72 ⟨v914, v917, v920, rfl, ho0, ho1, ho2, hb⟩
            refine ⟨_, rfl, ?_⟩
            have n0_ := am (Kd.R_mono (Kd.R_told (Kd.R_told (Kd.R_told (Kd.R_old (rl HO_888000.out) hb) (Kd.R_base ho0)) (Kd.R_base ho1)) (Kd.R_base ho2)) (fun _ h_ => h_.1))
            have n1_ := am (Kd.R_mono (Kd.R_told (Kd.R_told (Kd.R_told (Kd.R_old (rl HO_888001.out) hb) (Kd.R_base ho0)) (Kd.R_base ho1)) (Kd.R_base ho2)) (fun _ h_ => h_.1))
            have n2_ := am (Kd.R_mono (Kd.R_told (Kd.R_told (Kd.R_told (Kd.R_old (rl HO_888002.out) hb) (Kd.R_base ho0)) (Kd.R_base ho1)) (Kd.R_base ho2)) (fun _ h_ => h_.1))
            have n3_ := am (Kd.R_mono (Kd.R_told (Kd.R_told (Kd.R_told (Kd.R_old (rl HO_888003.out) hb) (Kd.R_base ho0)) (Kd.R_base ho1)) (Kd.R_base ho2)) (fun _ h_ => h_.1))
            have n4_ := am (Kd.R_mono (Kd.R_told (Kd.R_told (Kd.R_told (Kd.R_old (rl HO_898000.out) hb) (Kd.R_base ho0)) (Kd.R_base ho1)) (Kd.R_base ho2)) (fun _ h_ => h_.1))
            have n5_ := am (Kd.R_mono (Kd.R_told (Kd.R_told (Kd.R_told (Kd.R_old (rl HO_898001.out) hb) (Kd.R_base ho0)) (Kd.R_base ho1)) (Kd.R_base ho2)) (fun _ h_ => h_.1))
            have n6_ := am (Kd.R_mono (Kd.R_told (Kd.R_told (Kd.R_told (Kd.R_old (rl HO_898002.out) hb) (Kd.R_base ho0)) (Kd.R_base ho1)) (Kd.R_base ho2)) (fun _ h_ => h_.1))
            have n7_ := am (Kd.R_mono (Kd.R_told (Kd.R_told (Kd.R_told (Kd.R_old (rl HO_912000.out) hb) (Kd.R_base ho0)) (Kd.R_base ho1)) (Kd.R_base ho2)) (fun _ h_ => h_.1))
            have n8_ := am (Kd.R_mono (Kd.R_told (Kd.R_told (Kd.R_told (Kd.R_old (rl HO_912001.out) hb) (Kd.R_base ho0)) (Kd.R_base ho1)) (Kd.R_base ho2)) (fun _ h_ => h_.1))
            have n9_ := am (Kd.R_mono (Kd.R_told (Kd.R_told (Kd.R_told (Kd.R_old (rl HO_912002.out) hb) (Kd.R_base ho0)) (Kd.R_base ho1)) (Kd.R_base ho2)) (fun _ h_ => h_.1))
            have n10_ := am (Kd.R_mono (Kd.R_told (Kd.R_told (Kd.R_told (Kd.R_old (rl HO_912003.out) hb) (Kd.R_base ho0)) (Kd.R_base ho1)) (Kd.R_base ho2)) (fun _ h_ => h_.1))
            have n11_ := am (Kd.R_lower (Kd.R_new' (Kd.R_new' (Kd.R_new' (Kd.R_new' (Kd.R_new' (Kd.R_new' (Kd.R_new' (Kd.R_new' (Kd.R_new' (Kd.R_new' (Kd.R_new' ho0 (Kd.R_lt (rl HO_888000.out))) (Kd.R_lt (rl HO_888001.out))) (Kd.R_lt (rl HO_888002.out))) (Kd.R_lt (rl HO_888003.out))) (Kd.R_lt (rl HO_898000.out))) (Kd.R_lt (rl HO_898001.out))) (Kd.R_lt (rl HO_898002.out))) (Kd.R_lt (rl HO_912000.out))) (Kd.R_lt (rl HO_912001.out))) (Kd.R_lt (rl HO_912002.out))) (Kd.R_lt (rl HO_912003.out))) (below_size (by repeat (first | (with_reducible first | exact HB.out | apply below_alloc | apply pw_below_drewN | apply below_drew1 | refine below_set ?_ GE863.out | refine below_set ?_ GE887.out | refine below_set ?_ GE897.out | refine below_set ?_ GE911.out) | exact HB.out))))
            have n12_ := am (Kd.R_lower (Kd.R_new' (Kd.R_new' (Kd.R_new' (Kd.R_new' (Kd.R_new' (Kd.R_new' (Kd.R_new' (Kd.R_new' (Kd.R_new' (Kd.R_new' (Kd.R_new' ho1 (Kd.R_lt (rl HO_888000.out))) (Kd.R_lt (rl HO_888001.out))) (Kd.R_lt (rl HO_888002.out))) (Kd.R_lt (rl HO_888003.out))) (Kd.R_lt (rl HO_898000.out))) (Kd.R_lt (rl HO_898001.out))) (Kd.R_lt (rl HO_898002.out))) (Kd.R_lt (rl HO_912000.out))) (Kd.R_lt (rl HO_912001.out))) (Kd.R_lt (rl HO_912002.out))) (Kd.R_lt (rl HO_912003.out))) (below_size (by repeat (first | (with_reducible first | exact HB.out | apply below_alloc | apply pw_below_drewN | apply below_drew1 | refine below_set ?_ GE863.out | refine below_set ?_ GE887.out | refine below_set ?_ GE897.out | refine below_set ?_ GE911.out) | exact HB.out))))
            have n13_ := am (Kd.R_lower (Kd.R_new' (Kd.R_new' (Kd.R_new' (Kd.R_new' (Kd.R_new' (Kd.R_new' (Kd.R_new' (Kd.R_new' (Kd.R_new' (Kd.R_new' (Kd.R_new' ho2 (Kd.R_lt (rl HO_888000.out))) (Kd.R_lt (rl HO_888001.out))) (Kd.R_lt (rl HO_888002.out))) (Kd.R_lt (rl HO_888003.out))) (Kd.R_lt (rl HO_898000.out))) (Kd.R_lt (rl HO_898001.out))) (Kd.R_lt (rl HO_898002.out))) (Kd.R_lt (rl HO_912000.out))) (Kd.R_lt (rl HO_912001.out))) (Kd.R_lt (rl HO_912002.out))) (Kd.R_lt (rl HO_912003.out))) (below_size (by repeat (first | (with_reducible first | exact HB.out | apply below_alloc | apply pw_below_drewN | apply below_drew1 | refine below_set ?_ GE863.out | refine below_set ?_ GE887.out | refine below_set ?_ GE897.out | refine below_set ?_ GE911.out) | exact HB.out))))
            have n14_ := am (blk_below (g := gb863) (o := .cells #[.slice A0_0 l0_0.length c0_0, .slice A0_1 l0_1.length c0_1, .slice A0_2 l0_2.length c0_2] 38 (0, 0)) (kl BK863.out) hb)
            have n15_ := am (blk_below (g := gb887) (o := .cells #[.slice Ao22 t874.length co22, .slice Ao25 t877.length co25, .slice Ao26 t880.length co26, .slice Ao27 t883.length co27] 48 (0, 0)) (kl BK887.out) hb)
            have n16_ := am (blk_below (g := gb897) (o := .cells #[.slice Ao31 t888.length co31, .slice Ao35 t891.length co35, .slice Ao36 t894.length co36] 25 (0, 0)) (kl BK897.out) hb)
            have n17_ := am (blk_below (g := gb911) (o := .cells #[.slice Ao39 t898.length co39, .slice Ao44 t901.length co44, .slice Ao45 t904.length co45, .slice Ao46 t907.length co46] 48 (0, 0)) (kl BK911.out) hb)
            have n18_ := am (below_step (by repeat (first | (with_reducible first | exact HB.out | apply below_alloc | apply pw_below_drewN | apply below_drew1 | refine below_set ?_ GE863.out | refine below_set ?_ GE887.out | refine below_set ?_ GE897.out | refine below_set ?_ GE911.out) | exact HB.out)) hb)
            clear HO_888000
            clear HO_888001
            clear HO_888002
            clear HO_888003
            clear HO_898000
            clear HO_898001
            clear HO_898002
            clear HO_912000
            clear HO_912001
            clear HO_912002
            clear HO_912003
            clear BK863
            clear BK887
            clear BK897
            clear BK911
            clear HB
            have HO_888000 := n0_
            have HO_888001 := n1_
            have HO_888002 := n2_
            have HO_888003 := n3_
            have HO_898000 := n4_
            have HO_898001 := n5_
            have HO_898002 := n6_
            have HO_912000 := n7_
            have HO_912001 := n8_
            have HO_912002 := n9_
            have HO_912003 := n10_
            have HO915 := n11_
            have HO918 := n12_
            have HO921 := n13_
            have BK863 := n14_
            have BK887 := n15_
            have BK897 := n16_
            have BK911 := n17_
            have HB := n18_
            clear n0_ n1_ n2_ n3_ n4_ n5_ n6_ n7_ n8_ n9_ n10_ n11_ n12_ n13_ n14_ n15_ n16_ n17_ n18_
            (try clear hb)
            (try clear hb2)
            (try clear hk)
            (try clear hi)
            (try clear ho0)
            (try clear ho1)
            (try clear ho2)
            obtain ⟨Ao73, co73, eo73⟩ := Kd.R_slice HO915.out
            (first | subst eo73 | (injection eo73 with f1_ f2_ f3_; have f4_ := f1_.symm; have f5_ := f3_.symm; clear f1_ f2_ f3_; subst f4_; subst f5_))
            obtain ⟨Ao74, co74, eo74⟩ := Kd.R_slice HO918.out
            (first | subst eo74 | (injection eo74 with f1_ f2_ f3_; have f4_ := f1_.symm; have f5_ := f3_.symm; clear f1_ f2_ f3_; subst f4_; subst f5_))
            obtain ⟨Ao75, co75, eo75⟩ := Kd.R_slice HO921.out
            (first | subst eo75 | (injection eo75 with f1_ f2_ f3_; have f4_ := f1_.symm; have f5_ := f3_.symm; clear f1_ f2_ f3_; subst f4_; subst f5_))
            refine hK.out _ _ ⟨(blk_cell BK897.out 0).trans rfl, (blk_cell BK897.out 1).trans rfl, (blk_cell BK897.out 2).trans rfl, (blk_cell BK863.out 0).trans rfl, (blk_cell BK863.out 1).trans rfl, (blk_cell BK863.out 2).trans rfl⟩ (fun hHeld => ?_)
            clear hK K
            refine norm_ (a' := ?_) ?_ ?_
            rotate_left
            · show Act.put _ (some 43) _ = _
              simp only [Act.put, List.setIfInBounds_toArray, List.set_cons_zero, List.set_cons_succ, i64_w, i32_w]
              rfl
            refine one_ (i := 3) (N := some 44) #[true, true, true, true, false] rfl rfl (by kernel_rfl) (by decide) (fun K hK => ?_)
            refine goes_ Try.func29 (by kernel_rfl) rfl #[.agg #[.slice Ao31 t888.length co31, .slice Ao35 t891.length co35, .slice Ao36 t894.length co36], .agg #[.slice Ao73 t913.length co73, .slice Ao74 t916.length co74, .slice Ao75 t919.length co75]] (by rfl) rfl rfl (by (try simp only [List.map_toArray, List.map_cons, List.map_nil]); first | done | rfl | (simp only [List.length_drop, List.length_take]; rfl)) ?_
            with_reducible refine (laws_eqHeap.calls kj10 _ _ t888 _ _ t891 _ _ t894 _ _ t913 _ _ t916 _ _ t919 true _ ?side1 ?side2 ?side3 ?side4 ?side5 ?side6 ?side7 ?side8 ?side9 ?side10 ?side11 ?side12 A67.out).mono ?_
            (case side1 => repeat (first | exact (Kd.R_reads' HO_898000.out).2.2 | (with_reducible refine Kd.C_alloc ?_ _) | (with_reducible refine Kd.C_drewN ?_ _) | (with_reducible refine Kd.C_drew ?_)))
            (case side2 => exact (Kd.R_reads' HO_898000.out).2.1)
            (case side3 => repeat (first | exact (Kd.R_reads' HO_898001.out).2.2 | (with_reducible refine Kd.C_alloc ?_ _) | (with_reducible refine Kd.C_drewN ?_ _) | (with_reducible refine Kd.C_drew ?_)))
            (case side4 => exact (Kd.R_reads' HO_898001.out).2.1)
            (case side5 => repeat (first | exact (Kd.R_reads' HO_898002.out).2.2 | (with_reducible refine Kd.C_alloc ?_ _) | (with_reducible refine Kd.C_drewN ?_ _) | (with_reducible refine Kd.C_drew ?_)))
            (case side6 => exact (Kd.R_reads' HO_898002.out).2.1)
            (case side7 => repeat (first | exact (Kd.R_reads' HO915.out).2.2 | (with_reducible refine Kd.C_alloc ?_ _) | (with_reducible refine Kd.C_drewN ?_ _) | (with_reducible refine Kd.C_drew ?_)))
            (case side8 => exact (Kd.R_reads' HO915.out).2.1)
            (case side9 => repeat (first | exact (Kd.R_reads' HO918.out).2.2 | (with_reducible refine Kd.C_alloc ?_ _) | (with_reducible refine Kd.C_drewN ?_ _) | (with_reducible refine Kd.C_drew ?_)))
            (case side10 => exact (Kd.R_reads' HO918.out).2.1)
            (case side11 => repeat (first | exact (Kd.R_reads' HO921.out).2.2 | (with_reducible refine Kd.C_alloc ?_ _) | (with_reducible refine Kd.C_drewN ?_ _) | (with_reducible refine Kd.C_drew ?_)))
            (case side12 => exact (Kd.R_reads' HO921.out).2.1)
            rintro e w76 ⟨rfl, hb⟩
            refine ⟨_, rfl, ?_⟩
            have n0_ := am (Kd.R_below (rl HO_888000.out) hb)
            have n1_ := am (Kd.R_below (rl HO_888001.out) hb)
            have n2_ := am (Kd.R_below (rl HO_888002.out) hb)
            have n3_ := am (Kd.R_below (rl HO_888003.out) hb)
            have n4_ := am (Kd.R_below (rl HO_898000.out) hb)
            have n5_ := am (Kd.R_below (rl HO_898001.out) hb)
            have n6_ := am (Kd.R_below (rl HO_898002.out) hb)
            have n7_ := am (Kd.R_below (rl HO_912000.out) hb)
            have n8_ := am (Kd.R_below (rl HO_912001.out) hb)
            have n9_ := am (Kd.R_below (rl HO_912002.out) hb)
            have n10_ := am (Kd.R_below (rl HO_912003.out) hb)
            have n11_ := am (Kd.R_below (rl HO915.out) hb)
            have n12_ := am (Kd.R_below (rl HO918.out) hb)
            have n13_ := am (Kd.R_below (rl HO921.out) hb)
            have n14_ := am (blk_below (g := gb863) (o := .cells #[.slice A0_0 l0_0.length c0_0, .slice A0_1 l0_1.length c0_1, .slice A0_2 l0_2.length c0_2] 38 (0, 0)) (kl BK863.out) hb)
            have n15_ := am (blk_below (g := gb887) (o := .cells #[.slice Ao22 t874.length co22, .slice Ao25 t877.length co25, .slice Ao26 t880.length co26, .slice Ao27 t883.length co27] 48 (0, 0)) (kl BK887.out) hb)
            have n16_ := am (blk_below (g := gb897) (o := .cells #[.slice Ao31 t888.length co31, .slice Ao35 t891.length co35, .slice Ao36 t894.length co36] 25 (0, 0)) (kl BK897.out) hb)
            have n17_ := am (blk_below (g := gb911) (o := .cells #[.slice Ao39 t898.length co39, .slice Ao44 t901.length co44, .slice Ao45 t904.length co45, .slice Ao46 t907.length co46] 48 (0, 0)) (kl BK911.out) hb)
            have n18_ := am (below_step (by repeat (first | (with_reducible first | exact HB.out | apply below_alloc | apply pw_below_drewN | apply below_drew1 | refine below_set ?_ GE863.out | refine below_set ?_ GE887.out | refine below_set ?_ GE897.out | refine below_set ?_ GE911.out) | exact HB.out)) hb)
            clear HO_888000
            clear HO_888001
            clear HO_888002
            clear HO_888003
            clear HO_898000
            clear HO_898001
            clear HO_898002
            clear HO_912000
            clear HO_912001
            clear HO_912002
            clear HO_912003
            clear HO915
            clear HO918
            clear HO921
            clear BK863
            clear BK887
            clear BK897
            clear BK911
            clear HB
            have HO_888000 := n0_
            have HO_888001 := n1_
            have HO_888002 := n2_
            have HO_888003 := n3_
            have HO_898000 := n4_
            have HO_898001 := n5_
            have HO_898002 := n6_
            have HO_912000 := n7_
            have HO_912001 := n8_
            have HO_912002 := n9_
            have HO_912003 := n10_
            have HO915 := n11_
            have HO918 := n12_
            have HO921 := n13_
            have BK863 := n14_
            have BK887 := n15_
            have BK897 := n16_
            have BK911 := n17_
            have HB := n18_
            clear n0_ n1_ n2_ n3_ n4_ n5_ n6_ n7_ n8_ n9_ n10_ n11_ n12_ n13_ n14_ n15_ n16_ n17_ n18_
            (try clear hb)
            (try clear hb2)
            (try clear hk)
            (try clear hi)
            refine hK.out _ _ ⟨(blk_cell BK897.out 0).trans rfl, (blk_cell BK897.out 1).trans rfl, (blk_cell BK897.out 2).trans rfl, (blk_cell BK863.out 0).trans rfl, (blk_cell BK863.out 1).trans rfl, (blk_cell BK863.out 2).trans rfl⟩ (fun hHeld => ?_)
            clear hK K
            refine norm_ (a' := ?_) ?_ ?_
            rotate_left
            · show Act.put _ (some 44) _ = _
              simp only [Act.put, List.setIfInBounds_toArray, List.set_cons_zero, List.set_cons_succ, i64_w, i32_w]
              rfl
            refine pure_ (i := 4) (N := some 45) (v := ?_) (a' := ?_) #[true, true, true, true, true] rfl rfl (by kernel_rfl) (fun _ _ _ h => h) (Or.inl ⟨by rfl, ?_⟩) ?_ ?_
            rotate_left
            · intro w'
              go_simp
              with_reducible rfl
            rotate_left
            · simp only [Act.put, List.setIfInBounds_toArray, List.set_cons_zero, List.set_cons_succ, i64_w, i32_w]
              rfl
            refine done_ (by kernel_rfl) ?_
            have hnb77 := NB897_863.out
            have hnc77 := NB863_897.out
            have hnb78 := NB897_887.out
            have hnc78 := NB887_897.out
            have hnb79 := NB897_911.out
            have hnc79 := NB911_897.out
            have hcz80_0 : w76.cell? ⟨gb897, 0, none⟩ = some (.slice Ao31 t888.length co31) := (blk_cell BK897.out 0).trans rfl
            have hcz80_1 : w76.cell? ⟨gb897, 1, none⟩ = some (.slice Ao35 t891.length co35) := (blk_cell BK897.out 1).trans rfl
            have hcz80_2 : w76.cell? ⟨gb897, 2, none⟩ = some (.slice Ao36 t894.length co36) := (blk_cell BK897.out 2).trans rfl
            have hfz80_0 := blk_frozen BK897.out 0
            have hfz80_1 := blk_frozen BK897.out 1
            have hfz80_2 := blk_frozen BK897.out 2
            go_upto_region 14 with (first | ((with_reducible refine gate_callee (f := 40) rfl ?_); refine goesL_ (some 48) rfl rfl Try.func40 (by kernel_rfl) rfl #[.agg #[.slice Ao31 t888.length co31, .slice Ao35 t891.length co35, .slice Ao36 t894.length co36], .int .i64 1] rfl (by (try simp only [List.map_toArray, List.map_cons, List.map_nil]); first | done | rfl | (simp only [List.length_drop, List.length_take]; rfl)) ?_; (with_reducible refine (laws_markHeap.calls kj10 (fun k_ => some k_ = (.slice Ao31 t888.length co31 : Value).ownBlock) (.slice Ao31 t888.length co31) t888 (fun k_ => some k_ = (.slice Ao35 t891.length co35 : Value).ownBlock) (.slice Ao35 t891.length co35) t891 (fun k_ => some k_ = (.slice Ao36 t894.length co36 : Value).ownBlock) (.slice Ao36 t894.length co36) t894 1 t923 t924 t925 t926 w _ ?side1 ?side2 ?side3 ?side4 ?side5 ?side6 ?side7 ?side8 ?side9 ?side10 A69.out).mono ?_); (case side1 => repeat (first | (with_reducible first | exact HB.out | apply below_alloc | apply pw_below_drewN | apply below_drew1 | refine below_set ?_ GE863.out | refine below_set ?_ GE887.out | refine below_set ?_ GE897.out | refine below_set ?_ GE911.out) | exact HB.out)); (case side2 => exact Kd.R_tight rfl HO_898000.out); (case side3 => exact fun k_ e_ => by have z_ := HO_898000.out.1 k_ e_.symm; simp only [ne_eq] at z_; simp only [z_, not_false_eq_true]); (case side4 => exact fun k_ e_ => by have z_ := HO_898000.out.1 k_ e_.symm; simp only [ne_eq] at z_; simp only [z_, not_false_eq_true]); (case side5 => exact Kd.R_tight rfl HO_898001.out); (case side6 => exact fun k_ e_ => by have z_ := HO_898001.out.1 k_ e_.symm; simp only [ne_eq] at z_; simp only [z_, not_false_eq_true]); (case side7 => exact fun k_ e_ => by have z_ := HO_898001.out.1 k_ e_.symm; simp only [ne_eq] at z_; simp only [z_, not_false_eq_true]); (case side8 => exact Kd.R_tight rfl HO_898002.out); (case side9 => exact fun k_ e_ => by have z_ := HO_898002.out.1 k_ e_.symm; simp only [ne_eq] at z_; simp only [z_, not_false_eq_true]); (case side10 => exact fun k_ e_ => by have z_ := HO_898002.out.1 k_ e_.symm; simp only [ne_eq] at z_; simp only [z_, not_false_eq_true]); rintro e w81 ⟨rfl, hy0, hy1, hy2, hb, hkp⟩; refine ⟨_, rfl, ?_⟩; have n0_ := am (Kd.R_kept (HO_888000.out) hkp (fun k_ hk_ hs_ => by simp only [ne_eq] at hk_; simp only [hk_, or_self] at hs_)); have n1_ := am (Kd.R_kept (HO_888001.out) hkp (fun k_ hk_ hs_ => by simp only [ne_eq] at hk_; simp only [hk_, or_self] at hs_)); have n2_ := am (Kd.R_kept (HO_888002.out) hkp (fun k_ hk_ hs_ => by simp only [ne_eq] at hk_; simp only [hk_, or_self] at hs_)); have n3_ := am (Kd.R_kept (HO_888003.out) hkp (fun k_ hk_ hs_ => by simp only [ne_eq] at hk_; simp only [hk_, or_self] at hs_)); have n4_ := am (Kd.R_reok rfl hy0 (fun k_ e_ => HO_898000.out.1 k_ e_)); have n5_ := am (Kd.R_reok rfl hy1 (fun k_ e_ => HO_898001.out.1 k_ e_)); have n6_ := am (Kd.R_reok rfl hy2 (fun k_ e_ => HO_898002.out.1 k_ e_)); have n7_ := am (Kd.R_kept (HO_912000.out) hkp (fun k_ hk_ hs_ => by simp only [ne_eq] at hk_; simp only [hk_, or_self] at hs_)); have n8_ := am (Kd.R_kept (HO_912001.out) hkp (fun k_ hk_ hs_ => by simp only [ne_eq] at hk_; simp only [hk_, or_self] at hs_)); have n9_ := am (Kd.R_kept (HO_912002.out) hkp (fun k_ hk_ hs_ => by simp only [ne_eq] at hk_; simp only [hk_, or_self] at hs_)); have n10_ := am (Kd.R_kept (HO_912003.out) hkp (fun k_ hk_ hs_ => by simp only [ne_eq] at hk_; simp only [hk_, or_self] at hs_)); have n11_ := am (blk_kept (kl BK863.out) hkp (fun hs_ => Or.elim hs_ (fun e_ => (fun e_ => (Kd.R_ne HO_898000.out BK863.out (by decide)) e_) e_) (fun e_ => Or.elim e_ (fun e_ => (fun e_ => (Kd.R_ne HO_898001.out BK863.out (by decide)) e_) e_) (fun e_ => (fun e_ => (Kd.R_ne HO_898002.out BK863.out (by decide)) e_) e_)))); have n12_ := am (blk_kept (kl BK887.out) hkp (fun hs_ => Or.elim hs_ (fun e_ => (fun e_ => (Kd.R_ne HO_898000.out BK887.out (by decide)) e_) e_) (fun e_ => Or.elim e_ (fun e_ => (fun e_ => (Kd.R_ne HO_898001.out BK887.out (by decide)) e_) e_) (fun e_ => (fun e_ => (Kd.R_ne HO_898002.out BK887.out (by decide)) e_) e_)))); have n13_ := am (blk_kept (kl BK897.out) hkp (fun hs_ => Or.elim hs_ (fun e_ => (fun e_ => (Kd.R_ne HO_898000.out BK897.out (by decide)) e_) e_) (fun e_ => Or.elim e_ (fun e_ => (fun e_ => (Kd.R_ne HO_898001.out BK897.out (by decide)) e_) e_) (fun e_ => (fun e_ => (Kd.R_ne HO_898002.out BK897.out (by decide)) e_) e_)))); have n14_ := am (blk_kept (kl BK911.out) hkp (fun hs_ => Or.elim hs_ (fun e_ => (fun e_ => (Kd.R_ne HO_898000.out BK911.out (by decide)) e_) e_) (fun e_ => Or.elim e_ (fun e_ => (fun e_ => (Kd.R_ne HO_898001.out BK911.out (by decide)) e_) e_) (fun e_ => (fun e_ => (Kd.R_ne HO_898002.out BK911.out (by decide)) e_) e_)))); have n15_ := am (Kd.R_kept (HO915.out) hkp (fun k_ hk_ hs_ => by simp only [ne_eq] at hk_; simp only [hk_, or_self] at hs_)); have n16_ := am (Kd.R_kept (HO918.out) hkp (fun k_ hk_ hs_ => by simp only [ne_eq] at hk_; simp only [hk_, or_self] at hs_)); have n17_ := am (Kd.R_kept (HO921.out) hkp (fun k_ hk_ hs_ => by simp only [ne_eq] at hk_; simp only [hk_, or_self] at hs_)); have n18_ := am (hb); clear HO_888000; clear HO_888001; clear HO_888002; clear HO_888003; clear HO_898000; clear HO_898001; clear HO_898002; clear HO_912000; clear HO_912001; clear HO_912002; clear HO_912003; clear BK863; clear BK887; clear BK897; clear BK911; clear HO915; clear HO918; clear HO921; clear HB; have HO_888000 := n0_; have HO_888001 := n1_; have HO_888002 := n2_; have HO_888003 := n3_; have HO_898000 := n4_; have HO_898001 := n5_; have HO_898002 := n6_; have HO_912000 := n7_; have HO_912001 := n8_; have HO_912002 := n9_; have HO_912003 := n10_; have BK863 := n11_; have BK887 := n12_; have BK897 := n13_; have BK911 := n14_; have HO915 := n15_; have HO918 := n16_; have HO921 := n17_; have HB := n18_; clear n0_ n1_ n2_ n3_ n4_ n5_ n6_ n7_ n8_ n9_ n10_ n11_ n12_ n13_ n14_ n15_ n16_ n17_ n18_; (try clear hb); (try clear hkp); (try clear hy0); (try clear hy1); (try clear hy2)))
            (try simp only [Act.put, List.setIfInBounds_toArray, List.set_cons_zero, List.set_cons_succ])
            go_cut [61] (fun v61 wc => ∃ (kq : Nat) (x61_69 : Bool), v61 = .bool x61_69 ∧ Aside0 (laws_FnExactNewColored.j1 kq t886 x61_69 l0_0 l0_1 l0_2 t874 t877 t880 t883 t898 t901 t904 t907 = some r) ∧ Aside0 (kq ≤ kj10) ∧ Aside0 (Kd.R (Kd.int .i64) 3 wc w.heap.size (fun k_ => some k_ ≠ ((.slice Ao25 t877.length co25) : Value).ownBlock ∧ some k_ ≠ ((.slice Ao26 t880.length co26) : Value).ownBlock ∧ some k_ ≠ ((.slice Ao27 t883.length co27) : Value).ownBlock ∧ some k_ ≠ ((.slice Ao39 t898.length co39) : Value).ownBlock ∧ some k_ ≠ ((.slice Ao44 t901.length co44) : Value).ownBlock ∧ some k_ ≠ ((.slice Ao45 t904.length co45) : Value).ownBlock ∧ some k_ ≠ ((.slice Ao46 t907.length co46) : Value).ownBlock) (.slice Ao22 t874.length co22) t874) ∧ Aside0 (Kd.R (Kd.int .i64) 3 wc w.heap.size (fun k_ => some k_ ≠ ((.slice Ao22 t874.length co22) : Value).ownBlock ∧ some k_ ≠ ((.slice Ao26 t880.length co26) : Value).ownBlock ∧ some k_ ≠ ((.slice Ao27 t883.length co27) : Value).ownBlock ∧ some k_ ≠ ((.slice Ao39 t898.length co39) : Value).ownBlock ∧ some k_ ≠ ((.slice Ao44 t901.length co44) : Value).ownBlock ∧ some k_ ≠ ((.slice Ao45 t904.length co45) : Value).ownBlock ∧ some k_ ≠ ((.slice Ao46 t907.length co46) : Value).ownBlock) (.slice Ao25 t877.length co25) t877) ∧ Aside0 (Kd.R (Kd.int .i64) 3 wc w.heap.size (fun k_ => some k_ ≠ ((.slice Ao22 t874.length co22) : Value).ownBlock ∧ some k_ ≠ ((.slice Ao25 t877.length co25) : Value).ownBlock ∧ some k_ ≠ ((.slice Ao27 t883.length co27) : Value).ownBlock ∧ some k_ ≠ ((.slice Ao39 t898.length co39) : Value).ownBlock ∧ some k_ ≠ ((.slice Ao44 t901.length co44) : Value).ownBlock ∧ some k_ ≠ ((.slice Ao45 t904.length co45) : Value).ownBlock ∧ some k_ ≠ ((.slice Ao46 t907.length co46) : Value).ownBlock) (.slice Ao26 t880.length co26) t880) ∧ Aside0 (Kd.R (Kd.int .i64) 3 wc w.heap.size (fun k_ => some k_ ≠ ((.slice Ao22 t874.length co22) : Value).ownBlock ∧ some k_ ≠ ((.slice Ao25 t877.length co25) : Value).ownBlock ∧ some k_ ≠ ((.slice Ao26 t880.length co26) : Value).ownBlock ∧ some k_ ≠ ((.slice Ao39 t898.length co39) : Value).ownBlock ∧ some k_ ≠ ((.slice Ao44 t901.length co44) : Value).ownBlock ∧ some k_ ≠ ((.slice Ao45 t904.length co45) : Value).ownBlock ∧ some k_ ≠ ((.slice Ao46 t907.length co46) : Value).ownBlock) (.slice Ao27 t883.length co27) t883) ∧ Aside0 (Kd.R (Kd.int .i64) 3 wc w.heap.size (fun k_ => some k_ ≠ ((.slice Ao22 t874.length co22) : Value).ownBlock ∧ some k_ ≠ ((.slice Ao25 t877.length co25) : Value).ownBlock ∧ some k_ ≠ ((.slice Ao26 t880.length co26) : Value).ownBlock ∧ some k_ ≠ ((.slice Ao27 t883.length co27) : Value).ownBlock ∧ some k_ ≠ ((.slice Ao44 t901.length co44) : Value).ownBlock ∧ some k_ ≠ ((.slice Ao45 t904.length co45) : Value).ownBlock ∧ some k_ ≠ ((.slice Ao46 t907.length co46) : Value).ownBlock) (.slice Ao39 t898.length co39) t898) ∧ Aside0 (Kd.R (Kd.int .i64) 3 wc w.heap.size (fun k_ => some k_ ≠ ((.slice Ao22 t874.length co22) : Value).ownBlock ∧ some k_ ≠ ((.slice Ao25 t877.length co25) : Value).ownBlock ∧ some k_ ≠ ((.slice Ao26 t880.length co26) : Value).ownBlock ∧ some k_ ≠ ((.slice Ao27 t883.length co27) : Value).ownBlock ∧ some k_ ≠ ((.slice Ao39 t898.length co39) : Value).ownBlock ∧ some k_ ≠ ((.slice Ao45 t904.length co45) : Value).ownBlock ∧ some k_ ≠ ((.slice Ao46 t907.length co46) : Value).ownBlock) (.slice Ao44 t901.length co44) t901) ∧ Aside0 (Kd.R (Kd.int .i64) 3 wc w.heap.size (fun k_ => some k_ ≠ ((.slice Ao22 t874.length co22) : Value).ownBlock ∧ some k_ ≠ ((.slice Ao25 t877.length co25) : Value).ownBlock ∧ some k_ ≠ ((.slice Ao26 t880.length co26) : Value).ownBlock ∧ some k_ ≠ ((.slice Ao27 t883.length co27) : Value).ownBlock ∧ some k_ ≠ ((.slice Ao39 t898.length co39) : Value).ownBlock ∧ some k_ ≠ ((.slice Ao44 t901.length co44) : Value).ownBlock ∧ some k_ ≠ ((.slice Ao46 t907.length co46) : Value).ownBlock) (.slice Ao45 t904.length co45) t904) ∧ Aside0 (Kd.R (Kd.int .i64) 3 wc w.heap.size (fun k_ => some k_ ≠ ((.slice Ao22 t874.length co22) : Value).ownBlock ∧ some k_ ≠ ((.slice Ao25 t877.length co25) : Value).ownBlock ∧ some k_ ≠ ((.slice Ao26 t880.length co26) : Value).ownBlock ∧ some k_ ≠ ((.slice Ao27 t883.length co27) : Value).ownBlock ∧ some k_ ≠ ((.slice Ao39 t898.length co39) : Value).ownBlock ∧ some k_ ≠ ((.slice Ao44 t901.length co44) : Value).ownBlock ∧ some k_ ≠ ((.slice Ao45 t904.length co45) : Value).ownBlock) (.slice Ao46 t907.length co46) t907) ∧ Aside0 (wc.heap[gb863]? = some (.cells #[(.slice A0_0 l0_0.length c0_0), (.slice A0_1 l0_1.length c0_1), (.slice A0_2 l0_2.length c0_2)] 38 (0, 0))) ∧ Aside0 (wc.heap[gb887]? = some (.cells #[(.slice Ao22 t874.length co22), (.slice Ao25 t877.length co25), (.slice Ao26 t880.length co26), (.slice Ao27 t883.length co27)] 48 (0, 0))) ∧ Aside0 (wc.heap[gb911]? = some (.cells #[(.slice Ao39 t898.length co39), (.slice Ao44 t901.length co44), (.slice Ao45 t904.length co45), (.slice Ao46 t907.length co46)] 48 (0, 0))) ∧ Aside0 (Below w.heap.size w wc))
            case first =>
              have H := HC70.out
              clear HC70
              by_cases c82 : t923 < 0
              · rw [if_pos c82] at H
                have c82b0 : decide (t923 < 0) = true := decide_eq_true c82
                clear c82
                (first | rw [c82b0] | (simp only [i64_w, i32_w]; rw [c82b0]) | skip)
                have H' := am H
                clear H
                go_wp2
                go_meet
                case rel => exact ⟨_, (true), (by first | rfl | (simp; done) | (simp [*]; done)), H', ⟨by have := HJ10.out; first | omega | exact Nat.le_refl _⟩, ⟨rl (Kd.R_mono HO_888000.out (fun _ hk => by simp only [ne_eq] at hk ⊢; simp only [hk, not_false_eq_true, and_self]))⟩, ⟨rl (Kd.R_mono HO_888001.out (fun _ hk => by simp only [ne_eq] at hk ⊢; simp only [hk, not_false_eq_true, and_self]))⟩, ⟨rl (Kd.R_mono HO_888002.out (fun _ hk => by simp only [ne_eq] at hk ⊢; simp only [hk, not_false_eq_true, and_self]))⟩, ⟨rl (Kd.R_mono HO_888003.out (fun _ hk => by simp only [ne_eq] at hk ⊢; simp only [hk, not_false_eq_true, and_self]))⟩, ⟨rl (Kd.R_mono HO_912000.out (fun _ hk => by simp only [ne_eq] at hk ⊢; simp only [hk, not_false_eq_true, and_self]))⟩, ⟨rl (Kd.R_mono HO_912001.out (fun _ hk => by simp only [ne_eq] at hk ⊢; simp only [hk, not_false_eq_true, and_self]))⟩, ⟨rl (Kd.R_mono HO_912002.out (fun _ hk => by simp only [ne_eq] at hk ⊢; simp only [hk, not_false_eq_true, and_self]))⟩, ⟨rl (Kd.R_mono HO_912003.out (fun _ hk => by simp only [ne_eq] at hk ⊢; simp only [hk, not_false_eq_true, and_self]))⟩, ⟨kl BK863.out⟩, ⟨kl BK887.out⟩, ⟨kl BK911.out⟩, ⟨by repeat (first | (with_reducible first | exact HB.out | apply below_alloc | apply pw_below_drewN | apply below_drew1 | refine below_set ?_ GE863.out | refine below_set ?_ GE887.out | refine below_set ?_ GE897.out | refine below_set ?_ GE911.out) | exact HB.out)⟩⟩
              · rw [if_neg c82] at H
                have c82b0 : decide (t923 < 0) = false := decide_eq_false c82
                clear c82
                (first | rw [c82b0] | (simp only [i64_w, i32_w]; rw [c82b0]) | skip)
                replace H := Option.bind_eq_some_iff.mp H
                obtain ⟨t927, A830, H⟩ := H
                replace H : (if t927 = true then (laws_FnExactNewColored.j1 kj10 t886 (t910 != t886) l0_0 l0_1 l0_2 t874 t877 t880 t883 t898 t901 t904 t907) else (laws_FnExactNewColored.j1 kj10 t886 true l0_0 l0_1 l0_2 t874 t877 t880 t883 t898 t901 t904 t907)) = some r := H
                have A83 := am A830
                clear A830
                by_cases c84 : t927 = true
                · subst c84
                  have H1 : (laws_FnExactNewColored.j1 kj10 t886 (t910 != t886) l0_0 l0_1 l0_2 t874 t877 t880 t883 t898 t901 t904 t907) = some r := by rw [if_pos rfl] at H; exact H
                  clear H
                  have H := H1
                  clear H1
                  have H' := am H
                  clear H
                  have hnb85 := NB911_863.out
                  have hnc85 := NB863_911.out
                  have hnb86 := NB911_887.out
                  have hnc86 := NB887_911.out
                  have hnb87 := NB911_897.out
                  have hnc87 := NB897_911.out
                  have hcz88_0 : w81.cell? ⟨gb911, 0, none⟩ = some (.slice Ao39 t898.length co39) := (blk_cell BK911.out 0).trans rfl
                  have hcz88_1 : w81.cell? ⟨gb911, 1, none⟩ = some (.slice Ao44 t901.length co44) := (blk_cell BK911.out 1).trans rfl
                  have hcz88_2 : w81.cell? ⟨gb911, 2, none⟩ = some (.slice Ao45 t904.length co45) := (blk_cell BK911.out 2).trans rfl
                  have hcz88_3 : w81.cell? ⟨gb911, 3, none⟩ = some (.slice Ao46 t907.length co46) := (blk_cell BK911.out 3).trans rfl
                  have hfz88_0 := blk_frozen BK911.out 0
                  have hfz88_1 := blk_frozen BK911.out 1
                  have hfz88_2 := blk_frozen BK911.out 2
                  have hfz88_3 := blk_frozen BK911.out 3
                  have hnb89 := NB887_863.out
                  have hnc89 := NB863_887.out
                  have hnb90 := NB887_897.out
                  have hnc90 := NB897_887.out
                  have hcz91_0 : w81.cell? ⟨gb887, 0, none⟩ = some (.slice Ao22 t874.length co22) := (blk_cell BK887.out 0).trans rfl
                  have hcz91_1 : w81.cell? ⟨gb887, 1, none⟩ = some (.slice Ao25 t877.length co25) := (blk_cell BK887.out 1).trans rfl
                  have hcz91_2 : w81.cell? ⟨gb887, 2, none⟩ = some (.slice Ao26 t880.length co26) := (blk_cell BK887.out 2).trans rfl
                  have hcz91_3 : w81.cell? ⟨gb887, 3, none⟩ = some (.slice Ao27 t883.length co27) := (blk_cell BK887.out 3).trans rfl
                  have hfz91_0 := blk_frozen BK887.out 0
                  have hfz91_1 := blk_frozen BK887.out 1
                  have hfz91_2 := blk_frozen BK887.out 2
                  have hfz91_3 := blk_frozen BK887.out 3
                  go_wp2_with (first | (go_at_call 39; (with_reducible refine (laws_eqColored.calls kj10 _ _ t898 _ _ t901 _ _ t904 _ _ t907 _ _ t874 _ _ t877 _ _ t880 _ _ t883 true _ ?side1 ?side2 ?side3 ?side4 ?side5 ?side6 ?side7 ?side8 ?side9 ?side10 ?side11 ?side12 ?side13 ?side14 ?side15 ?side16 A83.out).mono ?_); (case side1 => repeat (first | exact (Kd.R_reads' HO_912000.out).2.2 | (with_reducible refine Kd.C_alloc ?_ _) | (with_reducible refine Kd.C_drewN ?_ _) | (with_reducible refine Kd.C_drew ?_))); (case side2 => exact (Kd.R_reads' HO_912000.out).2.1); (case side3 => repeat (first | exact (Kd.R_reads' HO_912001.out).2.2 | (with_reducible refine Kd.C_alloc ?_ _) | (with_reducible refine Kd.C_drewN ?_ _) | (with_reducible refine Kd.C_drew ?_))); (case side4 => exact (Kd.R_reads' HO_912001.out).2.1); (case side5 => repeat (first | exact (Kd.R_reads' HO_912002.out).2.2 | (with_reducible refine Kd.C_alloc ?_ _) | (with_reducible refine Kd.C_drewN ?_ _) | (with_reducible refine Kd.C_drew ?_))); (case side6 => exact (Kd.R_reads' HO_912002.out).2.1); (case side7 => repeat (first | exact (Kd.R_reads' HO_912003.out).2.2 | (with_reducible refine Kd.C_alloc ?_ _) | (with_reducible refine Kd.C_drewN ?_ _) | (with_reducible refine Kd.C_drew ?_))); (case side8 => exact (Kd.R_reads' HO_912003.out).2.1); (case side9 => repeat (first | exact (Kd.R_reads' HO_888000.out).2.2 | (with_reducible refine Kd.C_alloc ?_ _) | (with_reducible refine Kd.C_drewN ?_ _) | (with_reducible refine Kd.C_drew ?_))); (case side10 => exact (Kd.R_reads' HO_888000.out).2.1); (case side11 => repeat (first | exact (Kd.R_reads' HO_888001.out).2.2 | (with_reducible refine Kd.C_alloc ?_ _) | (with_reducible refine Kd.C_drewN ?_ _) | (with_reducible refine Kd.C_drew ?_))); (case side12 => exact (Kd.R_reads' HO_888001.out).2.1); (case side13 => repeat (first | exact (Kd.R_reads' HO_888002.out).2.2 | (with_reducible refine Kd.C_alloc ?_ _) | (with_reducible refine Kd.C_drewN ?_ _) | (with_reducible refine Kd.C_drew ?_))); (case side14 => exact (Kd.R_reads' HO_888002.out).2.1); (case side15 => repeat (first | exact (Kd.R_reads' HO_888003.out).2.2 | (with_reducible refine Kd.C_alloc ?_ _) | (with_reducible refine Kd.C_drewN ?_ _) | (with_reducible refine Kd.C_drew ?_))); (case side16 => exact (Kd.R_reads' HO_888003.out).2.1); rintro e w92 ⟨rfl, hb⟩; have n0_ := am (Kd.R_below (rl HO_888000.out) hb); have n1_ := am (Kd.R_below (rl HO_888001.out) hb); have n2_ := am (Kd.R_below (rl HO_888002.out) hb); have n3_ := am (Kd.R_below (rl HO_888003.out) hb); have n4_ := am (Kd.R_below (rl HO_898000.out) hb); have n5_ := am (Kd.R_below (rl HO_898001.out) hb); have n6_ := am (Kd.R_below (rl HO_898002.out) hb); have n7_ := am (Kd.R_below (rl HO_912000.out) hb); have n8_ := am (Kd.R_below (rl HO_912001.out) hb); have n9_ := am (Kd.R_below (rl HO_912002.out) hb); have n10_ := am (Kd.R_below (rl HO_912003.out) hb); have n11_ := am (Kd.R_below (rl HO915.out) hb); have n12_ := am (Kd.R_below (rl HO918.out) hb); have n13_ := am (Kd.R_below (rl HO921.out) hb); have n14_ := am (blk_below (g := gb863) (o := .cells #[.slice A0_0 l0_0.length c0_0, .slice A0_1 l0_1.length c0_1, .slice A0_2 l0_2.length c0_2] 38 (0, 0)) (kl BK863.out) hb); have n15_ := am (blk_below (g := gb887) (o := .cells #[.slice Ao22 t874.length co22, .slice Ao25 t877.length co25, .slice Ao26 t880.length co26, .slice Ao27 t883.length co27] 48 (0, 0)) (kl BK887.out) hb); have n16_ := am (blk_below (g := gb897) (o := .cells #[.slice Ao31 t888.length co31, .slice Ao35 t891.length co35, .slice Ao36 t894.length co36] 25 (0, 0)) (kl BK897.out) hb); have n17_ := am (blk_below (g := gb911) (o := .cells #[.slice Ao39 t898.length co39, .slice Ao44 t901.length co44, .slice Ao45 t904.length co45, .slice Ao46 t907.length co46] 48 (0, 0)) (kl BK911.out) hb); have n18_ := am (below_step (by repeat (first | (with_reducible first | exact HB.out | apply below_alloc | apply pw_below_drewN | apply below_drew1 | refine below_set ?_ GE863.out | refine below_set ?_ GE887.out | refine below_set ?_ GE897.out | refine below_set ?_ GE911.out) | exact HB.out)) hb); clear HO_888000; clear HO_888001; clear HO_888002; clear HO_888003; clear HO_898000; clear HO_898001; clear HO_898002; clear HO_912000; clear HO_912001; clear HO_912002; clear HO_912003; clear HO915; clear HO918; clear HO921; clear BK863; clear BK887; clear BK897; clear BK911; clear HB; have HO_888000 := n0_; have HO_888001 := n1_; have HO_888002 := n2_; have HO_888003 := n3_; have HO_898000 := n4_; have HO_898001 := n5_; have HO_898002 := n6_; have HO_912000 := n7_; have HO_912001 := n8_; have HO_912002 := n9_; have HO_912003 := n10_; have HO915 := n11_; have HO918 := n12_; have HO921 := n13_; have BK863 := n14_; have BK887 := n15_; have BK897 := n16_; have BK911 := n17_; have HB := n18_; clear n0_ n1_ n2_ n3_ n4_ n5_ n6_ n7_ n8_ n9_ n10_ n11_ n12_ n13_ n14_ n15_ n16_ n17_ n18_; (try clear hb); (try clear hb2); (try clear hk); (try clear hi)))
                  go_meet
                  case rel => exact ⟨_, ((t910 != t886)), (by first | rfl | (simp; done) | (simp [*]; done)), H', ⟨by have := HJ10.out; first | omega | exact Nat.le_refl _⟩, ⟨rl (Kd.R_mono HO_888000.out (fun _ hk => by simp only [ne_eq] at hk ⊢; simp only [hk, not_false_eq_true, and_self]))⟩, ⟨rl (Kd.R_mono HO_888001.out (fun _ hk => by simp only [ne_eq] at hk ⊢; simp only [hk, not_false_eq_true, and_self]))⟩, ⟨rl (Kd.R_mono HO_888002.out (fun _ hk => by simp only [ne_eq] at hk ⊢; simp only [hk, not_false_eq_true, and_self]))⟩, ⟨rl (Kd.R_mono HO_888003.out (fun _ hk => by simp only [ne_eq] at hk ⊢; simp only [hk, not_false_eq_true, and_self]))⟩, ⟨rl (Kd.R_mono HO_912000.out (fun _ hk => by simp only [ne_eq] at hk ⊢; simp only [hk, not_false_eq_true, and_self]))⟩, ⟨rl (Kd.R_mono HO_912001.out (fun _ hk => by simp only [ne_eq] at hk ⊢; simp only [hk, not_false_eq_true, and_self]))⟩, ⟨rl (Kd.R_mono HO_912002.out (fun _ hk => by simp only [ne_eq] at hk ⊢; simp only [hk, not_false_eq_true, and_self]))⟩, ⟨rl (Kd.R_mono HO_912003.out (fun _ hk => by simp only [ne_eq] at hk ⊢; simp only [hk, not_false_eq_true, and_self]))⟩, ⟨kl BK863.out⟩, ⟨kl BK887.out⟩, ⟨kl BK911.out⟩, ⟨by repeat (first | (with_reducible first | exact HB.out | apply below_alloc | apply pw_below_drewN | apply below_drew1 | refine below_set ?_ GE863.out | refine below_set ?_ GE887.out | refine below_set ?_ GE897.out | refine below_set ?_ GE911.out) | exact HB.out)⟩⟩
                · replace c84 := Bool.eq_false_iff.mpr c84
                  subst c84
                  have H1 : (laws_FnExactNewColored.j1 kj10 t886 true l0_0 l0_1 l0_2 t874 t877 t880 t883 t898 t901 t904 t907) = some r := by rw [if_neg (show ¬ (false = true) by decide)] at H; exact H
                  clear H
                  have H := H1
                  clear H1
                  have H' := am H
                  clear H
                  have hnb93 := NB911_863.out
                  have hnc93 := NB863_911.out
                  have hnb94 := NB911_887.out
                  have hnc94 := NB887_911.out
                  have hnb95 := NB911_897.out
                  have hnc95 := NB897_911.out
                  have hcz96_0 : w81.cell? ⟨gb911, 0, none⟩ = some (.slice Ao39 t898.length co39) := (blk_cell BK911.out 0).trans rfl
                  have hcz96_1 : w81.cell? ⟨gb911, 1, none⟩ = some (.slice Ao44 t901.length co44) := (blk_cell BK911.out 1).trans rfl
                  have hcz96_2 : w81.cell? ⟨gb911, 2, none⟩ = some (.slice Ao45 t904.length co45) := (blk_cell BK911.out 2).trans rfl
                  have hcz96_3 : w81.cell? ⟨gb911, 3, none⟩ = some (.slice Ao46 t907.length co46) := (blk_cell BK911.out 3).trans rfl
                  have hfz96_0 := blk_frozen BK911.out 0
                  have hfz96_1 := blk_frozen BK911.out 1
                  have hfz96_2 := blk_frozen BK911.out 2
                  have hfz96_3 := blk_frozen BK911.out 3
                  have hnb97 := NB887_863.out
                  have hnc97 := NB863_887.out
                  have hnb98 := NB887_897.out
                  have hnc98 := NB897_887.out
                  have hcz99_0 : w81.cell? ⟨gb887, 0, none⟩ = some (.slice Ao22 t874.length co22) := (blk_cell BK887.out 0).trans rfl
                  have hcz99_1 : w81.cell? ⟨gb887, 1, none⟩ = some (.slice Ao25 t877.length co25) := (blk_cell BK887.out 1).trans rfl
                  have hcz99_2 : w81.cell? ⟨gb887, 2, none⟩ = some (.slice Ao26 t880.length co26) := (blk_cell BK887.out 2).trans rfl
                  have hcz99_3 : w81.cell? ⟨gb887, 3, none⟩ = some (.slice Ao27 t883.length co27) := (blk_cell BK887.out 3).trans rfl
                  have hfz99_0 := blk_frozen BK887.out 0
                  have hfz99_1 := blk_frozen BK887.out 1
                  have hfz99_2 := blk_frozen BK887.out 2
                  have hfz99_3 := blk_frozen BK887.out 3
                  go_wp2_with (first | (go_at_call 39; (with_reducible refine (laws_eqColored.calls kj10 _ _ t898 _ _ t901 _ _ t904 _ _ t907 _ _ t874 _ _ t877 _ _ t880 _ _ t883 false _ ?side1 ?side2 ?side3 ?side4 ?side5 ?side6 ?side7 ?side8 ?side9 ?side10 ?side11 ?side12 ?side13 ?side14 ?side15 ?side16 A83.out).mono ?_); (case side1 => repeat (first | exact (Kd.R_reads' HO_912000.out).2.2 | (with_reducible refine Kd.C_alloc ?_ _) | (with_reducible refine Kd.C_drewN ?_ _) | (with_reducible refine Kd.C_drew ?_))); (case side2 => exact (Kd.R_reads' HO_912000.out).2.1); (case side3 => repeat (first | exact (Kd.R_reads' HO_912001.out).2.2 | (with_reducible refine Kd.C_alloc ?_ _) | (with_reducible refine Kd.C_drewN ?_ _) | (with_reducible refine Kd.C_drew ?_))); (case side4 => exact (Kd.R_reads' HO_912001.out).2.1); (case side5 => repeat (first | exact (Kd.R_reads' HO_912002.out).2.2 | (with_reducible refine Kd.C_alloc ?_ _) | (with_reducible refine Kd.C_drewN ?_ _) | (with_reducible refine Kd.C_drew ?_))); (case side6 => exact (Kd.R_reads' HO_912002.out).2.1); (case side7 => repeat (first | exact (Kd.R_reads' HO_912003.out).2.2 | (with_reducible refine Kd.C_alloc ?_ _) | (with_reducible refine Kd.C_drewN ?_ _) | (with_reducible refine Kd.C_drew ?_))); (case side8 => exact (Kd.R_reads' HO_912003.out).2.1); (case side9 => repeat (first | exact (Kd.R_reads' HO_888000.out).2.2 | (with_reducible refine Kd.C_alloc ?_ _) | (with_reducible refine Kd.C_drewN ?_ _) | (with_reducible refine Kd.C_drew ?_))); (case side10 => exact (Kd.R_reads' HO_888000.out).2.1); (case side11 => repeat (first | exact (Kd.R_reads' HO_888001.out).2.2 | (with_reducible refine Kd.C_alloc ?_ _) | (with_reducible refine Kd.C_drewN ?_ _) | (with_reducible refine Kd.C_drew ?_))); (case side12 => exact (Kd.R_reads' HO_888001.out).2.1); (case side13 => repeat (first | exact (Kd.R_reads' HO_888002.out).2.2 | (with_reducible refine Kd.C_alloc ?_ _) | (with_reducible refine Kd.C_drewN ?_ _) | (with_reducible refine Kd.C_drew ?_))); (case side14 => exact (Kd.R_reads' HO_888002.out).2.1); (case side15 => repeat (first | exact (Kd.R_reads' HO_888003.out).2.2 | (with_reducible refine Kd.C_alloc ?_ _) | (with_reducible refine Kd.C_drewN ?_ _) | (with_reducible refine Kd.C_drew ?_))); (case side16 => exact (Kd.R_reads' HO_888003.out).2.1); rintro e w100 ⟨rfl, hb⟩; have n0_ := am (Kd.R_below (rl HO_888000.out) hb); have n1_ := am (Kd.R_below (rl HO_888001.out) hb); have n2_ := am (Kd.R_below (rl HO_888002.out) hb); have n3_ := am (Kd.R_below (rl HO_888003.out) hb); have n4_ := am (Kd.R_below (rl HO_898000.out) hb); have n5_ := am (Kd.R_below (rl HO_898001.out) hb); have n6_ := am (Kd.R_below (rl HO_898002.out) hb); have n7_ := am (Kd.R_below (rl HO_912000.out) hb); have n8_ := am (Kd.R_below (rl HO_912001.out) hb); have n9_ := am (Kd.R_below (rl HO_912002.out) hb); have n10_ := am (Kd.R_below (rl HO_912003.out) hb); have n11_ := am (Kd.R_below (rl HO915.out) hb); have n12_ := am (Kd.R_below (rl HO918.out) hb); have n13_ := am (Kd.R_below (rl HO921.out) hb); have n14_ := am (blk_below (g := gb863) (o := .cells #[.slice A0_0 l0_0.length c0_0, .slice A0_1 l0_1.length c0_1, .slice A0_2 l0_2.length c0_2] 38 (0, 0)) (kl BK863.out) hb); have n15_ := am (blk_below (g := gb887) (o := .cells #[.slice Ao22 t874.length co22, .slice Ao25 t877.length co25, .slice Ao26 t880.length co26, .slice Ao27 t883.length co27] 48 (0, 0)) (kl BK887.out) hb); have n16_ := am (blk_below (g := gb897) (o := .cells #[.slice Ao31 t888.length co31, .slice Ao35 t891.length co35, .slice Ao36 t894.length co36] 25 (0, 0)) (kl BK897.out) hb); have n17_ := am (blk_below (g := gb911) (o := .cells #[.slice Ao39 t898.length co39, .slice Ao44 t901.length co44, .slice Ao45 t904.length co45, .slice Ao46 t907.length co46] 48 (0, 0)) (kl BK911.out) hb); have n18_ := am (below_step (by repeat (first | (with_reducible first | exact HB.out | apply below_alloc | apply pw_below_drewN | apply below_drew1 | refine below_set ?_ GE863.out | refine below_set ?_ GE887.out | refine below_set ?_ GE897.out | refine below_set ?_ GE911.out) | exact HB.out)) hb); clear HO_888000; clear HO_888001; clear HO_888002; clear HO_888003; clear HO_898000; clear HO_898001; clear HO_898002; clear HO_912000; clear HO_912001; clear HO_912002; clear HO_912003; clear HO915; clear HO918; clear HO921; clear BK863; clear BK887; clear BK897; clear BK911; clear HB; have HO_888000 := n0_; have HO_888001 := n1_; have HO_888002 := n2_; have HO_888003 := n3_; have HO_898000 := n4_; have HO_898001 := n5_; have HO_898002 := n6_; have HO_912000 := n7_; have HO_912001 := n8_; have HO_912002 := n9_; have HO_912003 := n10_; have HO915 := n11_; have HO918 := n12_; have HO921 := n13_; have BK863 := n14_; have BK887 := n15_; have BK897 := n16_; have BK911 := n17_; have HB := n18_; clear n0_ n1_ n2_ n3_ n4_ n5_ n6_ n7_ n8_ n9_ n10_ n11_ n12_ n13_ n14_ n15_ n16_ n17_ n18_; (try clear hb); (try clear hb2); (try clear hk); (try clear hi)))
                  go_meet
                  case rel => exact ⟨_, (true), (by first | rfl | (simp; done) | (simp [*]; done)), H', ⟨by have := HJ10.out; first | omega | exact Nat.le_refl _⟩, ⟨rl (Kd.R_mono HO_888000.out (fun _ hk => by simp only [ne_eq] at hk ⊢; simp only [hk, not_false_eq_true, and_self]))⟩, ⟨rl (Kd.R_mono HO_888001.out (fun _ hk => by simp only [ne_eq] at hk ⊢; simp only [hk, not_false_eq_true, and_self]))⟩, ⟨rl (Kd.R_mono HO_888002.out (fun _ hk => by simp only [ne_eq] at hk ⊢; simp only [hk, not_false_eq_true, and_self]))⟩, ⟨rl (Kd.R_mono HO_888003.out (fun _ hk => by simp only [ne_eq] at hk ⊢; simp only [hk, not_false_eq_true, and_self]))⟩, ⟨rl (Kd.R_mono HO_912000.out (fun _ hk => by simp only [ne_eq] at hk ⊢; simp only [hk, not_false_eq_true, and_self]))⟩, ⟨rl (Kd.R_mono HO_912001.out (fun _ hk => by simp only [ne_eq] at hk ⊢; simp only [hk, not_false_eq_true, and_self]))⟩, ⟨rl (Kd.R_mono HO_912002.out (fun _ hk => by simp only [ne_eq] at hk ⊢; simp only [hk, not_false_eq_true, and_self]))⟩, ⟨rl (Kd.R_mono HO_912003.out (fun _ hk => by simp only [ne_eq] at hk ⊢; simp only [hk, not_false_eq_true, and_self]))⟩, ⟨kl BK863.out⟩, ⟨kl BK887.out⟩, ⟨kl BK911.out⟩, ⟨by repeat (first | (with_reducible first | exact HB.out | apply below_alloc | apply pw_below_drewN | apply below_drew1 | refine below_set ?_ GE863.out | refine below_set ?_ GE887.out | refine below_set ?_ GE897.out | refine below_set ?_ GE911.out) | exact HB.out)⟩⟩
            case rest =>
              clear HC70
              try clear c2
              try clear p2
              try clear c3
              try clear c3b0
              try clear c4
              try clear c5
              try clear c6
              try clear c7
              try clear c8
              try clear c9
              try clear c23
              try clear c25
              try clear c27
              try clear c29
              try clear c32
              try clear c33
              try clear c37
              try clear c38
              try clear c39
              try clear c40
              try clear c41
              try clear c42
              try clear c48
              try clear c49
              try clear c50
              try clear c51
              try clear c53
              try clear c54
              try clear c57
              try clear c58
              try clear c59
              try clear c61
              try clear c62
              try clear c65
              try clear c68
              try clear c77
              try clear c78
              try clear c79
              try clear c82
              try clear c82b0
              try clear c84
              try clear c85
              try clear c86
              try clear c87
              try clear c89
              try clear c90
              try clear c93
              try clear c94
              try clear c95
              try clear c97
              try clear c98
              try clear hcz13_0
              try clear hcz13_1
              try clear hcz13_2
              try clear hcz15_0
              try clear hcz15_1
              try clear hcz15_2
              try clear hcz24_0
              try clear hcz24_1
              try clear hcz24_2
              try clear hcz24_3
              try clear hcz28_0
              try clear hcz28_1
              try clear hcz28_2
              try clear hcz34_0
              try clear hcz34_1
              try clear hcz34_2
              try clear hcz43_0
              try clear hcz43_1
              try clear hcz43_2
              try clear hcz43_3
              try clear hcz52_0
              try clear hcz52_1
              try clear hcz52_2
              try clear hcz52_3
              try clear hcz55_0
              try clear hcz55_1
              try clear hcz55_2
              try clear hcz55_3
              try clear hcz5_0
              try clear hcz5_1
              try clear hcz5_2
              try clear hcz60_0
              try clear hcz60_1
              try clear hcz60_2
              try clear hcz60_3
              try clear hcz63_0
              try clear hcz63_1
              try clear hcz63_2
              try clear hcz63_3
              try clear hcz80_0
              try clear hcz80_1
              try clear hcz80_2
              try clear hcz88_0
              try clear hcz88_1
              try clear hcz88_2
              try clear hcz88_3
              try clear hcz91_0
              try clear hcz91_1
              try clear hcz91_2
              try clear hcz91_3
              try clear hcz96_0
              try clear hcz96_1
              try clear hcz96_2
              try clear hcz96_3
              try clear hcz99_0
              try clear hcz99_1
              try clear hcz99_2
              try clear hcz99_3
              try clear hfz13_0
              try clear hfz13_1
              try clear hfz13_2
              try clear hfz15_0
              try clear hfz15_1
              try clear hfz15_2
              try clear hfz24_0
              try clear hfz24_1
              try clear hfz24_2
              try clear hfz24_3
              try clear hfz28_0
              try clear hfz28_1
              try clear hfz28_2
              try clear hfz34_0
              try clear hfz34_1
              try clear hfz34_2
              try clear hfz43_0
              try clear hfz43_1
              try clear hfz43_2
              try clear hfz43_3
              try clear hfz52_0
              try clear hfz52_1
              try clear hfz52_2
              try clear hfz52_3
              try clear hfz55_0
              try clear hfz55_1
              try clear hfz55_2
              try clear hfz55_3
              try clear hfz5_0
              try clear hfz5_1
              try clear hfz5_2
              try clear hfz60_0
              try clear hfz60_1
              try clear hfz60_2
              try clear hfz60_3
              try clear hfz63_0
              try clear hfz63_1
              try clear hfz63_2
              try clear hfz63_3
              try clear hfz80_0
              try clear hfz80_1
              try clear hfz80_2
              try clear hfz88_0
              try clear hfz88_1
              try clear hfz88_2
              try clear hfz88_3
              try clear hfz91_0
              try clear hfz91_1
              try clear hfz91_2
              try clear hfz91_3
              try clear hfz96_0
              try clear hfz96_1
              try clear hfz96_2
              try clear hfz96_3
              try clear hfz99_0
              try clear hfz99_1
              try clear hfz99_2
              try clear hfz99_3
              try clear p2
              obtain ⟨kq, x61_69, rfl, HA, HJ69, HO_888000, HO_888001, HO_888002, HO_888003, HO_912000, HO_912001, HO_912002, HO_912003, BK863, BK887, BK911, HB⟩ := hcut
              cases kq with
              | zero => exact absurd HA.out (by simp [laws_FnExactNewColored.j1])
              | succ kj69 =>
                have H := HA.out
                clear HA
                simp only [laws_FnExactNewColored.j1] at H
                by_cases c101 : x61_69 = true
                · subst c101
                  have H1 : (none) = some r := by rw [if_pos rfl] at H; exact H
                  clear H
                  have H := H1
                  clear H1
                  exact absurd H (by simp)
                · replace c101 := Bool.eq_false_iff.mpr c101
                  subst c101
                  have H1 : ((laws_markColored.f kj69 t898 t901 t904 t907 1).bind fun bt928 => ((laws_heldColored.f kj69 bt928.2.1 bt928.2.2.1 bt928.2.2.2.1 bt928.2.2.2.2 1).bind fun t933 => (if t933 < 0 then (none) else (if t933 = bt928.1 then ((laws_toHeap.f kj69 l0_0 l0_1 l0_2).bind fun bt934 => ((impl_NewColored.f kj69 bt934.1 bt934.2.1 bt934.2.2).bind fun bt943 => ((laws_eqColored.f kj69 bt943.1 bt943.2.1 bt943.2.2.1 bt943.2.2.2.1 t874 t877 t880 t883).bind fun t957 => (if t957 = true then (laws_FnExactNewColored.j2 kj69 bt928.1 (bt943.2.2.2.2 != t886) bt928.2.1 bt928.2.2.1 bt928.2.2.2.1 bt928.2.2.2.2) else (laws_FnExactNewColored.j2 kj69 bt928.1 true bt928.2.1 bt928.2.2.1 bt928.2.2.2.1 bt928.2.2.2.2))))) else (none))))) = some r := by rw [if_neg (show ¬ (false = true) by decide)] at H; exact H
                  clear H
                  have H := H1
                  clear H1
                  replace H := Option.bind_eq_some_iff.mp H
                  obtain ⟨⟨t928, t929, t930, t931, t932⟩, A1020, H⟩ := H
                  replace H : ((laws_heldColored.f kj69 t929 t930 t931 t932 1).bind fun t933 => (if t933 < 0 then (none) else (if t933 = t928 then ((laws_toHeap.f kj69 l0_0 l0_1 l0_2).bind fun bt934 => ((impl_NewColored.f kj69 bt934.1 bt934.2.1 bt934.2.2).bind fun bt943 => ((laws_eqColored.f kj69 bt943.1 bt943.2.1 bt943.2.2.1 bt943.2.2.2.1 t874 t877 t880 t883).bind fun t957 => (if t957 = true then (laws_FnExactNewColored.j2 kj69 t928 (bt943.2.2.2.2 != t886) t929 t930 t931 t932) else (laws_FnExactNewColored.j2 kj69 t928 true t929 t930 t931 t932))))) else (none)))) = some r := H
                  have A102 := am A1020
                  clear A1020
                  replace H := Option.bind_eq_some_iff.mp H
                  obtain ⟨t933, A1030, H⟩ := H
                  replace H : (if t933 < 0 then (none) else (if t933 = t928 then ((laws_toHeap.f kj69 l0_0 l0_1 l0_2).bind fun bt934 => ((impl_NewColored.f kj69 bt934.1 bt934.2.1 bt934.2.2).bind fun bt943 => ((laws_eqColored.f kj69 bt943.1 bt943.2.1 bt943.2.2.1 bt943.2.2.2.1 t874 t877 t880 t883).bind fun t957 => (if t957 = true then (laws_FnExactNewColored.j2 kj69 t928 (bt943.2.2.2.2 != t886) t929 t930 t931 t932) else (laws_FnExactNewColored.j2 kj69 t928 true t929 t930 t931 t932))))) else (none))) = some r := H
                  have A103 := am A1030
                  clear A1030
                  by_cases c104 : t933 < 0
                  · rw [if_pos c104] at H
                    exact absurd H (by simp)
                  · rw [if_neg c104] at H
                    have c104b0 : decide (t933 < 0) = false := decide_eq_false c104
                    clear c104
                    by_cases c105 : t933 = t928
                    · rw [if_pos c105] at H
                      have c105b0 : (t933 == t928) = true := beq_iff_eq.mpr c105
                      have c105b1 : (t933 != t928) = false := bne_eq_false_iff_eq.mpr c105
                      clear c105
                      replace H := Option.bind_eq_some_iff.mp H
                      obtain ⟨⟨t934, t937, t940⟩, A1060, H⟩ := H
                      replace H : ((impl_NewColored.f kj69 t934 t937 t940).bind fun bt943 => ((laws_eqColored.f kj69 bt943.1 bt943.2.1 bt943.2.2.1 bt943.2.2.2.1 t874 t877 t880 t883).bind fun t957 => (if t957 = true then (laws_FnExactNewColored.j2 kj69 t928 (bt943.2.2.2.2 != t886) t929 t930 t931 t932) else (laws_FnExactNewColored.j2 kj69 t928 true t929 t930 t931 t932)))) = some r := H
                      have A106 := am A1060
                      clear A1060
                      replace H := Option.bind_eq_some_iff.mp H
                      obtain ⟨⟨t943, t946, t949, t952, t955⟩, A1070, H⟩ := H
                      replace H : ((laws_eqColored.f kj69 t943 t946 t949 t952 t874 t877 t880 t883).bind fun t957 => (if t957 = true then (laws_FnExactNewColored.j2 kj69 t928 (t955 != t886) t929 t930 t931 t932) else (laws_FnExactNewColored.j2 kj69 t928 true t929 t930 t931 t932))) = some r := H
                      have A107 := am A1070
                      clear A1070
                      have HC108 := am H
                      clear H
                      have hnb109 := NB911_863.out
                      have hnc109 := NB863_911.out
                      have hnb110 := NB911_887.out
                      have hnc110 := NB887_911.out
                      have hcz111_0 : wc.cell? ⟨gb911, 0, none⟩ = some (.slice Ao39 t898.length co39) := (blk_cell BK911.out 0).trans rfl
                      have hcz111_1 : wc.cell? ⟨gb911, 1, none⟩ = some (.slice Ao44 t901.length co44) := (blk_cell BK911.out 1).trans rfl
                      have hcz111_2 : wc.cell? ⟨gb911, 2, none⟩ = some (.slice Ao45 t904.length co45) := (blk_cell BK911.out 2).trans rfl
                      have hcz111_3 : wc.cell? ⟨gb911, 3, none⟩ = some (.slice Ao46 t907.length co46) := (blk_cell BK911.out 3).trans rfl
                      have hfz111_0 := blk_frozen BK911.out 0
                      have hfz111_1 := blk_frozen BK911.out 1
                      have hfz111_2 := blk_frozen BK911.out 2
                      have hfz111_3 := blk_frozen BK911.out 3
                      go_upto_region 25 with (first | ((with_reducible refine gate_callee (f := 41) rfl ?_); refine goesL_ (some 64) rfl rfl Try.func41 (by kernel_rfl) rfl #[.agg #[.slice Ao39 t898.length co39, .slice Ao44 t901.length co44, .slice Ao45 t904.length co45, .slice Ao46 t907.length co46], .int .i64 1] rfl (by (try simp only [List.map_toArray, List.map_cons, List.map_nil]); first | done | rfl | (simp only [List.length_drop, List.length_take]; rfl)) ?_; (with_reducible refine (laws_markColored.calls kj69 (fun k_ => some k_ = (.slice Ao39 t898.length co39 : Value).ownBlock) (.slice Ao39 t898.length co39) t898 (fun k_ => some k_ = (.slice Ao44 t901.length co44 : Value).ownBlock) (.slice Ao44 t901.length co44) t901 (fun k_ => some k_ = (.slice Ao45 t904.length co45 : Value).ownBlock) (.slice Ao45 t904.length co45) t904 (fun k_ => some k_ = (.slice Ao46 t907.length co46 : Value).ownBlock) (.slice Ao46 t907.length co46) t907 1 t928 t929 t930 t931 t932 w _ ?side1 ?side2 ?side3 ?side4 ?side5 ?side6 ?side7 ?side8 ?side9 ?side10 ?side11 ?side12 ?side13 ?side14 ?side15 ?side16 ?side17 A102.out).mono ?_); (case side1 => repeat (first | (with_reducible first | exact HB.out | apply below_alloc | apply pw_below_drewN | apply below_drew1 | refine below_set ?_ GE863.out | refine below_set ?_ GE887.out | refine below_set ?_ GE911.out) | exact HB.out)); (case side2 => exact Kd.R_tight rfl HO_912000.out); (case side3 => exact fun k_ e_ => by have z_ := HO_912000.out.1 k_ e_.symm; simp only [ne_eq] at z_; simp only [z_, not_false_eq_true]); (case side4 => exact fun k_ e_ => by have z_ := HO_912000.out.1 k_ e_.symm; simp only [ne_eq] at z_; simp only [z_, not_false_eq_true]); (case side5 => exact fun k_ e_ => by have z_ := HO_912000.out.1 k_ e_.symm; simp only [ne_eq] at z_; simp only [z_, not_false_eq_true]); (case side6 => exact Kd.R_tight rfl HO_912001.out); (case side7 => exact fun k_ e_ => by have z_ := HO_912001.out.1 k_ e_.symm; simp only [ne_eq] at z_; simp only [z_, not_false_eq_true]); (case side8 => exact fun k_ e_ => by have z_ := HO_912001.out.1 k_ e_.symm; simp only [ne_eq] at z_; simp only [z_, not_false_eq_true]); (case side9 => exact fun k_ e_ => by have z_ := HO_912001.out.1 k_ e_.symm; simp only [ne_eq] at z_; simp only [z_, not_false_eq_true]); (case side10 => exact Kd.R_tight rfl HO_912002.out); (case side11 => exact fun k_ e_ => by have z_ := HO_912002.out.1 k_ e_.symm; simp only [ne_eq] at z_; simp only [z_, not_false_eq_true]); (case side12 => exact fun k_ e_ => by have z_ := HO_912002.out.1 k_ e_.symm; simp only [ne_eq] at z_; simp only [z_, not_false_eq_true]); (case side13 => exact fun k_ e_ => by have z_ := HO_912002.out.1 k_ e_.symm; simp only [ne_eq] at z_; simp only [z_, not_false_eq_true]); (case side14 => exact Kd.R_tight rfl HO_912003.out); (case side15 => exact fun k_ e_ => by have z_ := HO_912003.out.1 k_ e_.symm; simp only [ne_eq] at z_; simp only [z_, not_false_eq_true]); (case side16 => exact fun k_ e_ => by have z_ := HO_912003.out.1 k_ e_.symm; simp only [ne_eq] at z_; simp only [z_, not_false_eq_true]); (case side17 => exact fun k_ e_ => by have z_ := HO_912003.out.1 k_ e_.symm; simp only [ne_eq] at z_; simp only [z_, not_false_eq_true]); rintro e w112 ⟨rfl, hy0, hy1, hy2, hy3, hb, hkp⟩; refine ⟨_, rfl, ?_⟩; have n0_ := am (Kd.R_kept (HO_888000.out) hkp (fun k_ hk_ hs_ => by simp only [ne_eq] at hk_; simp only [hk_, or_self] at hs_)); have n1_ := am (Kd.R_kept (HO_888001.out) hkp (fun k_ hk_ hs_ => by simp only [ne_eq] at hk_; simp only [hk_, or_self] at hs_)); have n2_ := am (Kd.R_kept (HO_888002.out) hkp (fun k_ hk_ hs_ => by simp only [ne_eq] at hk_; simp only [hk_, or_self] at hs_)); have n3_ := am (Kd.R_kept (HO_888003.out) hkp (fun k_ hk_ hs_ => by simp only [ne_eq] at hk_; simp only [hk_, or_self] at hs_)); have n4_ := am (Kd.R_reok rfl hy0 (fun k_ e_ => HO_912000.out.1 k_ e_)); have n5_ := am (Kd.R_reok rfl hy1 (fun k_ e_ => HO_912001.out.1 k_ e_)); have n6_ := am (Kd.R_reok rfl hy2 (fun k_ e_ => HO_912002.out.1 k_ e_)); have n7_ := am (Kd.R_reok rfl hy3 (fun k_ e_ => HO_912003.out.1 k_ e_)); have n8_ := am (blk_kept (kl BK863.out) hkp (fun hs_ => Or.elim hs_ (fun e_ => (fun e_ => (Kd.R_ne HO_912000.out BK863.out (by decide)) e_) e_) (fun e_ => Or.elim e_ (fun e_ => (fun e_ => (Kd.R_ne HO_912001.out BK863.out (by decide)) e_) e_) (fun e_ => Or.elim e_ (fun e_ => (fun e_ => (Kd.R_ne HO_912002.out BK863.out (by decide)) e_) e_) (fun e_ => (fun e_ => (Kd.R_ne HO_912003.out BK863.out (by decide)) e_) e_))))); have n9_ := am (blk_kept (kl BK887.out) hkp (fun hs_ => Or.elim hs_ (fun e_ => (fun e_ => (Kd.R_ne HO_912000.out BK887.out (by decide)) e_) e_) (fun e_ => Or.elim e_ (fun e_ => (fun e_ => (Kd.R_ne HO_912001.out BK887.out (by decide)) e_) e_) (fun e_ => Or.elim e_ (fun e_ => (fun e_ => (Kd.R_ne HO_912002.out BK887.out (by decide)) e_) e_) (fun e_ => (fun e_ => (Kd.R_ne HO_912003.out BK887.out (by decide)) e_) e_))))); have n10_ := am (blk_kept (kl BK911.out) hkp (fun hs_ => Or.elim hs_ (fun e_ => (fun e_ => (Kd.R_ne HO_912000.out BK911.out (by decide)) e_) e_) (fun e_ => Or.elim e_ (fun e_ => (fun e_ => (Kd.R_ne HO_912001.out BK911.out (by decide)) e_) e_) (fun e_ => Or.elim e_ (fun e_ => (fun e_ => (Kd.R_ne HO_912002.out BK911.out (by decide)) e_) e_) (fun e_ => (fun e_ => (Kd.R_ne HO_912003.out BK911.out (by decide)) e_) e_))))); have n11_ := am (hb); clear HO_888000; clear HO_888001; clear HO_888002; clear HO_888003; clear HO_912000; clear HO_912001; clear HO_912002; clear HO_912003; clear BK863; clear BK887; clear BK911; clear HB; have HO_888000 := n0_; have HO_888001 := n1_; have HO_888002 := n2_; have HO_888003 := n3_; have HO_912000 := n4_; have HO_912001 := n5_; have HO_912002 := n6_; have HO_912003 := n7_; have BK863 := n8_; have BK887 := n9_; have BK911 := n10_; have HB := n11_; clear n0_ n1_ n2_ n3_ n4_ n5_ n6_ n7_ n8_ n9_ n10_ n11_; (try clear hb); (try clear hkp); (try clear hy0); (try clear hy1); (try clear hy2); (try clear hy3); have hcz113_0 : w112.cell? ⟨gb911, 0, none⟩ = some (.slice Ao39 t898.length co39) := (blk_cell BK911.out 0).trans rfl; have hcz113_1 : w112.cell? ⟨gb911, 1, none⟩ = some (.slice Ao44 t901.length co44) := (blk_cell BK911.out 1).trans rfl; have hcz113_2 : w112.cell? ⟨gb911, 2, none⟩ = some (.slice Ao45 t904.length co45) := (blk_cell BK911.out 2).trans rfl; have hcz113_3 : w112.cell? ⟨gb911, 3, none⟩ = some (.slice Ao46 t907.length co46) := (blk_cell BK911.out 3).trans rfl; have hfz113_0 := blk_frozen BK911.out 0; have hfz113_1 := blk_frozen BK911.out 1; have hfz113_2 := blk_frozen BK911.out 2; have hfz113_3 := blk_frozen BK911.out 3) | ((with_reducible refine gate_callee (f := 42) rfl ?_); refine goesL_ (some 67) rfl rfl Try.func42 (by kernel_rfl) rfl #[.agg #[.slice Ao39 t929.length co39, .slice Ao44 t930.length co44, .slice Ao45 t931.length co45, .slice Ao46 t932.length co46], .int .i64 1] rfl (by (try simp only [List.map_toArray, List.map_cons, List.map_nil]); first | done | (rw [show t929.length = t898.length from (Kd.R_reads' HO_912000.out).1.symm, show t930.length = t901.length from (Kd.R_reads' HO_912001.out).1.symm, show t931.length = t904.length from (Kd.R_reads' HO_912002.out).1.symm, show t932.length = t907.length from (Kd.R_reads' HO_912003.out).1.symm] <;> rfl) | rfl | (simp only [List.length_drop, List.length_take]; rfl)) ?_; (with_reducible refine (laws_heldColored.calls kj69 _ _ t929 _ _ t930 _ _ t931 _ _ t932 1 t933 _ ?side1 ?side2 ?side3 ?side4 ?side5 ?side6 ?side7 ?side8 A103.out).mono ?_); (case side1 => repeat (first | exact (Kd.R_reads' HO_912000.out).2.2 | (with_reducible refine Kd.C_alloc ?_ _) | (with_reducible refine Kd.C_drewN ?_ _) | (with_reducible refine Kd.C_drew ?_))); (case side2 => rw [show t929.length = t898.length from (Kd.R_reads' HO_912000.out).1.symm]; exact (Kd.R_reads' HO_912000.out).2.1); (case side3 => repeat (first | exact (Kd.R_reads' HO_912001.out).2.2 | (with_reducible refine Kd.C_alloc ?_ _) | (with_reducible refine Kd.C_drewN ?_ _) | (with_reducible refine Kd.C_drew ?_))); (case side4 => rw [show t930.length = t901.length from (Kd.R_reads' HO_912001.out).1.symm]; exact (Kd.R_reads' HO_912001.out).2.1); (case side5 => repeat (first | exact (Kd.R_reads' HO_912002.out).2.2 | (with_reducible refine Kd.C_alloc ?_ _) | (with_reducible refine Kd.C_drewN ?_ _) | (with_reducible refine Kd.C_drew ?_))); (case side6 => rw [show t931.length = t904.length from (Kd.R_reads' HO_912002.out).1.symm]; exact (Kd.R_reads' HO_912002.out).2.1); (case side7 => repeat (first | exact (Kd.R_reads' HO_912003.out).2.2 | (with_reducible refine Kd.C_alloc ?_ _) | (with_reducible refine Kd.C_drewN ?_ _) | (with_reducible refine Kd.C_drew ?_))); (case side8 => rw [show t932.length = t907.length from (Kd.R_reads' HO_912003.out).1.symm]; exact (Kd.R_reads' HO_912003.out).2.1); rintro e w114 ⟨rfl, hb⟩; refine ⟨_, rfl, ?_⟩; have n0_ := am (Kd.R_below (rl HO_888000.out) hb); have n1_ := am (Kd.R_below (rl HO_888001.out) hb); have n2_ := am (Kd.R_below (rl HO_888002.out) hb); have n3_ := am (Kd.R_below (rl HO_888003.out) hb); have n4_ := am (Kd.R_below (rl HO_912000.out) hb); have n5_ := am (Kd.R_below (rl HO_912001.out) hb); have n6_ := am (Kd.R_below (rl HO_912002.out) hb); have n7_ := am (Kd.R_below (rl HO_912003.out) hb); have n8_ := am (blk_below (g := gb863) (o := .cells #[.slice A0_0 l0_0.length c0_0, .slice A0_1 l0_1.length c0_1, .slice A0_2 l0_2.length c0_2] 38 (0, 0)) (kl BK863.out) hb); have n9_ := am (blk_below (g := gb887) (o := .cells #[.slice Ao22 t874.length co22, .slice Ao25 t877.length co25, .slice Ao26 t880.length co26, .slice Ao27 t883.length co27] 48 (0, 0)) (kl BK887.out) hb); have n10_ := am (blk_below (g := gb911) (o := .cells #[.slice Ao39 t898.length co39, .slice Ao44 t901.length co44, .slice Ao45 t904.length co45, .slice Ao46 t907.length co46] 48 (0, 0)) (kl BK911.out) hb); have n11_ := am (below_step (by repeat (first | (with_reducible first | exact HB.out | apply below_alloc | apply pw_below_drewN | apply below_drew1 | refine below_set ?_ GE863.out | refine below_set ?_ GE887.out | refine below_set ?_ GE911.out) | exact HB.out)) hb); clear HO_888000; clear HO_888001; clear HO_888002; clear HO_888003; clear HO_912000; clear HO_912001; clear HO_912002; clear HO_912003; clear BK863; clear BK887; clear BK911; clear HB; have HO_888000 := n0_; have HO_888001 := n1_; have HO_888002 := n2_; have HO_888003 := n3_; have HO_912000 := n4_; have HO_912001 := n5_; have HO_912002 := n6_; have HO_912003 := n7_; have BK863 := n8_; have BK887 := n9_; have BK911 := n10_; have HB := n11_; clear n0_ n1_ n2_ n3_ n4_ n5_ n6_ n7_ n8_ n9_ n10_ n11_; (try clear hb); (try clear hb2); (try clear hk); (try clear hi); have hnb115 := NB863_887.out; have hnc115 := NB887_863.out; have hcz116_0 : w114.cell? ⟨gb863, 0, none⟩ = some (.slice A0_0 l0_0.length c0_0) := (blk_cell BK863.out 0).trans rfl; have hcz116_1 : w114.cell? ⟨gb863, 1, none⟩ = some (.slice A0_1 l0_1.length c0_1) := (blk_cell BK863.out 1).trans rfl; have hcz116_2 : w114.cell? ⟨gb863, 2, none⟩ = some (.slice A0_2 l0_2.length c0_2) := (blk_cell BK863.out 2).trans rfl; have hfz116_0 := blk_frozen BK863.out 0; have hfz116_1 := blk_frozen BK863.out 1; have hfz116_2 := blk_frozen BK863.out 2) | ((with_reducible refine gate_callee (f := 27) rfl ?_); refine goesL_ (some 75) rfl rfl Try.func27 (by kernel_rfl) rfl #[.agg #[.slice A0_0 l0_0.length c0_0, .slice A0_1 l0_1.length c0_1, .slice A0_2 l0_2.length c0_2]] rfl (by (try simp only [List.map_toArray, List.map_cons, List.map_nil]); first | done | rfl | (simp only [List.length_drop, List.length_take]; rfl)) ?_; (with_reducible refine (laws_toHeap.calls kj69 _ _ l0_0 _ _ l0_1 _ _ l0_2 t934 t937 t940 _ ?side1 ?side2 ?side3 ?side4 ?side5 ?side6 A106.out).mono ?_); (case side1 => exact cl (Kd.C_below HR0_0.out HB.out)); (case side2 => exact HC0_0.out); (case side3 => exact cl (Kd.C_below HR0_1.out HB.out)); (case side4 => exact HC0_1.out); (case side5 => exact cl (Kd.C_below HR0_2.out HB.out)); (case side6 => exact HC0_2.out); rintro e w117 ⟨v935, v938, v941, rfl, ho0, ho1, ho2, hb⟩; refine ⟨_, rfl, ?_⟩; have n0_ := am (Kd.R_mono (Kd.R_told (Kd.R_told (Kd.R_told (Kd.R_old (rl HO_888000.out) hb) (Kd.R_base ho0)) (Kd.R_base ho1)) (Kd.R_base ho2)) (fun _ h_ => h_.1)); have n1_ := am (Kd.R_mono (Kd.R_told (Kd.R_told (Kd.R_told (Kd.R_old (rl HO_888001.out) hb) (Kd.R_base ho0)) (Kd.R_base ho1)) (Kd.R_base ho2)) (fun _ h_ => h_.1)); have n2_ := am (Kd.R_mono (Kd.R_told (Kd.R_told (Kd.R_told (Kd.R_old (rl HO_888002.out) hb) (Kd.R_base ho0)) (Kd.R_base ho1)) (Kd.R_base ho2)) (fun _ h_ => h_.1)); have n3_ := am (Kd.R_mono (Kd.R_told (Kd.R_told (Kd.R_told (Kd.R_old (rl HO_888003.out) hb) (Kd.R_base ho0)) (Kd.R_base ho1)) (Kd.R_base ho2)) (fun _ h_ => h_.1)); have n4_ := am (Kd.R_mono (Kd.R_told (Kd.R_told (Kd.R_told (Kd.R_old (rl HO_912000.out) hb) (Kd.R_base ho0)) (Kd.R_base ho1)) (Kd.R_base ho2)) (fun _ h_ => h_.1)); have n5_ := am (Kd.R_mono (Kd.R_told (Kd.R_told (Kd.R_told (Kd.R_old (rl HO_912001.out) hb) (Kd.R_base ho0)) (Kd.R_base ho1)) (Kd.R_base ho2)) (fun _ h_ => h_.1)); have n6_ := am (Kd.R_mono (Kd.R_told (Kd.R_told (Kd.R_told (Kd.R_old (rl HO_912002.out) hb) (Kd.R_base ho0)) (Kd.R_base ho1)) (Kd.R_base ho2)) (fun _ h_ => h_.1)); have n7_ := am (Kd.R_mono (Kd.R_told (Kd.R_told (Kd.R_told (Kd.R_old (rl HO_912003.out) hb) (Kd.R_base ho0)) (Kd.R_base ho1)) (Kd.R_base ho2)) (fun _ h_ => h_.1)); have n8_ := am (Kd.R_lower (Kd.R_new' (Kd.R_new' (Kd.R_new' (Kd.R_new' (Kd.R_new' (Kd.R_new' (Kd.R_new' (Kd.R_new' ho0 (Kd.R_lt (rl HO_888000.out))) (Kd.R_lt (rl HO_888001.out))) (Kd.R_lt (rl HO_888002.out))) (Kd.R_lt (rl HO_888003.out))) (Kd.R_lt (rl HO_912000.out))) (Kd.R_lt (rl HO_912001.out))) (Kd.R_lt (rl HO_912002.out))) (Kd.R_lt (rl HO_912003.out))) (below_size (by repeat (first | (with_reducible first | exact HB.out | apply below_alloc | apply pw_below_drewN | apply below_drew1 | refine below_set ?_ GE863.out | refine below_set ?_ GE887.out | refine below_set ?_ GE911.out) | exact HB.out)))); have n9_ := am (Kd.R_lower (Kd.R_new' (Kd.R_new' (Kd.R_new' (Kd.R_new' (Kd.R_new' (Kd.R_new' (Kd.R_new' (Kd.R_new' ho1 (Kd.R_lt (rl HO_888000.out))) (Kd.R_lt (rl HO_888001.out))) (Kd.R_lt (rl HO_888002.out))) (Kd.R_lt (rl HO_888003.out))) (Kd.R_lt (rl HO_912000.out))) (Kd.R_lt (rl HO_912001.out))) (Kd.R_lt (rl HO_912002.out))) (Kd.R_lt (rl HO_912003.out))) (below_size (by repeat (first | (with_reducible first | exact HB.out | apply below_alloc | apply pw_below_drewN | apply below_drew1 | refine below_set ?_ GE863.out | refine below_set ?_ GE887.out | refine below_set ?_ GE911.out) | exact HB.out)))); have n10_ := am (Kd.R_lower (Kd.R_new' (Kd.R_new' (Kd.R_new' (Kd.R_new' (Kd.R_new' (Kd.R_new' (Kd.R_new' (Kd.R_new' ho2 (Kd.R_lt (rl HO_888000.out))) (Kd.R_lt (rl HO_888001.out))) (Kd.R_lt (rl HO_888002.out))) (Kd.R_lt (rl HO_888003.out))) (Kd.R_lt (rl HO_912000.out))) (Kd.R_lt (rl HO_912001.out))) (Kd.R_lt (rl HO_912002.out))) (Kd.R_lt (rl HO_912003.out))) (below_size (by repeat (first | (with_reducible first | exact HB.out | apply below_alloc | apply pw_below_drewN | apply below_drew1 | refine below_set ?_ GE863.out | refine below_set ?_ GE887.out | refine below_set ?_ GE911.out) | exact HB.out)))); have n11_ := am (blk_below (g := gb863) (o := .cells #[.slice A0_0 l0_0.length c0_0, .slice A0_1 l0_1.length c0_1, .slice A0_2 l0_2.length c0_2] 38 (0, 0)) (kl BK863.out) hb); have n12_ := am (blk_below (g := gb887) (o := .cells #[.slice Ao22 t874.length co22, .slice Ao25 t877.length co25, .slice Ao26 t880.length co26, .slice Ao27 t883.length co27] 48 (0, 0)) (kl BK887.out) hb); have n13_ := am (blk_below (g := gb911) (o := .cells #[.slice Ao39 t898.length co39, .slice Ao44 t901.length co44, .slice Ao45 t904.length co45, .slice Ao46 t907.length co46] 48 (0, 0)) (kl BK911.out) hb); have n14_ := am (below_step (by repeat (first | (with_reducible first | exact HB.out | apply below_alloc | apply pw_below_drewN | apply below_drew1 | refine below_set ?_ GE863.out | refine below_set ?_ GE887.out | refine below_set ?_ GE911.out) | exact HB.out)) hb); clear HO_888000; clear HO_888001; clear HO_888002; clear HO_888003; clear HO_912000; clear HO_912001; clear HO_912002; clear HO_912003; clear BK863; clear BK887; clear BK911; clear HB; have HO_888000 := n0_; have HO_888001 := n1_; have HO_888002 := n2_; have HO_888003 := n3_; have HO_912000 := n4_; have HO_912001 := n5_; have HO_912002 := n6_; have HO_912003 := n7_; have HO936 := n8_; have HO939 := n9_; have HO942 := n10_; have BK863 := n11_; have BK887 := n12_; have BK911 := n13_; have HB := n14_; clear n0_ n1_ n2_ n3_ n4_ n5_ n6_ n7_ n8_ n9_ n10_ n11_ n12_ n13_ n14_; (try clear hb); (try clear hb2); (try clear hk); (try clear hi); (try clear ho0); (try clear ho1); (try clear ho2); obtain ⟨Ao118, co118, eo118⟩ := Kd.R_slice HO936.out; subst eo118; obtain ⟨Ao119, co119, eo119⟩ := Kd.R_slice HO939.out; subst eo119; obtain ⟨Ao120, co120, eo120⟩ := Kd.R_slice HO942.out; subst eo120) | ((with_reducible refine gate_callee (f := 38) rfl ?_); refine goesL_ (some 76) rfl rfl Try.func38 (by kernel_rfl) rfl #[.agg #[.slice Ao118 t934.length co118, .slice Ao119 t937.length co119, .slice Ao120 t940.length co120]] rfl (by (try simp only [List.map_toArray, List.map_cons, List.map_nil]); first | done | rfl | (simp only [List.length_drop, List.length_take]; rfl)) ?_; (with_reducible refine (impl_NewColored.calls kj69 _ _ t934 _ _ t937 _ _ t940 t943 t946 t949 t952 t955 _ ?side1 ?side2 ?side3 ?side4 ?side5 ?side6 A107.out).mono ?_); (case side1 => repeat (first | exact (Kd.R_reads' HO936.out).2.2 | (with_reducible refine Kd.C_alloc ?_ _) | (with_reducible refine Kd.C_drewN ?_ _) | (with_reducible refine Kd.C_drew ?_))); (case side2 => exact (Kd.R_reads' HO936.out).2.1); (case side3 => repeat (first | exact (Kd.R_reads' HO939.out).2.2 | (with_reducible refine Kd.C_alloc ?_ _) | (with_reducible refine Kd.C_drewN ?_ _) | (with_reducible refine Kd.C_drew ?_))); (case side4 => exact (Kd.R_reads' HO939.out).2.1); (case side5 => repeat (first | exact (Kd.R_reads' HO942.out).2.2 | (with_reducible refine Kd.C_alloc ?_ _) | (with_reducible refine Kd.C_drewN ?_ _) | (with_reducible refine Kd.C_drew ?_))); (case side6 => exact (Kd.R_reads' HO942.out).2.1); rintro e w121 ⟨v944, v947, v950, v953, rfl, ho0, ho1, ho2, ho3, hb⟩; refine ⟨_, rfl, ?_⟩; have n0_ := am (Kd.R_mono (Kd.R_told (Kd.R_told (Kd.R_told (Kd.R_told (Kd.R_old (rl HO_888000.out) hb) (Kd.R_base ho0)) (Kd.R_base ho1)) (Kd.R_base ho2)) (Kd.R_base ho3)) (fun _ h_ => h_.1)); have n1_ := am (Kd.R_mono (Kd.R_told (Kd.R_told (Kd.R_told (Kd.R_told (Kd.R_old (rl HO_888001.out) hb) (Kd.R_base ho0)) (Kd.R_base ho1)) (Kd.R_base ho2)) (Kd.R_base ho3)) (fun _ h_ => h_.1)); have n2_ := am (Kd.R_mono (Kd.R_told (Kd.R_told (Kd.R_told (Kd.R_told (Kd.R_old (rl HO_888002.out) hb) (Kd.R_base ho0)) (Kd.R_base ho1)) (Kd.R_base ho2)) (Kd.R_base ho3)) (fun _ h_ => h_.1)); have n3_ := am (Kd.R_mono (Kd.R_told (Kd.R_told (Kd.R_told (Kd.R_told (Kd.R_old (rl HO_888003.out) hb) (Kd.R_base ho0)) (Kd.R_base ho1)) (Kd.R_base ho2)) (Kd.R_base ho3)) (fun _ h_ => h_.1)); have n4_ := am (Kd.R_mono (Kd.R_told (Kd.R_told (Kd.R_told (Kd.R_told (Kd.R_old (rl HO_912000.out) hb) (Kd.R_base ho0)) (Kd.R_base ho1)) (Kd.R_base ho2)) (Kd.R_base ho3)) (fun _ h_ => h_.1)); have n5_ := am (Kd.R_mono (Kd.R_told (Kd.R_told (Kd.R_told (Kd.R_told (Kd.R_old (rl HO_912001.out) hb) (Kd.R_base ho0)) (Kd.R_base ho1)) (Kd.R_base ho2)) (Kd.R_base ho3)) (fun _ h_ => h_.1)); have n6_ := am (Kd.R_mono (Kd.R_told (Kd.R_told (Kd.R_told (Kd.R_told (Kd.R_old (rl HO_912002.out) hb) (Kd.R_base ho0)) (Kd.R_base ho1)) (Kd.R_base ho2)) (Kd.R_base ho3)) (fun _ h_ => h_.1)); have n7_ := am (Kd.R_mono (Kd.R_told (Kd.R_told (Kd.R_told (Kd.R_told (Kd.R_old (rl HO_912003.out) hb) (Kd.R_base ho0)) (Kd.R_base ho1)) (Kd.R_base ho2)) (Kd.R_base ho3)) (fun _ h_ => h_.1)); have n8_ := am (Kd.R_mono (Kd.R_told (Kd.R_told (Kd.R_told (Kd.R_told (Kd.R_old (rl HO936.out) hb) (Kd.R_base ho0)) (Kd.R_base ho1)) (Kd.R_base ho2)) (Kd.R_base ho3)) (fun _ h_ => h_.1)); have n9_ := am (Kd.R_mono (Kd.R_told (Kd.R_told (Kd.R_told (Kd.R_told (Kd.R_old (rl HO939.out) hb) (Kd.R_base ho0)) (Kd.R_base ho1)) (Kd.R_base ho2)) (Kd.R_base ho3)) (fun _ h_ => h_.1)); have n10_ := am (Kd.R_mono (Kd.R_told (Kd.R_told (Kd.R_told (Kd.R_told (Kd.R_old (rl HO942.out) hb) (Kd.R_base ho0)) (Kd.R_base ho1)) (Kd.R_base ho2)) (Kd.R_base ho3)) (fun _ h_ => h_.1)); have n11_ := am (Kd.R_lower (Kd.R_new' (Kd.R_new' (Kd.R_new' (Kd.R_new' (Kd.R_new' (Kd.R_new' (Kd.R_new' (Kd.R_new' (Kd.R_new' (Kd.R_new' (Kd.R_new' ho0 (Kd.R_lt (rl HO_888000.out))) (Kd.R_lt (rl HO_888001.out))) (Kd.R_lt (rl HO_888002.out))) (Kd.R_lt (rl HO_888003.out))) (Kd.R_lt (rl HO_912000.out))) (Kd.R_lt (rl HO_912001.out))) (Kd.R_lt (rl HO_912002.out))) (Kd.R_lt (rl HO_912003.out))) (Kd.R_lt (rl HO936.out))) (Kd.R_lt (rl HO939.out))) (Kd.R_lt (rl HO942.out))) (below_size (by repeat (first | (with_reducible first | exact HB.out | apply below_alloc | apply pw_below_drewN | apply below_drew1 | refine below_set ?_ GE863.out | refine below_set ?_ GE887.out | refine below_set ?_ GE911.out) | exact HB.out)))); have n12_ := am (Kd.R_lower (Kd.R_new' (Kd.R_new' (Kd.R_new' (Kd.R_new' (Kd.R_new' (Kd.R_new' (Kd.R_new' (Kd.R_new' (Kd.R_new' (Kd.R_new' (Kd.R_new' ho1 (Kd.R_lt (rl HO_888000.out))) (Kd.R_lt (rl HO_888001.out))) (Kd.R_lt (rl HO_888002.out))) (Kd.R_lt (rl HO_888003.out))) (Kd.R_lt (rl HO_912000.out))) (Kd.R_lt (rl HO_912001.out))) (Kd.R_lt (rl HO_912002.out))) (Kd.R_lt (rl HO_912003.out))) (Kd.R_lt (rl HO936.out))) (Kd.R_lt (rl HO939.out))) (Kd.R_lt (rl HO942.out))) (below_size (by repeat (first | (with_reducible first | exact HB.out | apply below_alloc | apply pw_below_drewN | apply below_drew1 | refine below_set ?_ GE863.out | refine below_set ?_ GE887.out | refine below_set ?_ GE911.out) | exact HB.out)))); have n13_ := am (Kd.R_lower (Kd.R_new' (Kd.R_new' (Kd.R_new' (Kd.R_new' (Kd.R_new' (Kd.R_new' (Kd.R_new' (Kd.R_new' (Kd.R_new' (Kd.R_new' (Kd.R_new' ho2 (Kd.R_lt (rl HO_888000.out))) (Kd.R_lt (rl HO_888001.out))) (Kd.R_lt (rl HO_888002.out))) (Kd.R_lt (rl HO_888003.out))) (Kd.R_lt (rl HO_912000.out))) (Kd.R_lt (rl HO_912001.out))) (Kd.R_lt (rl HO_912002.out))) (Kd.R_lt (rl HO_912003.out))) (Kd.R_lt (rl HO936.out))) (Kd.R_lt (rl HO939.out))) (Kd.R_lt (rl HO942.out))) (below_size (by repeat (first | (with_reducible first | exact HB.out | apply below_alloc | apply pw_below_drewN | apply below_drew1 | refine below_set ?_ GE863.out | refine below_set ?_ GE887.out | refine below_set ?_ GE911.out) | exact HB.out)))); have n14_ := am (Kd.R_lower (Kd.R_new' (Kd.R_new' (Kd.R_new' (Kd.R_new' (Kd.R_new' (Kd.R_new' (Kd.R_new' (Kd.R_new' (Kd.R_new' (Kd.R_new' (Kd.R_new' ho3 (Kd.R_lt (rl HO_888000.out))) (Kd.R_lt (rl HO_888001.out))) (Kd.R_lt (rl HO_888002.out))) (Kd.R_lt (rl HO_888003.out))) (Kd.R_lt (rl HO_912000.out))) (Kd.R_lt (rl HO_912001.out))) (Kd.R_lt (rl HO_912002.out))) (Kd.R_lt (rl HO_912003.out))) (Kd.R_lt (rl HO936.out))) (Kd.R_lt (rl HO939.out))) (Kd.R_lt (rl HO942.out))) (below_size (by repeat (first | (with_reducible first | exact HB.out | apply below_alloc | apply pw_below_drewN | apply below_drew1 | refine below_set ?_ GE863.out | refine below_set ?_ GE887.out | refine below_set ?_ GE911.out) | exact HB.out)))); have n15_ := am (blk_below (g := gb863) (o := .cells #[.slice A0_0 l0_0.length c0_0, .slice A0_1 l0_1.length c0_1, .slice A0_2 l0_2.length c0_2] 38 (0, 0)) (kl BK863.out) hb); have n16_ := am (blk_below (g := gb887) (o := .cells #[.slice Ao22 t874.length co22, .slice Ao25 t877.length co25, .slice Ao26 t880.length co26, .slice Ao27 t883.length co27] 48 (0, 0)) (kl BK887.out) hb); have n17_ := am (blk_below (g := gb911) (o := .cells #[.slice Ao39 t898.length co39, .slice Ao44 t901.length co44, .slice Ao45 t904.length co45, .slice Ao46 t907.length co46] 48 (0, 0)) (kl BK911.out) hb); have n18_ := am (below_step (by repeat (first | (with_reducible first | exact HB.out | apply below_alloc | apply pw_below_drewN | apply below_drew1 | refine below_set ?_ GE863.out | refine below_set ?_ GE887.out | refine below_set ?_ GE911.out) | exact HB.out)) hb); clear HO_888000; clear HO_888001; clear HO_888002; clear HO_888003; clear HO_912000; clear HO_912001; clear HO_912002; clear HO_912003; clear HO936; clear HO939; clear HO942; clear BK863; clear BK887; clear BK911; clear HB; have HO_888000 := n0_; have HO_888001 := n1_; have HO_888002 := n2_; have HO_888003 := n3_; have HO_912000 := n4_; have HO_912001 := n5_; have HO_912002 := n6_; have HO_912003 := n7_; have HO936 := n8_; have HO939 := n9_; have HO942 := n10_; have HO945 := n11_; have HO948 := n12_; have HO951 := n13_; have HO954 := n14_; have BK863 := n15_; have BK887 := n16_; have BK911 := n17_; have HB := n18_; clear n0_ n1_ n2_ n3_ n4_ n5_ n6_ n7_ n8_ n9_ n10_ n11_ n12_ n13_ n14_ n15_ n16_ n17_ n18_; (try clear hb); (try clear hb2); (try clear hk); (try clear hi); (try clear ho0); (try clear ho1); (try clear ho2); (try clear ho3)) | ((with_reducible refine gate_dst (N := 12) rfl ?_); refine box_event ?hg (N := 12) ?hd (cs := #[.slice none 0 0, .slice none 0 0, .slice none 0 0, .slice none 0 0]) (t := 48) ?hr ?_; (case hd => rfl); (case hg => rfl); (case hr => first | (go_simp; done) | (go_simp; rfl)); intro gb956 hg w122 hbox hb; have n0_ := am (Kd.R_below (rl HO_888000.out) hb); have n1_ := am (Kd.R_below (rl HO_888001.out) hb); have n2_ := am (Kd.R_below (rl HO_888002.out) hb); have n3_ := am (Kd.R_below (rl HO_888003.out) hb); have n4_ := am (Kd.R_below (rl HO_912000.out) hb); have n5_ := am (Kd.R_below (rl HO_912001.out) hb); have n6_ := am (Kd.R_below (rl HO_912002.out) hb); have n7_ := am (Kd.R_below (rl HO_912003.out) hb); have n8_ := am (Kd.R_below (rl HO936.out) hb); have n9_ := am (Kd.R_below (rl HO939.out) hb); have n10_ := am (Kd.R_below (rl HO942.out) hb); have n11_ := am (Kd.R_below (rl HO945.out) hb); have n12_ := am (Kd.R_below (rl HO948.out) hb); have n13_ := am (Kd.R_below (rl HO951.out) hb); have n14_ := am (Kd.R_below (rl HO954.out) hb); have n15_ := am (blk_below (g := gb863) (o := .cells #[.slice A0_0 l0_0.length c0_0, .slice A0_1 l0_1.length c0_1, .slice A0_2 l0_2.length c0_2] 38 (0, 0)) (kl BK863.out) hb); have n16_ := am (blk_below (g := gb887) (o := .cells #[.slice Ao22 t874.length co22, .slice Ao25 t877.length co25, .slice Ao26 t880.length co26, .slice Ao27 t883.length co27] 48 (0, 0)) (kl BK887.out) hb); have n17_ := am (blk_below (g := gb911) (o := .cells #[.slice Ao39 t898.length co39, .slice Ao44 t901.length co44, .slice Ao45 t904.length co45, .slice Ao46 t907.length co46] 48 (0, 0)) (kl BK911.out) hb); have n18_ := am (below_step (by repeat (first | (with_reducible first | exact HB.out | apply below_alloc | apply pw_below_drewN | apply below_drew1 | refine below_set ?_ GE863.out | refine below_set ?_ GE887.out | refine below_set ?_ GE911.out) | exact HB.out)) hb); have n19_ := am (hbox); have n20_ := am ((by rw [hg]; exact (below_size (by repeat (first | (with_reducible first | exact HB.out | apply below_alloc | apply pw_below_drewN | apply below_drew1 | refine below_set ?_ GE863.out | refine below_set ?_ GE887.out | refine below_set ?_ GE911.out) | exact HB.out))) : w.heap.size ≤ gb956)); have n21_ := am ((by rw [hg]; exact (below_size (by repeat (first | (with_reducible first | exact HB.out | apply below_alloc | apply pw_below_drewN | apply below_drew1 | refine below_set ?_ GE863.out | refine below_set ?_ GE887.out | refine below_set ?_ GE911.out) | exact HB.out))) : w.heap.size ≤ gb956)); have n22_ := am ((by rw [hg]; exact Nat.ne_of_lt (blk_lt (g := gb863) (o := .cells #[.slice A0_0 l0_0.length c0_0, .slice A0_1 l0_1.length c0_1, .slice A0_2 l0_2.length c0_2] 38 (0, 0)) (kl BK863.out)) : gb863 ≠ gb956)); have n23_ := am ((by rw [hg]; exact Nat.ne_of_gt (blk_lt (g := gb863) (o := .cells #[.slice A0_0 l0_0.length c0_0, .slice A0_1 l0_1.length c0_1, .slice A0_2 l0_2.length c0_2] 38 (0, 0)) (kl BK863.out)) : gb956 ≠ gb863)); have n24_ := am ((by rw [hg]; exact Nat.ne_of_lt (blk_lt (g := gb887) (o := .cells #[.slice Ao22 t874.length co22, .slice Ao25 t877.length co25, .slice Ao26 t880.length co26, .slice Ao27 t883.length co27] 48 (0, 0)) (kl BK887.out)) : gb887 ≠ gb956)); have n25_ := am ((by rw [hg]; exact Nat.ne_of_gt (blk_lt (g := gb887) (o := .cells #[.slice Ao22 t874.length co22, .slice Ao25 t877.length co25, .slice Ao26 t880.length co26, .slice Ao27 t883.length co27] 48 (0, 0)) (kl BK887.out)) : gb956 ≠ gb887)); have n26_ := am ((by rw [hg]; exact Nat.ne_of_lt (blk_lt (g := gb911) (o := .cells #[.slice Ao39 t898.length co39, .slice Ao44 t901.length co44, .slice Ao45 t904.length co45, .slice Ao46 t907.length co46] 48 (0, 0)) (kl BK911.out)) : gb911 ≠ gb956)); have n27_ := am ((by rw [hg]; exact Nat.ne_of_gt (blk_lt (g := gb911) (o := .cells #[.slice Ao39 t898.length co39, .slice Ao44 t901.length co44, .slice Ao45 t904.length co45, .slice Ao46 t907.length co46] 48 (0, 0)) (kl BK911.out)) : gb956 ≠ gb911)); clear HO_888000; clear HO_888001; clear HO_888002; clear HO_888003; clear HO_912000; clear HO_912001; clear HO_912002; clear HO_912003; clear HO936; clear HO939; clear HO942; clear HO945; clear HO948; clear HO951; clear HO954; clear BK863; clear BK887; clear BK911; clear HB; have HO_888000 := n0_; have HO_888001 := n1_; have HO_888002 := n2_; have HO_888003 := n3_; have HO_912000 := n4_; have HO_912001 := n5_; have HO_912002 := n6_; have HO_912003 := n7_; have HO936 := n8_; have HO939 := n9_; have HO942 := n10_; have HO945 := n11_; have HO948 := n12_; have HO951 := n13_; have HO954 := n14_; have BK863 := n15_; have BK887 := n16_; have BK911 := n17_; have HB := n18_; have BK956 := n19_; have GW956 := n20_; have GE956 := n21_; have NB863_956 := n22_; have NB956_863 := n23_; have NB887_956 := n24_; have NB956_887 := n25_; have NB911_956 := n26_; have NB956_911 := n27_; clear n0_ n1_ n2_ n3_ n4_ n5_ n6_ n7_ n8_ n9_ n10_ n11_ n12_ n13_ n14_ n15_ n16_ n17_ n18_ n19_ n20_ n21_ n22_ n23_ n24_ n25_ n26_ n27_; clear hb hbox hg; obtain ⟨Ao123, co123, eo123⟩ := Kd.R_slice HO945.out; subst eo123; have hnb124 := NB956_863.out; have hnc124 := NB863_956.out; have hnb125 := NB956_887.out; have hnc125 := NB887_956.out; have hnb126 := NB956_911.out; have hnc126 := NB911_956.out; have hcz127_0 : w122.cell? ⟨gb956, 0, none⟩ = some (.slice none 0 0) := (blk_cell BK956.out 0).trans rfl; have hcz127_1 : w122.cell? ⟨gb956, 1, none⟩ = some (.slice none 0 0) := (blk_cell BK956.out 1).trans rfl; have hcz127_2 : w122.cell? ⟨gb956, 2, none⟩ = some (.slice none 0 0) := (blk_cell BK956.out 2).trans rfl; have hcz127_3 : w122.cell? ⟨gb956, 3, none⟩ = some (.slice none 0 0) := (blk_cell BK956.out 3).trans rfl; have hfz127_0 := blk_frozen BK956.out 0; have hfz127_1 := blk_frozen BK956.out 1; have hfz127_2 := blk_frozen BK956.out 2; have hfz127_3 := blk_frozen BK956.out 3; obtain ⟨Ao128, co128, eo128⟩ := Kd.R_slice HO948.out; subst eo128; obtain ⟨Ao129, co129, eo129⟩ := Kd.R_slice HO951.out; subst eo129; obtain ⟨Ao130, co130, eo130⟩ := Kd.R_slice HO954.out; subst eo130))
                      (try simp only [Act.put, List.setIfInBounds_toArray, List.set_cons_zero, List.set_cons_succ])
                      go_cut [87] (fun v87 wc => ∃ (kq : Nat) (x87_107 : Bool), v87 = .bool x87_107 ∧ Aside0 (laws_FnExactNewColored.j2 kq t928 x87_107 t929 t930 t931 t932 = some r) ∧ Aside0 (kq ≤ kj69) ∧ Aside0 (Kd.R (Kd.int .i64) 3 wc w.heap.size (fun k_ => some k_ ≠ ((.slice Ao44 t901.length co44) : Value).ownBlock ∧ some k_ ≠ ((.slice Ao45 t904.length co45) : Value).ownBlock ∧ some k_ ≠ ((.slice Ao46 t907.length co46) : Value).ownBlock) (.slice Ao39 t898.length co39) t929) ∧ Aside0 (Kd.R (Kd.int .i64) 3 wc w.heap.size (fun k_ => some k_ ≠ ((.slice Ao39 t898.length co39) : Value).ownBlock ∧ some k_ ≠ ((.slice Ao45 t904.length co45) : Value).ownBlock ∧ some k_ ≠ ((.slice Ao46 t907.length co46) : Value).ownBlock) (.slice Ao44 t901.length co44) t930) ∧ Aside0 (Kd.R (Kd.int .i64) 3 wc w.heap.size (fun k_ => some k_ ≠ ((.slice Ao39 t898.length co39) : Value).ownBlock ∧ some k_ ≠ ((.slice Ao44 t901.length co44) : Value).ownBlock ∧ some k_ ≠ ((.slice Ao46 t907.length co46) : Value).ownBlock) (.slice Ao45 t904.length co45) t931) ∧ Aside0 (Kd.R (Kd.int .i64) 3 wc w.heap.size (fun k_ => some k_ ≠ ((.slice Ao39 t898.length co39) : Value).ownBlock ∧ some k_ ≠ ((.slice Ao44 t901.length co44) : Value).ownBlock ∧ some k_ ≠ ((.slice Ao45 t904.length co45) : Value).ownBlock) (.slice Ao46 t907.length co46) t932) ∧ Aside0 (wc.heap[gb911]? = some (.cells #[(.slice Ao39 t898.length co39), (.slice Ao44 t901.length co44), (.slice Ao45 t904.length co45), (.slice Ao46 t907.length co46)] 48 (0, 0))) ∧ Aside0 (Below w.heap.size w wc))
                      case first =>
                        have H := HC108.out
                        clear HC108
                        replace H := Option.bind_eq_some_iff.mp H
                        obtain ⟨t957, A1310, H⟩ := H
                        replace H : (if t957 = true then (laws_FnExactNewColored.j2 kj69 t928 (t955 != t886) t929 t930 t931 t932) else (laws_FnExactNewColored.j2 kj69 t928 true t929 t930 t931 t932)) = some r := H
                        have A131 := am A1310
                        clear A1310
                        by_cases c132 : t957 = true
                        · subst c132
                          have H1 : (laws_FnExactNewColored.j2 kj69 t928 (t955 != t886) t929 t930 t931 t932) = some r := by rw [if_pos rfl] at H; exact H
                          clear H
                          have H := H1
                          clear H1
                          have H' := am H
                          clear H
                          have hnb133 := NB956_863.out
                          have hnc133 := NB863_956.out
                          have hnb134 := NB956_887.out
                          have hnc134 := NB887_956.out
                          have hnb135 := NB956_911.out
                          have hnc135 := NB911_956.out
                          have hcz136_0 : w122.cell? ⟨gb956, 0, none⟩ = some (.slice none 0 0) := (blk_cell BK956.out 0).trans rfl
                          have hcz136_1 : w122.cell? ⟨gb956, 1, none⟩ = some (.slice none 0 0) := (blk_cell BK956.out 1).trans rfl
                          have hcz136_2 : w122.cell? ⟨gb956, 2, none⟩ = some (.slice none 0 0) := (blk_cell BK956.out 2).trans rfl
                          have hcz136_3 : w122.cell? ⟨gb956, 3, none⟩ = some (.slice none 0 0) := (blk_cell BK956.out 3).trans rfl
                          have hfz136_0 := blk_frozen BK956.out 0
                          have hfz136_1 := blk_frozen BK956.out 1
                          have hfz136_2 := blk_frozen BK956.out 2
                          have hfz136_3 := blk_frozen BK956.out 3
                          have hnb137 := NB887_863.out
                          have hnc137 := NB863_887.out
                          have hnb138 := NB887_911.out
                          have hnc138 := NB911_887.out
                          have hcz139_0 : w122.cell? ⟨gb887, 0, none⟩ = some (.slice Ao22 t874.length co22) := (blk_cell BK887.out 0).trans rfl
                          have hcz139_1 : w122.cell? ⟨gb887, 1, none⟩ = some (.slice Ao25 t877.length co25) := (blk_cell BK887.out 1).trans rfl
                          have hcz139_2 : w122.cell? ⟨gb887, 2, none⟩ = some (.slice Ao26 t880.length co26) := (blk_cell BK887.out 2).trans rfl
                          have hcz139_3 : w122.cell? ⟨gb887, 3, none⟩ = some (.slice Ao27 t883.length co27) := (blk_cell BK887.out 3).trans rfl
                          have hfz139_0 := blk_frozen BK887.out 0
                          have hfz139_1 := blk_frozen BK887.out 1
                          have hfz139_2 := blk_frozen BK887.out 2
                          have hfz139_3 := blk_frozen BK887.out 3
                          go_wp2_with (first | ((with_reducible refine gate_callee (f := 39) rfl ?_); refine goesL_ (some 81) rfl rfl Try.func39 (by kernel_rfl) rfl #[.agg #[.slice Ao123 t943.length co123, .slice Ao128 t946.length co128, .slice Ao129 t949.length co129, .slice Ao130 t952.length co130], .agg #[.slice Ao22 t874.length co22, .slice Ao25 t877.length co25, .slice Ao26 t880.length co26, .slice Ao27 t883.length co27]] rfl (by (try simp only [List.map_toArray, List.map_cons, List.map_nil]); first | done | rfl | (simp only [List.length_drop, List.length_take]; rfl)) ?_; (with_reducible refine (laws_eqColored.calls kj69 _ _ t943 _ _ t946 _ _ t949 _ _ t952 _ _ t874 _ _ t877 _ _ t880 _ _ t883 true _ ?side1 ?side2 ?side3 ?side4 ?side5 ?side6 ?side7 ?side8 ?side9 ?side10 ?side11 ?side12 ?side13 ?side14 ?side15 ?side16 A131.out).mono ?_); (case side1 => exact (Kd.R_reads' (rl ((far4 HO945.out BK956.out (by decide) (.slice Ao123 t943.length co123) (.slice Ao128 t946.length co128) (.slice Ao129 t949.length co129) (.slice Ao130 t952.length co130))))).2.2); (case side2 => exact (Kd.R_reads' HO945.out).2.1); (case side3 => exact (Kd.R_reads' (rl ((far4 HO948.out BK956.out (by decide) (.slice Ao123 t943.length co123) (.slice Ao128 t946.length co128) (.slice Ao129 t949.length co129) (.slice Ao130 t952.length co130))))).2.2); (case side4 => exact (Kd.R_reads' HO948.out).2.1); (case side5 => exact (Kd.R_reads' (rl ((far4 HO951.out BK956.out (by decide) (.slice Ao123 t943.length co123) (.slice Ao128 t946.length co128) (.slice Ao129 t949.length co129) (.slice Ao130 t952.length co130))))).2.2); (case side6 => exact (Kd.R_reads' HO951.out).2.1); (case side7 => exact (Kd.R_reads' (rl ((far4 HO954.out BK956.out (by decide) (.slice Ao123 t943.length co123) (.slice Ao128 t946.length co128) (.slice Ao129 t949.length co129) (.slice Ao130 t952.length co130))))).2.2); (case side8 => exact (Kd.R_reads' HO954.out).2.1); (case side9 => exact (Kd.R_reads' (rl ((far4 HO_888000.out BK956.out (by decide) (.slice Ao123 t943.length co123) (.slice Ao128 t946.length co128) (.slice Ao129 t949.length co129) (.slice Ao130 t952.length co130))))).2.2); (case side10 => exact (Kd.R_reads' HO_888000.out).2.1); (case side11 => exact (Kd.R_reads' (rl ((far4 HO_888001.out BK956.out (by decide) (.slice Ao123 t943.length co123) (.slice Ao128 t946.length co128) (.slice Ao129 t949.length co129) (.slice Ao130 t952.length co130))))).2.2); (case side12 => exact (Kd.R_reads' HO_888001.out).2.1); (case side13 => exact (Kd.R_reads' (rl ((far4 HO_888002.out BK956.out (by decide) (.slice Ao123 t943.length co123) (.slice Ao128 t946.length co128) (.slice Ao129 t949.length co129) (.slice Ao130 t952.length co130))))).2.2); (case side14 => exact (Kd.R_reads' HO_888002.out).2.1); (case side15 => exact (Kd.R_reads' (rl ((far4 HO_888003.out BK956.out (by decide) (.slice Ao123 t943.length co123) (.slice Ao128 t946.length co128) (.slice Ao129 t949.length co129) (.slice Ao130 t952.length co130))))).2.2); (case side16 => exact (Kd.R_reads' HO_888003.out).2.1); rintro e w140 ⟨rfl, hb⟩; refine ⟨_, rfl, ?_⟩; have n0_ := am (Kd.R_below (rl ((far4 HO_888000.out BK956.out (by decide) (.slice Ao123 t943.length co123) (.slice Ao128 t946.length co128) (.slice Ao129 t949.length co129) (.slice Ao130 t952.length co130)))) hb); have n1_ := am (Kd.R_below (rl ((far4 HO_888001.out BK956.out (by decide) (.slice Ao123 t943.length co123) (.slice Ao128 t946.length co128) (.slice Ao129 t949.length co129) (.slice Ao130 t952.length co130)))) hb); have n2_ := am (Kd.R_below (rl ((far4 HO_888002.out BK956.out (by decide) (.slice Ao123 t943.length co123) (.slice Ao128 t946.length co128) (.slice Ao129 t949.length co129) (.slice Ao130 t952.length co130)))) hb); have n3_ := am (Kd.R_below (rl ((far4 HO_888003.out BK956.out (by decide) (.slice Ao123 t943.length co123) (.slice Ao128 t946.length co128) (.slice Ao129 t949.length co129) (.slice Ao130 t952.length co130)))) hb); have n4_ := am (Kd.R_below (rl ((far4 HO_912000.out BK956.out (by decide) (.slice Ao123 t943.length co123) (.slice Ao128 t946.length co128) (.slice Ao129 t949.length co129) (.slice Ao130 t952.length co130)))) hb); have n5_ := am (Kd.R_below (rl ((far4 HO_912001.out BK956.out (by decide) (.slice Ao123 t943.length co123) (.slice Ao128 t946.length co128) (.slice Ao129 t949.length co129) (.slice Ao130 t952.length co130)))) hb); have n6_ := am (Kd.R_below (rl ((far4 HO_912002.out BK956.out (by decide) (.slice Ao123 t943.length co123) (.slice Ao128 t946.length co128) (.slice Ao129 t949.length co129) (.slice Ao130 t952.length co130)))) hb); have n7_ := am (Kd.R_below (rl ((far4 HO_912003.out BK956.out (by decide) (.slice Ao123 t943.length co123) (.slice Ao128 t946.length co128) (.slice Ao129 t949.length co129) (.slice Ao130 t952.length co130)))) hb); have n8_ := am (Kd.R_below (rl ((far4 HO936.out BK956.out (by decide) (.slice Ao123 t943.length co123) (.slice Ao128 t946.length co128) (.slice Ao129 t949.length co129) (.slice Ao130 t952.length co130)))) hb); have n9_ := am (Kd.R_below (rl ((far4 HO939.out BK956.out (by decide) (.slice Ao123 t943.length co123) (.slice Ao128 t946.length co128) (.slice Ao129 t949.length co129) (.slice Ao130 t952.length co130)))) hb); have n10_ := am (Kd.R_below (rl ((far4 HO942.out BK956.out (by decide) (.slice Ao123 t943.length co123) (.slice Ao128 t946.length co128) (.slice Ao129 t949.length co129) (.slice Ao130 t952.length co130)))) hb); have n11_ := am (Kd.R_below (rl ((far4 HO945.out BK956.out (by decide) (.slice Ao123 t943.length co123) (.slice Ao128 t946.length co128) (.slice Ao129 t949.length co129) (.slice Ao130 t952.length co130)))) hb); have n12_ := am (Kd.R_below (rl ((far4 HO948.out BK956.out (by decide) (.slice Ao123 t943.length co123) (.slice Ao128 t946.length co128) (.slice Ao129 t949.length co129) (.slice Ao130 t952.length co130)))) hb); have n13_ := am (Kd.R_below (rl ((far4 HO951.out BK956.out (by decide) (.slice Ao123 t943.length co123) (.slice Ao128 t946.length co128) (.slice Ao129 t949.length co129) (.slice Ao130 t952.length co130)))) hb); have n14_ := am (Kd.R_below (rl ((far4 HO954.out BK956.out (by decide) (.slice Ao123 t943.length co123) (.slice Ao128 t946.length co128) (.slice Ao129 t949.length co129) (.slice Ao130 t952.length co130)))) hb); have n15_ := am (blk_below (g := gb863) (o := .cells #[.slice A0_0 l0_0.length c0_0, .slice A0_1 l0_1.length c0_1, .slice A0_2 l0_2.length c0_2] 38 (0, 0)) (by (with_reducible repeat (first | refine blk_drewN ?_ _ | refine blk_drew ?_ | refine blk_alloc ?_ _)); refine blk_far ?_ NB863_956.out _; (with_reducible repeat (first | refine blk_drewN ?_ _ | refine blk_drew ?_ | refine blk_alloc ?_ _)); refine blk_far ?_ NB863_956.out _; (with_reducible repeat (first | refine blk_drewN ?_ _ | refine blk_drew ?_ | refine blk_alloc ?_ _)); refine blk_far ?_ NB863_956.out _; (with_reducible repeat (first | refine blk_drewN ?_ _ | refine blk_drew ?_ | refine blk_alloc ?_ _)); refine blk_far ?_ NB863_956.out _; (with_reducible repeat (first | refine blk_drewN ?_ _ | refine blk_drew ?_ | refine blk_alloc ?_ _)); exact BK863.out) hb); have n16_ := am (blk_below (g := gb887) (o := .cells #[.slice Ao22 t874.length co22, .slice Ao25 t877.length co25, .slice Ao26 t880.length co26, .slice Ao27 t883.length co27] 48 (0, 0)) (by (with_reducible repeat (first | refine blk_drewN ?_ _ | refine blk_drew ?_ | refine blk_alloc ?_ _)); refine blk_far ?_ NB887_956.out _; (with_reducible repeat (first | refine blk_drewN ?_ _ | refine blk_drew ?_ | refine blk_alloc ?_ _)); refine blk_far ?_ NB887_956.out _; (with_reducible repeat (first | refine blk_drewN ?_ _ | refine blk_drew ?_ | refine blk_alloc ?_ _)); refine blk_far ?_ NB887_956.out _; (with_reducible repeat (first | refine blk_drewN ?_ _ | refine blk_drew ?_ | refine blk_alloc ?_ _)); refine blk_far ?_ NB887_956.out _; (with_reducible repeat (first | refine blk_drewN ?_ _ | refine blk_drew ?_ | refine blk_alloc ?_ _)); exact BK887.out) hb); have n17_ := am (blk_below (g := gb911) (o := .cells #[.slice Ao39 t898.length co39, .slice Ao44 t901.length co44, .slice Ao45 t904.length co45, .slice Ao46 t907.length co46] 48 (0, 0)) (by (with_reducible repeat (first | refine blk_drewN ?_ _ | refine blk_drew ?_ | refine blk_alloc ?_ _)); refine blk_far ?_ NB911_956.out _; (with_reducible repeat (first | refine blk_drewN ?_ _ | refine blk_drew ?_ | refine blk_alloc ?_ _)); refine blk_far ?_ NB911_956.out _; (with_reducible repeat (first | refine blk_drewN ?_ _ | refine blk_drew ?_ | refine blk_alloc ?_ _)); refine blk_far ?_ NB911_956.out _; (with_reducible repeat (first | refine blk_drewN ?_ _ | refine blk_drew ?_ | refine blk_alloc ?_ _)); refine blk_far ?_ NB911_956.out _; (with_reducible repeat (first | refine blk_drewN ?_ _ | refine blk_drew ?_ | refine blk_alloc ?_ _)); exact BK911.out) hb); have n18_ := am (blk_below (g := gb956) (o := .cells #[.slice Ao123 t943.length co123, .slice Ao128 t946.length co128, .slice Ao129 t949.length co129, .slice Ao130 t952.length co130] 48 (0, 0)) (by (with_reducible repeat (first | refine blk_drewN ?_ _ | refine blk_drew ?_ | refine blk_alloc ?_ _)); refine blk_put (cs := #[.slice Ao123 t943.length co123, .slice Ao128 t946.length co128, .slice Ao129 t949.length co129, .slice none 0 0]) ?_ 3 _ rfl; (with_reducible repeat (first | refine blk_drewN ?_ _ | refine blk_drew ?_ | refine blk_alloc ?_ _)); refine blk_put (cs := #[.slice Ao123 t943.length co123, .slice Ao128 t946.length co128, .slice none 0 0, .slice none 0 0]) ?_ 2 _ rfl; (with_reducible repeat (first | refine blk_drewN ?_ _ | refine blk_drew ?_ | refine blk_alloc ?_ _)); refine blk_put (cs := #[.slice Ao123 t943.length co123, .slice none 0 0, .slice none 0 0, .slice none 0 0]) ?_ 1 _ rfl; (with_reducible repeat (first | refine blk_drewN ?_ _ | refine blk_drew ?_ | refine blk_alloc ?_ _)); refine blk_put (cs := #[.slice none 0 0, .slice none 0 0, .slice none 0 0, .slice none 0 0]) ?_ 0 _ rfl; (with_reducible repeat (first | refine blk_drewN ?_ _ | refine blk_drew ?_ | refine blk_alloc ?_ _)); exact BK956.out) hb); have n19_ := am (below_step (by repeat (first | (with_reducible first | exact HB.out | apply below_alloc | apply pw_below_drewN | apply below_drew1 | refine below_set ?_ GE863.out | refine below_set ?_ GE887.out | refine below_set ?_ GE911.out | refine below_set ?_ GE956.out) | exact HB.out)) hb); clear HO_888000; clear HO_888001; clear HO_888002; clear HO_888003; clear HO_912000; clear HO_912001; clear HO_912002; clear HO_912003; clear HO936; clear HO939; clear HO942; clear HO945; clear HO948; clear HO951; clear HO954; clear BK863; clear BK887; clear BK911; clear BK956; clear HB; have HO_888000 := n0_; have HO_888001 := n1_; have HO_888002 := n2_; have HO_888003 := n3_; have HO_912000 := n4_; have HO_912001 := n5_; have HO_912002 := n6_; have HO_912003 := n7_; have HO936 := n8_; have HO939 := n9_; have HO942 := n10_; have HO945 := n11_; have HO948 := n12_; have HO951 := n13_; have HO954 := n14_; have BK863 := n15_; have BK887 := n16_; have BK911 := n17_; have BK956 := n18_; have HB := n19_; clear n0_ n1_ n2_ n3_ n4_ n5_ n6_ n7_ n8_ n9_ n10_ n11_ n12_ n13_ n14_ n15_ n16_ n17_ n18_ n19_; (try clear hb); (try clear hb2); (try clear hk); (try clear hi)))
                          go_meet
                          case rel => exact ⟨_, ((t955 != t886)), (by first | rfl | (simp; done) | (simp [*]; done)), H', ⟨by have := HJ10.out; have := HJ69.out; first | omega | exact Nat.le_refl _⟩, ⟨rl (Kd.R_mono HO_912000.out (fun _ hk => by simp only [ne_eq] at hk ⊢; simp only [hk, not_false_eq_true, and_self]))⟩, ⟨rl (Kd.R_mono HO_912001.out (fun _ hk => by simp only [ne_eq] at hk ⊢; simp only [hk, not_false_eq_true, and_self]))⟩, ⟨rl (Kd.R_mono HO_912002.out (fun _ hk => by simp only [ne_eq] at hk ⊢; simp only [hk, not_false_eq_true, and_self]))⟩, ⟨rl (Kd.R_mono HO_912003.out (fun _ hk => by simp only [ne_eq] at hk ⊢; simp only [hk, not_false_eq_true, and_self]))⟩, ⟨kl BK911.out⟩, ⟨by repeat (first | (with_reducible first | exact HB.out | apply below_alloc | apply pw_below_drewN | apply below_drew1 | refine below_set ?_ GE863.out | refine below_set ?_ GE887.out | refine below_set ?_ GE911.out | refine below_set ?_ GE956.out) | exact HB.out)⟩⟩
                        · replace c132 := Bool.eq_false_iff.mpr c132
                          subst c132
                          have H1 : (laws_FnExactNewColored.j2 kj69 t928 true t929 t930 t931 t932) = some r := by rw [if_neg (show ¬ (false = true) by decide)] at H; exact H
                          clear H
                          have H := H1
                          clear H1
                          have H' := am H
                          clear H
                          have hnb141 := NB956_863.out
                          have hnc141 := NB863_956.out
                          have hnb142 := NB956_887.out
                          have hnc142 := NB887_956.out
                          have hnb143 := NB956_911.out
                          have hnc143 := NB911_956.out
                          have hcz144_0 : w122.cell? ⟨gb956, 0, none⟩ = some (.slice none 0 0) := (blk_cell BK956.out 0).trans rfl
                          have hcz144_1 : w122.cell? ⟨gb956, 1, none⟩ = some (.slice none 0 0) := (blk_cell BK956.out 1).trans rfl
                          have hcz144_2 : w122.cell? ⟨gb956, 2, none⟩ = some (.slice none 0 0) := (blk_cell BK956.out 2).trans rfl
                          have hcz144_3 : w122.cell? ⟨gb956, 3, none⟩ = some (.slice none 0 0) := (blk_cell BK956.out 3).trans rfl
                          have hfz144_0 := blk_frozen BK956.out 0
                          have hfz144_1 := blk_frozen BK956.out 1
                          have hfz144_2 := blk_frozen BK956.out 2
                          have hfz144_3 := blk_frozen BK956.out 3
                          have hnb145 := NB887_863.out
                          have hnc145 := NB863_887.out
                          have hnb146 := NB887_911.out
                          have hnc146 := NB911_887.out
                          have hcz147_0 : w122.cell? ⟨gb887, 0, none⟩ = some (.slice Ao22 t874.length co22) := (blk_cell BK887.out 0).trans rfl
                          have hcz147_1 : w122.cell? ⟨gb887, 1, none⟩ = some (.slice Ao25 t877.length co25) := (blk_cell BK887.out 1).trans rfl
                          have hcz147_2 : w122.cell? ⟨gb887, 2, none⟩ = some (.slice Ao26 t880.length co26) := (blk_cell BK887.out 2).trans rfl
                          have hcz147_3 : w122.cell? ⟨gb887, 3, none⟩ = some (.slice Ao27 t883.length co27) := (blk_cell BK887.out 3).trans rfl
                          have hfz147_0 := blk_frozen BK887.out 0
                          have hfz147_1 := blk_frozen BK887.out 1
                          have hfz147_2 := blk_frozen BK887.out 2
                          have hfz147_3 := blk_frozen BK887.out 3
                          go_wp2_with (first | ((with_reducible refine gate_callee (f := 39) rfl ?_); refine goesL_ (some 81) rfl rfl Try.func39 (by kernel_rfl) rfl #[.agg #[.slice Ao123 t943.length co123, .slice Ao128 t946.length co128, .slice Ao129 t949.length co129, .slice Ao130 t952.length co130], .agg #[.slice Ao22 t874.length co22, .slice Ao25 t877.length co25, .slice Ao26 t880.length co26, .slice Ao27 t883.length co27]] rfl (by (try simp only [List.map_toArray, List.map_cons, List.map_nil]); first | done | rfl | (simp only [List.length_drop, List.length_take]; rfl)) ?_; (with_reducible refine (laws_eqColored.calls kj69 _ _ t943 _ _ t946 _ _ t949 _ _ t952 _ _ t874 _ _ t877 _ _ t880 _ _ t883 false _ ?side1 ?side2 ?side3 ?side4 ?side5 ?side6 ?side7 ?side8 ?side9 ?side10 ?side11 ?side12 ?side13 ?side14 ?side15 ?side16 A131.out).mono ?_); (case side1 => exact (Kd.R_reads' (rl ((far4 HO945.out BK956.out (by decide) (.slice Ao123 t943.length co123) (.slice Ao128 t946.length co128) (.slice Ao129 t949.length co129) (.slice Ao130 t952.length co130))))).2.2); (case side2 => exact (Kd.R_reads' HO945.out).2.1); (case side3 => exact (Kd.R_reads' (rl ((far4 HO948.out BK956.out (by decide) (.slice Ao123 t943.length co123) (.slice Ao128 t946.length co128) (.slice Ao129 t949.length co129) (.slice Ao130 t952.length co130))))).2.2); (case side4 => exact (Kd.R_reads' HO948.out).2.1); (case side5 => exact (Kd.R_reads' (rl ((far4 HO951.out BK956.out (by decide) (.slice Ao123 t943.length co123) (.slice Ao128 t946.length co128) (.slice Ao129 t949.length co129) (.slice Ao130 t952.length co130))))).2.2); (case side6 => exact (Kd.R_reads' HO951.out).2.1); (case side7 => exact (Kd.R_reads' (rl ((far4 HO954.out BK956.out (by decide) (.slice Ao123 t943.length co123) (.slice Ao128 t946.length co128) (.slice Ao129 t949.length co129) (.slice Ao130 t952.length co130))))).2.2); (case side8 => exact (Kd.R_reads' HO954.out).2.1); (case side9 => exact (Kd.R_reads' (rl ((far4 HO_888000.out BK956.out (by decide) (.slice Ao123 t943.length co123) (.slice Ao128 t946.length co128) (.slice Ao129 t949.length co129) (.slice Ao130 t952.length co130))))).2.2); (case side10 => exact (Kd.R_reads' HO_888000.out).2.1); (case side11 => exact (Kd.R_reads' (rl ((far4 HO_888001.out BK956.out (by decide) (.slice Ao123 t943.length co123) (.slice Ao128 t946.length co128) (.slice Ao129 t949.length co129) (.slice Ao130 t952.length co130))))).2.2); (case side12 => exact (Kd.R_reads' HO_888001.out).2.1); (case side13 => exact (Kd.R_reads' (rl ((far4 HO_888002.out BK956.out (by decide) (.slice Ao123 t943.length co123) (.slice Ao128 t946.length co128) (.slice Ao129 t949.length co129) (.slice Ao130 t952.length co130))))).2.2); (case side14 => exact (Kd.R_reads' HO_888002.out).2.1); (case side15 => exact (Kd.R_reads' (rl ((far4 HO_888003.out BK956.out (by decide) (.slice Ao123 t943.length co123) (.slice Ao128 t946.length co128) (.slice Ao129 t949.length co129) (.slice Ao130 t952.length co130))))).2.2); (case side16 => exact (Kd.R_reads' HO_888003.out).2.1); rintro e w148 ⟨rfl, hb⟩; refine ⟨_, rfl, ?_⟩; have n0_ := am (Kd.R_below (rl ((far4 HO_888000.out BK956.out (by decide) (.slice Ao123 t943.length co123) (.slice Ao128 t946.length co128) (.slice Ao129 t949.length co129) (.slice Ao130 t952.length co130)))) hb); have n1_ := am (Kd.R_below (rl ((far4 HO_888001.out BK956.out (by decide) (.slice Ao123 t943.length co123) (.slice Ao128 t946.length co128) (.slice Ao129 t949.length co129) (.slice Ao130 t952.length co130)))) hb); have n2_ := am (Kd.R_below (rl ((far4 HO_888002.out BK956.out (by decide) (.slice Ao123 t943.length co123) (.slice Ao128 t946.length co128) (.slice Ao129 t949.length co129) (.slice Ao130 t952.length co130)))) hb); have n3_ := am (Kd.R_below (rl ((far4 HO_888003.out BK956.out (by decide) (.slice Ao123 t943.length co123) (.slice Ao128 t946.length co128) (.slice Ao129 t949.length co129) (.slice Ao130 t952.length co130)))) hb); have n4_ := am (Kd.R_below (rl ((far4 HO_912000.out BK956.out (by decide) (.slice Ao123 t943.length co123) (.slice Ao128 t946.length co128) (.slice Ao129 t949.length co129) (.slice Ao130 t952.length co130)))) hb); have n5_ := am (Kd.R_below (rl ((far4 HO_912001.out BK956.out (by decide) (.slice Ao123 t943.length co123) (.slice Ao128 t946.length co128) (.slice Ao129 t949.length co129) (.slice Ao130 t952.length co130)))) hb); have n6_ := am (Kd.R_below (rl ((far4 HO_912002.out BK956.out (by decide) (.slice Ao123 t943.length co123) (.slice Ao128 t946.length co128) (.slice Ao129 t949.length co129) (.slice Ao130 t952.length co130)))) hb); have n7_ := am (Kd.R_below (rl ((far4 HO_912003.out BK956.out (by decide) (.slice Ao123 t943.length co123) (.slice Ao128 t946.length co128) (.slice Ao129 t949.length co129) (.slice Ao130 t952.length co130)))) hb); have n8_ := am (Kd.R_below (rl ((far4 HO936.out BK956.out (by decide) (.slice Ao123 t943.length co123) (.slice Ao128 t946.length co128) (.slice Ao129 t949.length co129) (.slice Ao130 t952.length co130)))) hb); have n9_ := am (Kd.R_below (rl ((far4 HO939.out BK956.out (by decide) (.slice Ao123 t943.length co123) (.slice Ao128 t946.length co128) (.slice Ao129 t949.length co129) (.slice Ao130 t952.length co130)))) hb); have n10_ := am (Kd.R_below (rl ((far4 HO942.out BK956.out (by decide) (.slice Ao123 t943.length co123) (.slice Ao128 t946.length co128) (.slice Ao129 t949.length co129) (.slice Ao130 t952.length co130)))) hb); have n11_ := am (Kd.R_below (rl ((far4 HO945.out BK956.out (by decide) (.slice Ao123 t943.length co123) (.slice Ao128 t946.length co128) (.slice Ao129 t949.length co129) (.slice Ao130 t952.length co130)))) hb); have n12_ := am (Kd.R_below (rl ((far4 HO948.out BK956.out (by decide) (.slice Ao123 t943.length co123) (.slice Ao128 t946.length co128) (.slice Ao129 t949.length co129) (.slice Ao130 t952.length co130)))) hb); have n13_ := am (Kd.R_below (rl ((far4 HO951.out BK956.out (by decide) (.slice Ao123 t943.length co123) (.slice Ao128 t946.length co128) (.slice Ao129 t949.length co129) (.slice Ao130 t952.length co130)))) hb); have n14_ := am (Kd.R_below (rl ((far4 HO954.out BK956.out (by decide) (.slice Ao123 t943.length co123) (.slice Ao128 t946.length co128) (.slice Ao129 t949.length co129) (.slice Ao130 t952.length co130)))) hb); have n15_ := am (blk_below (g := gb863) (o := .cells #[.slice A0_0 l0_0.length c0_0, .slice A0_1 l0_1.length c0_1, .slice A0_2 l0_2.length c0_2] 38 (0, 0)) (by (with_reducible repeat (first | refine blk_drewN ?_ _ | refine blk_drew ?_ | refine blk_alloc ?_ _)); refine blk_far ?_ NB863_956.out _; (with_reducible repeat (first | refine blk_drewN ?_ _ | refine blk_drew ?_ | refine blk_alloc ?_ _)); refine blk_far ?_ NB863_956.out _; (with_reducible repeat (first | refine blk_drewN ?_ _ | refine blk_drew ?_ | refine blk_alloc ?_ _)); refine blk_far ?_ NB863_956.out _; (with_reducible repeat (first | refine blk_drewN ?_ _ | refine blk_drew ?_ | refine blk_alloc ?_ _)); refine blk_far ?_ NB863_956.out _; (with_reducible repeat (first | refine blk_drewN ?_ _ | refine blk_drew ?_ | refine blk_alloc ?_ _)); exact BK863.out) hb); have n16_ := am (blk_below (g := gb887) (o := .cells #[.slice Ao22 t874.length co22, .slice Ao25 t877.length co25, .slice Ao26 t880.length co26, .slice Ao27 t883.length co27] 48 (0, 0)) (by (with_reducible repeat (first | refine blk_drewN ?_ _ | refine blk_drew ?_ | refine blk_alloc ?_ _)); refine blk_far ?_ NB887_956.out _; (with_reducible repeat (first | refine blk_drewN ?_ _ | refine blk_drew ?_ | refine blk_alloc ?_ _)); refine blk_far ?_ NB887_956.out _; (with_reducible repeat (first | refine blk_drewN ?_ _ | refine blk_drew ?_ | refine blk_alloc ?_ _)); refine blk_far ?_ NB887_956.out _; (with_reducible repeat (first | refine blk_drewN ?_ _ | refine blk_drew ?_ | refine blk_alloc ?_ _)); refine blk_far ?_ NB887_956.out _; (with_reducible repeat (first | refine blk_drewN ?_ _ | refine blk_drew ?_ | refine blk_alloc ?_ _)); exact BK887.out) hb); have n17_ := am (blk_below (g := gb911) (o := .cells #[.slice Ao39 t898.length co39, .slice Ao44 t901.length co44, .slice Ao45 t904.length co45, .slice Ao46 t907.length co46] 48 (0, 0)) (by (with_reducible repeat (first | refine blk_drewN ?_ _ | refine blk_drew ?_ | refine blk_alloc ?_ _)); refine blk_far ?_ NB911_956.out _; (with_reducible repeat (first | refine blk_drewN ?_ _ | refine blk_drew ?_ | refine blk_alloc ?_ _)); refine blk_far ?_ NB911_956.out _; (with_reducible repeat (first | refine blk_drewN ?_ _ | refine blk_drew ?_ | refine blk_alloc ?_ _)); refine blk_far ?_ NB911_956.out _; (with_reducible repeat (first | refine blk_drewN ?_ _ | refine blk_drew ?_ | refine blk_alloc ?_ _)); refine blk_far ?_ NB911_956.out _; (with_reducible repeat (first | refine blk_drewN ?_ _ | refine blk_drew ?_ | refine blk_alloc ?_ _)); exact BK911.out) hb); have n18_ := am (blk_below (g := gb956) (o := .cells #[.slice Ao123 t943.length co123, .slice Ao128 t946.length co128, .slice Ao129 t949.length co129, .slice Ao130 t952.length co130] 48 (0, 0)) (by (with_reducible repeat (first | refine blk_drewN ?_ _ | refine blk_drew ?_ | refine blk_alloc ?_ _)); refine blk_put (cs := #[.slice Ao123 t943.length co123, .slice Ao128 t946.length co128, .slice Ao129 t949.length co129, .slice none 0 0]) ?_ 3 _ rfl; (with_reducible repeat (first | refine blk_drewN ?_ _ | refine blk_drew ?_ | refine blk_alloc ?_ _)); refine blk_put (cs := #[.slice Ao123 t943.length co123, .slice Ao128 t946.length co128, .slice none 0 0, .slice none 0 0]) ?_ 2 _ rfl; (with_reducible repeat (first | refine blk_drewN ?_ _ | refine blk_drew ?_ | refine blk_alloc ?_ _)); refine blk_put (cs := #[.slice Ao123 t943.length co123, .slice none 0 0, .slice none 0 0, .slice none 0 0]) ?_ 1 _ rfl; (with_reducible repeat (first | refine blk_drewN ?_ _ | refine blk_drew ?_ | refine blk_alloc ?_ _)); refine blk_put (cs := #[.slice none 0 0, .slice none 0 0, .slice none 0 0, .slice none 0 0]) ?_ 0 _ rfl; (with_reducible repeat (first | refine blk_drewN ?_ _ | refine blk_drew ?_ | refine blk_alloc ?_ _)); exact BK956.out) hb); have n19_ := am (below_step (by repeat (first | (with_reducible first | exact HB.out | apply below_alloc | apply pw_below_drewN | apply below_drew1 | refine below_set ?_ GE863.out | refine below_set ?_ GE887.out | refine below_set ?_ GE911.out | refine below_set ?_ GE956.out) | exact HB.out)) hb); clear HO_888000; clear HO_888001; clear HO_888002; clear HO_888003; clear HO_912000; clear HO_912001; clear HO_912002; clear HO_912003; clear HO936; clear HO939; clear HO942; clear HO945; clear HO948; clear HO951; clear HO954; clear BK863; clear BK887; clear BK911; clear BK956; clear HB; have HO_888000 := n0_; have HO_888001 := n1_; have HO_888002 := n2_; have HO_888003 := n3_; have HO_912000 := n4_; have HO_912001 := n5_; have HO_912002 := n6_; have HO_912003 := n7_; have HO936 := n8_; have HO939 := n9_; have HO942 := n10_; have HO945 := n11_; have HO948 := n12_; have HO951 := n13_; have HO954 := n14_; have BK863 := n15_; have BK887 := n16_; have BK911 := n17_; have BK956 := n18_; have HB := n19_; clear n0_ n1_ n2_ n3_ n4_ n5_ n6_ n7_ n8_ n9_ n10_ n11_ n12_ n13_ n14_ n15_ n16_ n17_ n18_ n19_; (try clear hb); (try clear hb2); (try clear hk); (try clear hi)))
                          go_meet
                          case rel => exact ⟨_, (true), (by first | rfl | (simp; done) | (simp [*]; done)), H', ⟨by have := HJ10.out; have := HJ69.out; first | omega | exact Nat.le_refl _⟩, ⟨rl (Kd.R_mono HO_912000.out (fun _ hk => by simp only [ne_eq] at hk ⊢; simp only [hk, not_false_eq_true, and_self]))⟩, ⟨rl (Kd.R_mono HO_912001.out (fun _ hk => by simp only [ne_eq] at hk ⊢; simp only [hk, not_false_eq_true, and_self]))⟩, ⟨rl (Kd.R_mono HO_912002.out (fun _ hk => by simp only [ne_eq] at hk ⊢; simp only [hk, not_false_eq_true, and_self]))⟩, ⟨rl (Kd.R_mono HO_912003.out (fun _ hk => by simp only [ne_eq] at hk ⊢; simp only [hk, not_false_eq_true, and_self]))⟩, ⟨kl BK911.out⟩, ⟨by repeat (first | (with_reducible first | exact HB.out | apply below_alloc | apply pw_below_drewN | apply below_drew1 | refine below_set ?_ GE863.out | refine below_set ?_ GE887.out | refine below_set ?_ GE911.out | refine below_set ?_ GE956.out) | exact HB.out)⟩⟩
                      case rest =>
                        clear HC108
                        try clear c1
                        try clear c2
                        try clear p2
                        try clear c3
                        try clear c3b0
                        try clear c4
                        try clear c5
                        try clear c6
                        try clear c7
                        try clear c8
                        try clear c9
                        try clear c10
                        try clear c11
                        try clear c12
                        try clear c13
                        try clear c14
                        try clear c23
                        try clear c25
                        try clear c27
                        try clear c29
                        try clear c32
                        try clear c33
                        try clear c37
                        try clear c38
                        try clear c39
                        try clear c40
                        try clear c41
                        try clear c42
                        try clear c48
                        try clear c49
                        try clear c50
                        try clear c51
                        try clear c53
                        try clear c54
                        try clear c57
                        try clear c58
                        try clear c59
                        try clear c61
                        try clear c62
                        try clear c65
                        try clear c68
                        try clear c77
                        try clear c78
                        try clear c79
                        try clear c82
                        try clear c82b0
                        try clear c84
                        try clear c85
                        try clear c86
                        try clear c87
                        try clear c89
                        try clear c90
                        try clear c93
                        try clear c94
                        try clear c95
                        try clear c97
                        try clear c98
                        try clear c101
                        try clear c104
                        try clear c104b0
                        try clear c105
                        try clear c105b0
                        try clear c105b1
                        try clear c109
                        try clear c110
                        try clear c115
                        try clear c124
                        try clear c125
                        try clear c126
                        try clear c132
                        try clear c133
                        try clear c134
                        try clear c135
                        try clear c137
                        try clear c138
                        try clear c141
                        try clear c142
                        try clear c143
                        try clear c145
                        try clear c146
                        try clear hcz111_0
                        try clear hcz111_1
                        try clear hcz111_2
                        try clear hcz111_3
                        try clear hcz113_0
                        try clear hcz113_1
                        try clear hcz113_2
                        try clear hcz113_3
                        try clear hcz116_0
                        try clear hcz116_1
                        try clear hcz116_2
                        try clear hcz127_0
                        try clear hcz127_1
                        try clear hcz127_2
                        try clear hcz127_3
                        try clear hcz136_0
                        try clear hcz136_1
                        try clear hcz136_2
                        try clear hcz136_3
                        try clear hcz139_0
                        try clear hcz139_1
                        try clear hcz139_2
                        try clear hcz139_3
                        try clear hcz13_0
                        try clear hcz13_1
                        try clear hcz13_2
                        try clear hcz144_0
                        try clear hcz144_1
                        try clear hcz144_2
                        try clear hcz144_3
                        try clear hcz147_0
                        try clear hcz147_1
                        try clear hcz147_2
                        try clear hcz147_3
                        try clear hcz15_0
                        try clear hcz15_1
                        try clear hcz15_2
                        try clear hcz24_0
                        try clear hcz24_1
                        try clear hcz24_2
                        try clear hcz24_3
                        try clear hcz28_0
                        try clear hcz28_1
                        try clear hcz28_2
                        try clear hcz34_0
                        try clear hcz34_1
                        try clear hcz34_2
                        try clear hcz43_0
                        try clear hcz43_1
                        try clear hcz43_2
                        try clear hcz43_3
                        try clear hcz52_0
                        try clear hcz52_1
                        try clear hcz52_2
                        try clear hcz52_3
                        try clear hcz55_0
                        try clear hcz55_1
                        try clear hcz55_2
                        try clear hcz55_3
                        try clear hcz5_0
                        try clear hcz5_1
                        try clear hcz5_2
                        try clear hcz60_0
                        try clear hcz60_1
                        try clear hcz60_2
                        try clear hcz60_3
                        try clear hcz63_0
                        try clear hcz63_1
                        try clear hcz63_2
                        try clear hcz63_3
                        try clear hcz80_0
                        try clear hcz80_1
                        try clear hcz80_2
                        try clear hcz88_0
                        try clear hcz88_1
                        try clear hcz88_2
                        try clear hcz88_3
                        try clear hcz91_0
                        try clear hcz91_1
                        try clear hcz91_2
                        try clear hcz91_3
                        try clear hcz96_0
                        try clear hcz96_1
                        try clear hcz96_2
                        try clear hcz96_3
                        try clear hcz99_0
                        try clear hcz99_1
                        try clear hcz99_2
                        try clear hcz99_3
                        try clear hfz111_0
                        try clear hfz111_1
                        try clear hfz111_2
                        try clear hfz111_3
                        try clear hfz113_0
                        try clear hfz113_1
                        try clear hfz113_2
                        try clear hfz113_3
                        try clear hfz116_0
                        try clear hfz116_1
                        try clear hfz116_2
                        try clear hfz127_0
                        try clear hfz127_1
                        try clear hfz127_2
                        try clear hfz127_3
                        try clear hfz136_0
                        try clear hfz136_1
                        try clear hfz136_2
                        try clear hfz136_3
                        try clear hfz139_0
                        try clear hfz139_1
                        try clear hfz139_2
                        try clear hfz139_3
                        try clear hfz13_0
                        try clear hfz13_1
                        try clear hfz13_2
                        try clear hfz144_0
                        try clear hfz144_1
                        try clear hfz144_2
                        try clear hfz144_3
                        try clear hfz147_0
                        try clear hfz147_1
                        try clear hfz147_2
                        try clear hfz147_3
                        try clear hfz15_0
                        try clear hfz15_1
                        try clear hfz15_2
                        try clear hfz24_0
                        try clear hfz24_1
                        try clear hfz24_2
                        try clear hfz24_3
                        try clear hfz28_0
                        try clear hfz28_1
                        try clear hfz28_2
                        try clear hfz34_0
                        try clear hfz34_1
                        try clear hfz34_2
                        try clear hfz43_0
                        try clear hfz43_1
                        try clear hfz43_2
                        try clear hfz43_3
                        try clear hfz52_0
                        try clear hfz52_1
                        try clear hfz52_2
                        try clear hfz52_3
                        try clear hfz55_0
                        try clear hfz55_1
                        try clear hfz55_2
                        try clear hfz55_3
                        try clear hfz5_0
                        try clear hfz5_1
                        try clear hfz5_2
                        try clear hfz60_0
                        try clear hfz60_1
                        try clear hfz60_2
                        try clear hfz60_3
                        try clear hfz63_0
                        try clear hfz63_1
                        try clear hfz63_2
                        try clear hfz63_3
                        try clear hfz80_0
                        try clear hfz80_1
                        try clear hfz80_2
                        try clear hfz88_0
                        try clear hfz88_1
                        try clear hfz88_2
                        try clear hfz88_3
                        try clear hfz91_0
                        try clear hfz91_1
                        try clear hfz91_2
                        try clear hfz91_3
                        try clear hfz96_0
                        try clear hfz96_1
                        try clear hfz96_2
                        try clear hfz96_3
                        try clear hfz99_0
                        try clear hfz99_1
                        try clear hfz99_2
                        try clear hfz99_3
                        try clear p2
                        obtain ⟨kq, x87_107, rfl, HA, HJ107, HO_912000, HO_912001, HO_912002, HO_912003, BK911, HB⟩ := hcut
                        have hl912000_107 := (Kd.R_reads' HO_912000.out).1
                        rw [hl912000_107] at HO_912000
                        (try simp only [hl912000_107])
                        (try simp only [hl912000_107] at BK911)
                        (try simp only [hl912000_107] at HO_912001)
                        (try simp only [hl912000_107] at HO_912002)
                        (try simp only [hl912000_107] at HO_912003)
                        have hl912001_107 := (Kd.R_reads' HO_912001.out).1
                        rw [hl912001_107] at HO_912001
                        (try simp only [hl912001_107])
                        (try simp only [hl912001_107] at BK911)
                        (try simp only [hl912001_107] at HO_912000)
                        (try simp only [hl912001_107] at HO_912002)
                        (try simp only [hl912001_107] at HO_912003)
                        have hl912002_107 := (Kd.R_reads' HO_912002.out).1
                        rw [hl912002_107] at HO_912002
                        (try simp only [hl912002_107])
                        (try simp only [hl912002_107] at BK911)
                        (try simp only [hl912002_107] at HO_912000)
                        (try simp only [hl912002_107] at HO_912001)
                        (try simp only [hl912002_107] at HO_912003)
                        have hl912003_107 := (Kd.R_reads' HO_912003.out).1
                        rw [hl912003_107] at HO_912003
                        (try simp only [hl912003_107])
                        (try simp only [hl912003_107] at BK911)
                        (try simp only [hl912003_107] at HO_912000)
                        (try simp only [hl912003_107] at HO_912001)
                        (try simp only [hl912003_107] at HO_912002)
                        cases kq with
                        | zero => exact absurd HA.out (by simp [laws_FnExactNewColored.j2])
                        | succ kj107 =>
                          have H := HA.out
                          clear HA
                          simp only [laws_FnExactNewColored.j2] at H
                          by_cases c149 : x87_107 = true
                          · subst c149
                            have H1 : (none) = some r := by rw [if_pos rfl] at H; exact H
                            clear H
                            have H := H1
                            clear H1
                            exact absurd H (by simp)
                          · replace c149 := Bool.eq_false_iff.mpr c149
                            subst c149
                            have H1 : ((laws_heldColored.f kj107 t929 t930 t931 t932 1).bind fun t958 => (if t958 < 0 then (none) else (if t958 = t928 then (some true) else (none)))) = some r := by rw [if_neg (show ¬ (false = true) by decide)] at H; exact H
                            clear H
                            have H := H1
                            clear H1
                            replace H := Option.bind_eq_some_iff.mp H
                            obtain ⟨t958, A1500, H⟩ := H
                            replace H : (if t958 < 0 then (none) else (if t958 = t928 then (some true) else (none))) = some r := H
                            have A150 := am A1500
                            clear A1500
                            by_cases c151 : t958 < 0
                            · rw [if_pos c151] at H
                              exact absurd H (by simp)
                            · rw [if_neg c151] at H
                              have c151b0 : decide (t958 < 0) = false := decide_eq_false c151
                              clear c151
                              by_cases c152 : t958 = t928
                              · rw [if_pos c152] at H
                                have c152b0 : (t958 == t928) = true := beq_iff_eq.mpr c152
                                have c152b1 : (t958 != t928) = false := bne_eq_false_iff_eq.mpr c152
                                clear c152
                                obtain rfl := Option.some.inj H
                                have hcz153_0 : wc.cell? ⟨gb911, 0, none⟩ = some (.slice Ao39 t929.length co39) := (blk_cell BK911.out 0).trans rfl
                                have hcz153_1 : wc.cell? ⟨gb911, 1, none⟩ = some (.slice Ao44 t930.length co44) := (blk_cell BK911.out 1).trans rfl
                                have hcz153_2 : wc.cell? ⟨gb911, 2, none⟩ = some (.slice Ao45 t931.length co45) := (blk_cell BK911.out 2).trans rfl
                                have hcz153_3 : wc.cell? ⟨gb911, 3, none⟩ = some (.slice Ao46 t932.length co46) := (blk_cell BK911.out 3).trans rfl
                                have hfz153_0 := blk_frozen BK911.out 0
                                have hfz153_1 := blk_frozen BK911.out 1
                                have hfz153_2 := blk_frozen BK911.out 2
                                have hfz153_3 := blk_frozen BK911.out 3
                                go_wp2_with (first | ((with_reducible refine gate_callee (f := 42) rfl ?_); refine goesL_ (some 90) rfl rfl Try.func42 (by kernel_rfl) rfl #[.agg #[.slice Ao39 t929.length co39, .slice Ao44 t930.length co44, .slice Ao45 t931.length co45, .slice Ao46 t932.length co46], .int .i64 1] rfl (by (try simp only [List.map_toArray, List.map_cons, List.map_nil]); first | done | rfl | (simp only [List.length_drop, List.length_take]; rfl)) ?_; (with_reducible refine (laws_heldColored.calls kj107 _ _ t929 _ _ t930 _ _ t931 _ _ t932 1 t958 _ ?side1 ?side2 ?side3 ?side4 ?side5 ?side6 ?side7 ?side8 A150.out).mono ?_); (case side1 => repeat (first | exact (Kd.R_reads' HO_912000.out).2.2 | (with_reducible refine Kd.C_alloc ?_ _) | (with_reducible refine Kd.C_drewN ?_ _) | (with_reducible refine Kd.C_drew ?_))); (case side2 => exact (Kd.R_reads' HO_912000.out).2.1); (case side3 => repeat (first | exact (Kd.R_reads' HO_912001.out).2.2 | (with_reducible refine Kd.C_alloc ?_ _) | (with_reducible refine Kd.C_drewN ?_ _) | (with_reducible refine Kd.C_drew ?_))); (case side4 => exact (Kd.R_reads' HO_912001.out).2.1); (case side5 => repeat (first | exact (Kd.R_reads' HO_912002.out).2.2 | (with_reducible refine Kd.C_alloc ?_ _) | (with_reducible refine Kd.C_drewN ?_ _) | (with_reducible refine Kd.C_drew ?_))); (case side6 => exact (Kd.R_reads' HO_912002.out).2.1); (case side7 => repeat (first | exact (Kd.R_reads' HO_912003.out).2.2 | (with_reducible refine Kd.C_alloc ?_ _) | (with_reducible refine Kd.C_drewN ?_ _) | (with_reducible refine Kd.C_drew ?_))); (case side8 => exact (Kd.R_reads' HO_912003.out).2.1); rintro e w154 ⟨rfl, hb⟩; refine ⟨_, rfl, ?_⟩; have n0_ := am (Kd.R_below (rl HO_912000.out) hb); have n1_ := am (Kd.R_below (rl HO_912001.out) hb); have n2_ := am (Kd.R_below (rl HO_912002.out) hb); have n3_ := am (Kd.R_below (rl HO_912003.out) hb); have n4_ := am (blk_below (g := gb911) (o := .cells #[.slice Ao39 t929.length co39, .slice Ao44 t930.length co44, .slice Ao45 t931.length co45, .slice Ao46 t932.length co46] 48 (0, 0)) (kl BK911.out) hb); have n5_ := am (below_step (by repeat (first | (with_reducible first | exact HB.out | apply below_alloc | apply pw_below_drewN | apply below_drew1 | refine below_set ?_ GE911.out) | exact HB.out)) hb); clear HO_912000; clear HO_912001; clear HO_912002; clear HO_912003; clear BK911; clear HB; have HO_912000 := n0_; have HO_912001 := n1_; have HO_912002 := n2_; have HO_912003 := n3_; have BK911 := n4_; have HB := n5_; clear n0_ n1_ n2_ n3_ n4_ n5_; (try clear hb); (try clear hb2); (try clear hk); (try clear hi)))
                                go_ret
                                exact ⟨by first | rfl | (simp [errW_none, errW_some] <;> rfl) | (simp [*, errW_none, errW_some] <;> rfl), by repeat (first | (with_reducible first | exact HB.out | apply below_alloc | apply pw_below_drewN | apply below_drew1 | refine below_set ?_ GE911.out) | exact HB.out)⟩
                              · rw [if_neg c152] at H
                                exact absurd H (by simp)
                    · rw [if_neg c105] at H
                      exact absurd H (by simp)
          · replace c68 := Bool.eq_false_iff.mpr c68
            subst c68
            have H1 : (none) = some r := by rw [if_neg (show ¬ (false = true) by decide)] at H; exact H
            clear H
            have H := H1
            clear H1
            exact absurd H (by simp)

end Go.Proofs.Ytcofdgeelojebab.A
