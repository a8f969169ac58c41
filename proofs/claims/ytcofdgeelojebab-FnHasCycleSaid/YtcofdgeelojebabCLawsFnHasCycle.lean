/- Contracts of functions of the given program (CLawsFnHasCycle). No conditions beyond those stated. -/
import Derived.Test.YtcofdgeelojebabA0
import Derived.Test.YtcofdgeelojebabAImplHasCycle
import Derived.Test.YtcofdgeelojebabAImplSourcesOf
import Derived.Test.YtcofdgeelojebabASpecDrawHasCycle
import Derived.Test.YtcofdgeelojebabASpecHasCycle
import Derived.Test.YtcofdgeelojebabA0
namespace Go.Proofs.Ytcofdgeelojebab.A
open Go.RowKit Go.Proofs.YtcofdgeelojebabW.PrintWords Go.Proofs.YtcofdgeelojebabW.PrintLast Go.Proofs.YtcofdgeelojebabW.PrintMore
attribute [local go_sem] max2_int min2_int max_two min_two max_three min_three max_four min_four   -- for this text's walks alone
set_option linter.unusedVariables false
set_option linter.unusedSimpArgs false

/-! ### laws_FnHasCycle -/
mutual
def laws_FnHasCycle.j0 : Nat → Int → Bool → Bool → List Int → List Int → List Int → Option (Bool)
  | 0, _, _, _, _, _, _ => none
  | k + 1, x4, x5, x28, x798000, x798001, x798002 => if x28 = true then ((spec_HasCycle.f k x798000 x798001 x798002 x4).bind fun t800 => (some (x5 == t800))) else ((impl_SourcesOf.f k x798000 x798001 x798002 x4).bind fun t801 => (laws_FnHasCycle.l0 k t801 false 0 x798000 x798001 x798002))
def laws_FnHasCycle.l0 : Nat → List Int → Bool → Int → List Int → List Int → List Int → Option (Bool)
  | 0, _, _, _, _, _, _ => none
  | k + 1, x6, x7, x8, x798000, x798001, x798002 => if x8 < (x6.length : Int) then (if x7 = true then (laws_FnHasCycle.l0 k x6 true (wrap64 (x8 + 1)) x798000 x798001 x798002) else (if 0 ≤ x8 then ((impl_HasCycle.f k x798000 x798001 x798002 (rd x6 x8)).bind fun t805 => (laws_FnHasCycle.l0 k x6 t805 (wrap64 (x8 + 1)) x798000 x798001 x798002)) else (none))) else (some x7)
end
def laws_FnHasCycle.f (k : Nat) (l0 : List Int) : Option (Bool) := if (l0.length : Int) > 1048576 then (some true) else ((spec_DrawHasCycle.f k l0).bind fun bt787 => ((impl_HasCycle.f k bt787.1 bt787.2.1 bt787.2.2.1 bt787.2.2.2).bind fun t798 => ((spec_HasCycle.f k bt787.1 bt787.2.1 bt787.2.2.1 bt787.2.2.2).bind fun t799 => (if (t798 != t799) = true then (laws_FnHasCycle.j0 k bt787.2.2.2 t798 true bt787.1 bt787.2.1 bt787.2.2.1) else (laws_FnHasCycle.j0 k bt787.2.2.2 t798 (!t798) bt787.1 bt787.2.1 bt787.2.2.1)))))
theorem laws_FnHasCycle.mono_l : ∀ k, (∀ y0 y1 y2 y3 y4 y5, LeO (laws_FnHasCycle.j0 k y0 y1 y2 y3 y4 y5) (laws_FnHasCycle.j0 (k + 1) y0 y1 y2 y3 y4 y5)) ∧ (∀ y0 y1 y2 y3 y4 y5, LeO (laws_FnHasCycle.l0 k y0 y1 y2 y3 y4 y5) (laws_FnHasCycle.l0 (k + 1) y0 y1 y2 y3 y4 y5))
  | 0 => ⟨fun _ _ _ _ _ _ r h => by simp [laws_FnHasCycle.j0] at h, fun _ _ _ _ _ _ r h => by simp [laws_FnHasCycle.l0] at h⟩
  | k + 1 => by
    obtain ⟨ih0, ih1⟩ := laws_FnHasCycle.mono_l k
    refine ⟨?_, ?_⟩
    · intro y0 y1 y2 y3 y4 y5
      unfold laws_FnHasCycle.j0
      repeat' first
      | (with_reducible exact ih0 _ _ _ _ _ _)
      | (with_reducible exact ih1 _ _ _ _ _ _)
      | (with_reducible exact impl_HasCycle.mono _ _ _ _ _)
      | (with_reducible exact impl_SourcesOf.mono _ _ _ _ _)
      | (with_reducible exact spec_DrawHasCycle.mono _ _)
      | (with_reducible exact spec_HasCycle.mono _ _ _ _ _)
      | (with_reducible exact LeO.refl _)
      | (with_reducible exact LeO.none _)
      | (with_reducible refine LeO.ite ?_ ?_)
      | (with_reducible refine LeO.bind ?_ (fun _ => ?_))
      | exact ih0 _ _ _ _ _ _
      | exact ih1 _ _ _ _ _ _
      | exact impl_HasCycle.mono _ _ _ _ _
      | exact impl_SourcesOf.mono _ _ _ _ _
      | exact spec_DrawHasCycle.mono _ _
      | exact spec_HasCycle.mono _ _ _ _ _
      | exact LeO.none _
      | refine LeO.ite ?_ ?_
      | refine LeO.bind ?_ (fun _ => ?_)
    · intro y0 y1 y2 y3 y4 y5
      unfold laws_FnHasCycle.l0
      repeat' first
      | (with_reducible exact ih0 _ _ _ _ _ _)
      | (with_reducible exact ih1 _ _ _ _ _ _)
      | (with_reducible exact impl_HasCycle.mono _ _ _ _ _)
      | (with_reducible exact impl_SourcesOf.mono _ _ _ _ _)
      | (with_reducible exact spec_DrawHasCycle.mono _ _)
      | (with_reducible exact spec_HasCycle.mono _ _ _ _ _)
      | (with_reducible exact LeO.refl _)
      | (with_reducible exact LeO.none _)
      | (with_reducible refine LeO.ite ?_ ?_)
      | (with_reducible refine LeO.bind ?_ (fun _ => ?_))
      | exact ih0 _ _ _ _ _ _
      | exact ih1 _ _ _ _ _ _
      | exact impl_HasCycle.mono _ _ _ _ _
      | exact impl_SourcesOf.mono _ _ _ _ _
      | exact spec_DrawHasCycle.mono _ _
      | exact spec_HasCycle.mono _ _ _ _ _
      | exact LeO.none _
      | refine LeO.ite ?_ ?_
      | refine LeO.bind ?_ (fun _ => ?_)
theorem laws_FnHasCycle.mono : ∀ a0 k, LeO (laws_FnHasCycle.f k a0) (laws_FnHasCycle.f (k + 1) a0) := by
  intro a0 k
  obtain ⟨ih0, ih1⟩ := laws_FnHasCycle.mono_l k
  unfold laws_FnHasCycle.f
  repeat' first
      | (with_reducible exact ih0 _ _ _ _ _ _)
      | (with_reducible exact ih1 _ _ _ _ _ _)
      | (with_reducible exact impl_HasCycle.mono _ _ _ _ _)
      | (with_reducible exact impl_SourcesOf.mono _ _ _ _ _)
      | (with_reducible exact spec_DrawHasCycle.mono _ _)
      | (with_reducible exact spec_HasCycle.mono _ _ _ _ _)
      | (with_reducible exact LeO.refl _)
      | (with_reducible exact LeO.none _)
      | (with_reducible refine LeO.ite ?_ ?_)
      | (with_reducible refine LeO.bind ?_ (fun _ => ?_))
      | exact ih0 _ _ _ _ _ _
      | exact ih1 _ _ _ _ _ _
      | exact impl_HasCycle.mono _ _ _ _ _
      | exact impl_SourcesOf.mono _ _ _ _ _
      | exact spec_DrawHasCycle.mono _ _
      | exact spec_HasCycle.mono _ _ _ _ _
      | exact LeO.none _
      | refine LeO.ite ?_ ?_
      | refine LeO.bind ?_ (fun _ => ?_)
def laws_FnHasCycle.T12 : Bool × List (List Nat × List Nat) := (true, [([], []), ([0], [0]), ([1], [1]), ([1], [1]), ([1], [1]), ([3, 4, 1], [1, 3, 4]), ([5, 1], [1, 5]), ([2, 6, 1, 1], [1, 2, 6]), ([1, 7], [1, 7]), ([8, 7, 0, 1, 2, 3, 4, 5, 6, 7, 8], [0, 8])])
def laws_FnHasCycle.B12 : List Nat := [0, 1, 3, 3, 3, 27, 59, 127, 255, 511]
theorem laws_FnHasCycle.tab12 : rtab .any (opsOf Try.f8 12) = laws_FnHasCycle.T12 := by kernel_rfl
theorem laws_FnHasCycle.bits12 : waitsOk laws_FnHasCycle.T12.2 laws_FnHasCycle.B12 = true := by kernel_rfl
set_option maxHeartbeats 8000000 in
set_option maxRecDepth 100000 in
theorem laws_FnHasCycle.calls (k : Nat) (A0 : Option Addr) (c0 : Nat) (l0 : List Int) (r : Bool) (w : World) (hr0 : Kd.C (Kd.int .u8) w A0 l0.length l0) (hc0 : l0.length ≤ c0) (h : laws_FnHasCycle.f k l0 = some r) :
    Calls Try.prog 8 #[.slice A0 l0.length c0] w fun e w' => e = .returned (.bool r) ∧ Below w.heap.size w w' := by
  have hu25 := Try.underlying25
  have HR0 := am hr0
  have HC0 := am hc0
  clear hr0 hc0
  have HB := am (Below.refl w.heap.size w)
  have H : (if (l0.length : Int) > 1048576 then (some true) else ((spec_DrawHasCycle.f k l0).bind fun bt787 => ((impl_HasCycle.f k bt787.1 bt787.2.1 bt787.2.2.1 bt787.2.2.2).bind fun t798 => ((spec_HasCycle.f k bt787.1 bt787.2.1 bt787.2.2.1 bt787.2.2.2).bind fun t799 => (if (t798 != t799) = true then (laws_FnHasCycle.j0 k bt787.2.2.2 t798 true bt787.1 bt787.2.1 bt787.2.2.1) else (laws_FnHasCycle.j0 k bt787.2.2.2 t798 (!t798) bt787.1 bt787.2.1 bt787.2.2.1)))))) = some r := h
  clear h
  by_cases c2 : (l0.length : Int) > 1048576
  · rw [if_pos c2] at H
    have c2b0 : decide (1048576 < (l0.length : Int)) = true := decide_eq_true c2
    have c2b1 : decide (1048576 < l0.length) = true := decide_eq_true (by omega)
    clear c2
    obtain rfl := Option.some.inj H
    go_enter Try.func8, Try.ntmps8
    go_wp2
    go_ret
    exact ⟨by first | rfl | (simp [errW_none, errW_some] <;> rfl) | (simp [*, errW_none, errW_some] <;> rfl), by repeat (first | (with_reducible first | exact HB.out | apply below_alloc | apply pw_below_drewN | apply below_drew1) | exact HB.out)⟩
  · rw [if_neg c2] at H
    have c2b0 : decide (1048576 < (l0.length : Int)) = false := decide_eq_false c2
    have c2b1 : decide (1048576 < l0.length) = false := decide_eq_false (by omega)
    clear c2
    replace H := Option.bind_eq_some_iff.mp H
    obtain ⟨⟨t787, t790, t793, t796⟩, A30, H⟩ := H
    replace H : ((impl_HasCycle.f k t787 t790 t793 t796).bind fun t798 => ((spec_HasCycle.f k t787 t790 t793 t796).bind fun t799 => (if (t798 != t799) = true then (laws_FnHasCycle.j0 k t796 t798 true t787 t790 t793) else (laws_FnHasCycle.j0 k t796 t798 (!t798) t787 t790 t793)))) = some r := H
    have A3 := am A30
    clear A30
    replace H := Option.bind_eq_some_iff.mp H
    obtain ⟨t798, A40, H⟩ := H
    replace H : ((spec_HasCycle.f k t787 t790 t793 t796).bind fun t799 => (if (t798 != t799) = true then (laws_FnHasCycle.j0 k t796 t798 true t787 t790 t793) else (laws_FnHasCycle.j0 k t796 t798 (!t798) t787 t790 t793))) = some r := H
    have A4 := am A40
    clear A40
    have HC5 := am H
    clear H
    go_enter Try.func8, Try.ntmps8
    go_upto_region 5 with (first | ((with_reducible refine gate_callee (f := 34) rfl ?_); refine goesL_ (some 14) rfl rfl Try.func34 (by kernel_rfl) rfl #[.slice A0 l0.length c0] rfl (by (try simp only [List.map_toArray, List.map_cons, List.map_nil]); first | done | rfl | (simp only [List.length_drop, List.length_take]; rfl)) ?_; (with_reducible refine (spec_DrawHasCycle.calls k _ _ l0 t787 t790 t793 t796 _ ?side1 ?side2 A3.out).mono ?_); (case side1 => repeat (first | exact HR0.out | (with_reducible refine Kd.C_alloc ?_ _) | (with_reducible refine Kd.C_drewN ?_ _) | (with_reducible refine Kd.C_drew ?_))); (case side2 => exact HC0.out); rintro e w6 ⟨v788, v791, v794, rfl, ho0, ho1, ho2, hb⟩; refine ⟨_, rfl, ?_⟩; have n0_ := am (Kd.R_lower ho0 (below_size (bl HB.out))); have n1_ := am (Kd.R_lower ho1 (below_size (bl HB.out))); have n2_ := am (Kd.R_lower ho2 (below_size (bl HB.out))); have n3_ := am (below_step (bl HB.out) hb); clear HB; have HO789 := n0_; have HO792 := n1_; have HO795 := n2_; have HB := n3_; clear n0_ n1_ n2_ n3_; (try clear hb); (try clear hb2); (try clear hk); (try clear hi); (try clear ho0); (try clear ho1); (try clear ho2)) | ((with_reducible refine gate_dst (N := 3) rfl ?_); refine box_event ?hg (N := 3) ?hd (cs := #[.slice none 0 0, .slice none 0 0, .slice none 0 0]) (t := 25) ?hr ?_; (case hd => rfl); (case hg => rfl); (case hr => first | (go_simp; done) | (go_simp; rfl)); intro gb797 hg w7 hbox hb; have n0_ := am (Kd.R_below (rl HO789.out) hb); have n1_ := am (Kd.R_below (rl HO792.out) hb); have n2_ := am (Kd.R_below (rl HO795.out) hb); have n3_ := am (below_step (bl HB.out) hb); have n4_ := am (hbox); have n5_ := am ((by rw [hg]; exact (below_size (bl HB.out)) : w.heap.size ≤ gb797)); have n6_ := am ((by rw [hg]; exact (below_size (bl HB.out)) : w.heap.size ≤ gb797)); clear HO789; clear HO792; clear HO795; clear HB; have HO789 := n0_; have HO792 := n1_; have HO795 := n2_; have HB := n3_; have BK797 := n4_; have GW797 := n5_; have GE797 := n6_; clear n0_ n1_ n2_ n3_ n4_ n5_ n6_; clear hb hbox hg; obtain ⟨Ao8, co8, eo8⟩ := Kd.R_slice HO789.out; subst eo8; have hcz9_0 : w7.cell? ⟨gb797, 0, none⟩ = some (.slice none 0 0) := (blk_cell BK797.out 0).trans rfl; have hcz9_1 : w7.cell? ⟨gb797, 1, none⟩ = some (.slice none 0 0) := (blk_cell BK797.out 1).trans rfl; have hcz9_2 : w7.cell? ⟨gb797, 2, none⟩ = some (.slice none 0 0) := (blk_cell BK797.out 2).trans rfl; have hfz9_0 := blk_frozen BK797.out 0; have hfz9_1 := blk_frozen BK797.out 1; have hfz9_2 := blk_frozen BK797.out 2; obtain ⟨Ao10, co10, eo10⟩ := Kd.R_slice HO792.out; subst eo10; obtain ⟨Ao11, co11, eo11⟩ := Kd.R_slice HO795.out; subst eo11) | ((with_reducible refine gate_callee (f := 35) rfl ?_); refine goesL_ (some 19) rfl rfl Try.func35 (by kernel_rfl) rfl #[.agg #[.slice Ao8 t787.length co8, .slice Ao10 t790.length co10, .slice Ao11 t793.length co11], .int .i64 t796] rfl (by (try simp only [List.map_toArray, List.map_cons, List.map_nil]); first | done | rfl | (simp only [List.length_drop, List.length_take]; rfl)) ?_; (with_reducible refine (impl_HasCycle.calls k _ _ t787 _ _ t790 _ _ t793 t796 t798 _ ?side1 ?side2 ?side3 ?side4 ?side5 ?side6 A4.out).mono ?_); (case side1 => exact (Kd.R_reads' (rl ((far3 HO789.out BK797.out (by decide) (.slice Ao8 t787.length co8) (.slice Ao10 t790.length co10) (.slice Ao11 t793.length co11))))).2.2); (case side2 => exact (Kd.R_reads' HO789.out).2.1); (case side3 => exact (Kd.R_reads' (rl ((far3 HO792.out BK797.out (by decide) (.slice Ao8 t787.length co8) (.slice Ao10 t790.length co10) (.slice Ao11 t793.length co11))))).2.2); (case side4 => exact (Kd.R_reads' HO792.out).2.1); (case side5 => exact (Kd.R_reads' (rl ((far3 HO795.out BK797.out (by decide) (.slice Ao8 t787.length co8) (.slice Ao10 t790.length co10) (.slice Ao11 t793.length co11))))).2.2); (case side6 => exact (Kd.R_reads' HO795.out).2.1); rintro e w12 ⟨rfl, hb⟩; refine ⟨_, rfl, ?_⟩; have n0_ := am (Kd.R_below (rl ((far3 HO789.out BK797.out (by decide) (.slice Ao8 t787.length co8) (.slice Ao10 t790.length co10) (.slice Ao11 t793.length co11)))) hb); have n1_ := am (Kd.R_below (rl ((far3 HO792.out BK797.out (by decide) (.slice Ao8 t787.length co8) (.slice Ao10 t790.length co10) (.slice Ao11 t793.length co11)))) hb); have n2_ := am (Kd.R_below (rl ((far3 HO795.out BK797.out (by decide) (.slice Ao8 t787.length co8) (.slice Ao10 t790.length co10) (.slice Ao11 t793.length co11)))) hb); have n3_ := am (blk_below (g := gb797) (o := .cells #[.slice Ao8 t787.length co8, .slice Ao10 t790.length co10, .slice Ao11 t793.length co11] 25 (0, 0)) (by (with_reducible repeat (first | refine blk_drewN ?_ _ | refine blk_drew ?_ | refine blk_alloc ?_ _)); refine blk_put (cs := #[.slice Ao8 t787.length co8, .slice Ao10 t790.length co10, .slice none 0 0]) ?_ 2 _ rfl; (with_reducible repeat (first | refine blk_drewN ?_ _ | refine blk_drew ?_ | refine blk_alloc ?_ _)); refine blk_put (cs := #[.slice Ao8 t787.length co8, .slice none 0 0, .slice none 0 0]) ?_ 1 _ rfl; (with_reducible repeat (first | refine blk_drewN ?_ _ | refine blk_drew ?_ | refine blk_alloc ?_ _)); refine blk_put (cs := #[.slice none 0 0, .slice none 0 0, .slice none 0 0]) ?_ 0 _ rfl; (with_reducible repeat (first | refine blk_drewN ?_ _ | refine blk_drew ?_ | refine blk_alloc ?_ _)); exact BK797.out) hb); have n4_ := am (below_step (by repeat (first | (with_reducible first | exact HB.out | apply below_alloc | apply pw_below_drewN | apply below_drew1 | refine below_set ?_ GE797.out) | exact HB.out)) hb); clear HO789; clear HO792; clear HO795; clear BK797; clear HB; have HO789 := n0_; have HO792 := n1_; have HO795 := n2_; have BK797 := n3_; have HB := n4_; clear n0_ n1_ n2_ n3_ n4_; (try clear hb); (try clear hb2); (try clear hk); (try clear hi)))
    (try simp only [Act.put, List.setIfInBounds_toArray, List.set_cons_zero, List.set_cons_succ])
    go_cut [28] (fun v28 wc => ∃ (kq : Nat) (x28_4 : Bool), v28 = .bool x28_4 ∧ Aside0 (laws_FnHasCycle.j0 kq t796 t798 x28_4 t787 t790 t793 = some r) ∧ Aside0 (kq ≤ k) ∧ Aside0 (Kd.R (Kd.int .i64) 3 wc w.heap.size (fun k_ => some k_ ≠ ((.slice Ao10 t790.length co10) : Value).ownBlock ∧ some k_ ≠ ((.slice Ao11 t793.length co11) : Value).ownBlock) (.slice Ao8 t787.length co8) t787) ∧ Aside0 (Kd.R (Kd.int .i64) 3 wc w.heap.size (fun k_ => some k_ ≠ ((.slice Ao8 t787.length co8) : Value).ownBlock ∧ some k_ ≠ ((.slice Ao11 t793.length co11) : Value).ownBlock) (.slice Ao10 t790.length co10) t790) ∧ Aside0 (Kd.R (Kd.int .i64) 3 wc w.heap.size (fun k_ => some k_ ≠ ((.slice Ao8 t787.length co8) : Value).ownBlock ∧ some k_ ≠ ((.slice Ao10 t790.length co10) : Value).ownBlock) (.slice Ao11 t793.length co11) t793) ∧ Aside0 (wc.heap[gb797]? = some (.cells #[(.slice Ao8 t787.length co8), (.slice Ao10 t790.length co10), (.slice Ao11 t793.length co11)] 25 (0, 0))) ∧ Aside0 (Below w.heap.size w wc))
    case first =>
      have H := HC5.out
      clear HC5
      replace H := Option.bind_eq_some_iff.mp H
      obtain ⟨t799, A130, H⟩ := H
      replace H : (if (t798 != t799) = true then (laws_FnHasCycle.j0 k t796 t798 true t787 t790 t793) else (laws_FnHasCycle.j0 k t796 t798 (!t798) t787 t790 t793)) = some r := H
      have A13 := am A130
      clear A130
      by_cases c14 : (t798 != t799) = true
      · rw [if_pos c14] at H
        have c14b0 : (t798 != t799) = true := c14
        (try (have c14b1 : decide (t798 = t799) = false := by simpa using c14))
        (try (have c14b2 : (t798 == t799) = false := by simpa using c14))
        (try (have c14b3 : ¬ (t798 = t799) := by simpa using c14))
        clear c14
        (first | rw [c14b0] | (simp only [i64_w, i32_w]; rw [c14b0]) | skip)
        have H' := am H
        clear H
        have hcz15_0 : w12.cell? ⟨gb797, 0, none⟩ = some (.slice Ao8 t787.length co8) := (blk_cell BK797.out 0).trans rfl
        have hcz15_1 : w12.cell? ⟨gb797, 1, none⟩ = some (.slice Ao10 t790.length co10) := (blk_cell BK797.out 1).trans rfl
        have hcz15_2 : w12.cell? ⟨gb797, 2, none⟩ = some (.slice Ao11 t793.length co11) := (blk_cell BK797.out 2).trans rfl
        have hfz15_0 := blk_frozen BK797.out 0
        have hfz15_1 := blk_frozen BK797.out 1
        have hfz15_2 := blk_frozen BK797.out 2
        go_wp2_with (first | ((with_reducible refine gate_callee (f := 36) rfl ?_); refine goesL_ (some 23) rfl rfl Try.func36 (by kernel_rfl) rfl #[.agg #[.slice Ao8 t787.length co8, .slice Ao10 t790.length co10, .slice Ao11 t793.length co11], .int .i64 t796] rfl (by (try simp only [List.map_toArray, List.map_cons, List.map_nil]); first | done | rfl | (simp only [List.length_drop, List.length_take]; rfl)) ?_; (with_reducible refine (spec_HasCycle.calls k _ _ t787 _ _ t790 _ _ t793 t796 t799 _ ?side1 ?side2 ?side3 ?side4 ?side5 ?side6 A13.out).mono ?_); (case side1 => repeat (first | exact (Kd.R_reads' HO789.out).2.2 | (with_reducible refine Kd.C_alloc ?_ _) | (with_reducible refine Kd.C_drewN ?_ _) | (with_reducible refine Kd.C_drew ?_))); (case side2 => exact (Kd.R_reads' HO789.out).2.1); (case side3 => repeat (first | exact (Kd.R_reads' HO792.out).2.2 | (with_reducible refine Kd.C_alloc ?_ _) | (with_reducible refine Kd.C_drewN ?_ _) | (with_reducible refine Kd.C_drew ?_))); (case side4 => exact (Kd.R_reads' HO792.out).2.1); (case side5 => repeat (first | exact (Kd.R_reads' HO795.out).2.2 | (with_reducible refine Kd.C_alloc ?_ _) | (with_reducible refine Kd.C_drewN ?_ _) | (with_reducible refine Kd.C_drew ?_))); (case side6 => exact (Kd.R_reads' HO795.out).2.1); rintro e w16 ⟨rfl, hb⟩; refine ⟨_, rfl, ?_⟩; have n0_ := am (Kd.R_below (rl HO789.out) hb); have n1_ := am (Kd.R_below (rl HO792.out) hb); have n2_ := am (Kd.R_below (rl HO795.out) hb); have n3_ := am (blk_below (g := gb797) (o := .cells #[.slice Ao8 t787.length co8, .slice Ao10 t790.length co10, .slice Ao11 t793.length co11] 25 (0, 0)) (kl BK797.out) hb); have n4_ := am (below_step (by repeat (first | (with_reducible first | exact HB.out | apply below_alloc | apply pw_below_drewN | apply below_drew1 | refine below_set ?_ GE797.out) | exact HB.out)) hb); clear HO789; clear HO792; clear HO795; clear BK797; clear HB; have HO789 := n0_; have HO792 := n1_; have HO795 := n2_; have BK797 := n3_; have HB := n4_; clear n0_ n1_ n2_ n3_ n4_; (try clear hb); (try clear hb2); (try clear hk); (try clear hi)))
        go_meet
        case rel => exact ⟨_, (true), (by first | rfl | (simp; done) | (simp [*]; done)), H', ⟨by first | omega | exact Nat.le_refl _⟩, ⟨rl HO789.out⟩, ⟨rl HO792.out⟩, ⟨rl HO795.out⟩, ⟨kl BK797.out⟩, ⟨by repeat (first | (with_reducible first | exact HB.out | apply below_alloc | apply pw_below_drewN | apply below_drew1 | refine below_set ?_ GE797.out) | exact HB.out)⟩⟩
      · rw [if_neg c14] at H
        have c14b0 : (t798 != t799) = false := by simpa using c14
        (try (have c14b1 : decide (t798 = t799) = true := by simpa using c14))
        (try (have c14b2 : (t798 == t799) = true := by simpa using c14))
        clear c14
        (first | rw [c14b0] | (simp only [i64_w, i32_w]; rw [c14b0]) | skip)
        have H' := am H
        clear H
        have hcz17_0 : w12.cell? ⟨gb797, 0, none⟩ = some (.slice Ao8 t787.length co8) := (blk_cell BK797.out 0).trans rfl
        have hcz17_1 : w12.cell? ⟨gb797, 1, none⟩ = some (.slice Ao10 t790.length co10) := (blk_cell BK797.out 1).trans rfl
        have hcz17_2 : w12.cell? ⟨gb797, 2, none⟩ = some (.slice Ao11 t793.length co11) := (blk_cell BK797.out 2).trans rfl
        have hfz17_0 := blk_frozen BK797.out 0
        have hfz17_1 := blk_frozen BK797.out 1
        have hfz17_2 := blk_frozen BK797.out 2
        go_wp2_with (first | ((with_reducible refine gate_callee (f := 36) rfl ?_); refine goesL_ (some 23) rfl rfl Try.func36 (by kernel_rfl) rfl #[.agg #[.slice Ao8 t787.length co8, .slice Ao10 t790.length co10, .slice Ao11 t793.length co11], .int .i64 t796] rfl (by (try simp only [List.map_toArray, List.map_cons, List.map_nil]); first | done | rfl | (simp only [List.length_drop, List.length_take]; rfl)) ?_; (with_reducible refine (spec_HasCycle.calls k _ _ t787 _ _ t790 _ _ t793 t796 t799 _ ?side1 ?side2 ?side3 ?side4 ?side5 ?side6 A13.out).mono ?_); (case side1 => repeat (first | exact (Kd.R_reads' HO789.out).2.2 | (with_reducible refine Kd.C_alloc ?_ _) | (with_reducible refine Kd.C_drewN ?_ _) | (with_reducible refine Kd.C_drew ?_))); (case side2 => exact (Kd.R_reads' HO789.out).2.1); (case side3 => repeat (first | exact (Kd.R_reads' HO792.out).2.2 | (with_reducible refine Kd.C_alloc ?_ _) | (with_reducible refine Kd.C_drewN ?_ _) | (with_reducible refine Kd.C_drew ?_))); (case side4 => exact (Kd.R_reads' HO792.out).2.1); (case side5 => repeat (first | exact (Kd.R_reads' HO795.out).2.2 | (with_reducible refine Kd.C_alloc ?_ _) | (with_reducible refine Kd.C_drewN ?_ _) | (with_reducible refine Kd.C_drew ?_))); (case side6 => exact (Kd.R_reads' HO795.out).2.1); rintro e w18 ⟨rfl, hb⟩; refine ⟨_, rfl, ?_⟩; have n0_ := am (Kd.R_below (rl HO789.out) hb); have n1_ := am (Kd.R_below (rl HO792.out) hb); have n2_ := am (Kd.R_below (rl HO795.out) hb); have n3_ := am (blk_below (g := gb797) (o := .cells #[.slice Ao8 t787.length co8, .slice Ao10 t790.length co10, .slice Ao11 t793.length co11] 25 (0, 0)) (kl BK797.out) hb); have n4_ := am (below_step (by repeat (first | (with_reducible first | exact HB.out | apply below_alloc | apply pw_below_drewN | apply below_drew1 | refine below_set ?_ GE797.out) | exact HB.out)) hb); clear HO789; clear HO792; clear HO795; clear BK797; clear HB; have HO789 := n0_; have HO792 := n1_; have HO795 := n2_; have BK797 := n3_; have HB := n4_; clear n0_ n1_ n2_ n3_ n4_; (try clear hb); (try clear hb2); (try clear hk); (try clear hi)))
        go_meet
        case rel => exact ⟨_, (!t798), (by first | rfl | (simp; done) | (simp [*]; done)), H', ⟨by first | omega | exact Nat.le_refl _⟩, ⟨rl HO789.out⟩, ⟨rl HO792.out⟩, ⟨rl HO795.out⟩, ⟨kl BK797.out⟩, ⟨by repeat (first | (with_reducible first | exact HB.out | apply below_alloc | apply pw_below_drewN | apply below_drew1 | refine below_set ?_ GE797.out) | exact HB.out)⟩⟩
    case rest =>
      clear HC5
      try clear c1
      try clear c2
      try clear c2b0
      try clear c2b1
      try clear p2
      try clear c3
      try clear c8
      try clear c14
      try clear c14b0
      try clear c14b1
      try clear c14b2
      try clear hcz15_0
      try clear hcz15_1
      try clear hcz15_2
      try clear hcz17_0
      try clear hcz17_1
      try clear hcz17_2
      try clear hcz9_0
      try clear hcz9_1
      try clear hcz9_2
      try clear hfz15_0
      try clear hfz15_1
      try clear hfz15_2
      try clear hfz17_0
      try clear hfz17_1
      try clear hfz17_2
      try clear hfz9_0
      try clear hfz9_1
      try clear hfz9_2
      obtain ⟨kq, x28_4, rfl, HA, HJ4, HO_798000, HO_798001, HO_798002, BK797, HB⟩ := hcut
      cases kq with
      | zero => exact absurd HA.out (by simp [laws_FnHasCycle.j0])
      | succ kj4 =>
        have H := HA.out
        clear HA
        simp only [laws_FnHasCycle.j0] at H
        by_cases c19 : x28_4 = true
        · subst c19
          have H1 : ((spec_HasCycle.f kj4 t787 t790 t793 t796).bind fun t800 => (some (t798 == t800))) = some r := by rw [if_pos rfl] at H; exact H
          clear H
          have H := H1
          clear H1
          replace H := Option.bind_eq_some_iff.mp H
          obtain ⟨t800, A200, H⟩ := H
          replace H : (some (t798 == t800)) = some r := H
          have A20 := am A200
          clear A200
          obtain rfl := Option.some.inj H
          have hcz21_0 : wc.cell? ⟨gb797, 0, none⟩ = some (.slice Ao8 t787.length co8) := (blk_cell BK797.out 0).trans rfl
          have hcz21_1 : wc.cell? ⟨gb797, 1, none⟩ = some (.slice Ao10 t790.length co10) := (blk_cell BK797.out 1).trans rfl
          have hcz21_2 : wc.cell? ⟨gb797, 2, none⟩ = some (.slice Ao11 t793.length co11) := (blk_cell BK797.out 2).trans rfl
          have hfz21_0 := blk_frozen BK797.out 0
          have hfz21_1 := blk_frozen BK797.out 1
          have hfz21_2 := blk_frozen BK797.out 2
          go_wp2_with (first | ((with_reducible refine gate_callee (f := 36) rfl ?_); refine goesL_ (some 32) rfl rfl Try.func36 (by kernel_rfl) rfl #[.agg #[.slice Ao8 t787.length co8, .slice Ao10 t790.length co10, .slice Ao11 t793.length co11], .int .i64 t796] rfl (by (try simp only [List.map_toArray, List.map_cons, List.map_nil]); first | done | rfl | (simp only [List.length_drop, List.length_take]; rfl)) ?_; (with_reducible refine (spec_HasCycle.calls kj4 _ _ t787 _ _ t790 _ _ t793 t796 t800 _ ?side1 ?side2 ?side3 ?side4 ?side5 ?side6 A20.out).mono ?_); (case side1 => repeat (first | exact (Kd.R_reads' HO_798000.out).2.2 | (with_reducible refine Kd.C_alloc ?_ _) | (with_reducible refine Kd.C_drewN ?_ _) | (with_reducible refine Kd.C_drew ?_))); (case side2 => exact (Kd.R_reads' HO_798000.out).2.1); (case side3 => repeat (first | exact (Kd.R_reads' HO_798001.out).2.2 | (with_reducible refine Kd.C_alloc ?_ _) | (with_reducible refine Kd.C_drewN ?_ _) | (with_reducible refine Kd.C_drew ?_))); (case side4 => exact (Kd.R_reads' HO_798001.out).2.1); (case side5 => repeat (first | exact (Kd.R_reads' HO_798002.out).2.2 | (with_reducible refine Kd.C_alloc ?_ _) | (with_reducible refine Kd.C_drewN ?_ _) | (with_reducible refine Kd.C_drew ?_))); (case side6 => exact (Kd.R_reads' HO_798002.out).2.1); rintro e w22 ⟨rfl, hb⟩; refine ⟨_, rfl, ?_⟩; have n0_ := am (Kd.R_below (rl HO_798000.out) hb); have n1_ := am (Kd.R_below (rl HO_798001.out) hb); have n2_ := am (Kd.R_below (rl HO_798002.out) hb); have n3_ := am (blk_below (g := gb797) (o := .cells #[.slice Ao8 t787.length co8, .slice Ao10 t790.length co10, .slice Ao11 t793.length co11] 25 (0, 0)) (kl BK797.out) hb); have n4_ := am (below_step (by repeat (first | (with_reducible first | exact HB.out | apply below_alloc | apply pw_below_drewN | apply below_drew1 | refine below_set ?_ GE797.out) | exact HB.out)) hb); clear HO_798000; clear HO_798001; clear HO_798002; clear BK797; clear HB; have HO_798000 := n0_; have HO_798001 := n1_; have HO_798002 := n2_; have BK797 := n3_; have HB := n4_; clear n0_ n1_ n2_ n3_ n4_; (try clear hb); (try clear hb2); (try clear hk); (try clear hi)))
          go_ret
          exact ⟨by first | rfl | (simp [errW_none, errW_some] <;> rfl) | (simp [*, errW_none, errW_some] <;> rfl), by repeat (first | (with_reducible first | exact HB.out | apply below_alloc | apply pw_below_drewN | apply below_drew1 | refine below_set ?_ GE797.out) | exact HB.out)⟩
        · replace c19 := Bool.eq_false_iff.mpr c19
          subst c19
          have H1 : ((impl_SourcesOf.f kj4 t787 t790 t793 t796).bind fun t801 => (laws_FnHasCycle.l0 kj4 t801 false 0 t787 t790 t793)) = some r := by rw [if_neg (show ¬ (false = true) by decide)] at H; exact H
          clear H
          have H := H1
          clear H1
          replace H := Option.bind_eq_some_iff.mp H
          obtain ⟨t801, A230, H⟩ := H
          replace H : (laws_FnHasCycle.l0 kj4 t801 false 0 t787 t790 t793) = some r := H
          have A23 := am A230
          clear A230
          have H' := am H
          clear H
          have hcz24_0 : wc.cell? ⟨gb797, 0, none⟩ = some (.slice Ao8 t787.length co8) := (blk_cell BK797.out 0).trans rfl
          have hcz24_1 : wc.cell? ⟨gb797, 1, none⟩ = some (.slice Ao10 t790.length co10) := (blk_cell BK797.out 1).trans rfl
          have hcz24_2 : wc.cell? ⟨gb797, 2, none⟩ = some (.slice Ao11 t793.length co11) := (blk_cell BK797.out 2).trans rfl
          have hfz24_0 := blk_frozen BK797.out 0
          have hfz24_1 := blk_frozen BK797.out 1
          have hfz24_2 := blk_frozen BK797.out 2
          go_wp2_with (first | ((with_reducible refine gate_callee (f := 22) rfl ?_); refine goesL_ (some 36) rfl rfl Try.func22 (by kernel_rfl) rfl #[.agg #[.slice Ao8 t787.length co8, .slice Ao10 t790.length co10, .slice Ao11 t793.length co11], .int .i64 t796] rfl (by (try simp only [List.map_toArray, List.map_cons, List.map_nil]); first | done | rfl | (simp only [List.length_drop, List.length_take]; rfl)) ?_; (with_reducible refine (impl_SourcesOf.calls kj4 _ _ t787 _ _ t790 _ _ t793 t796 t801 _ ?side1 ?side2 ?side3 ?side4 ?side5 ?side6 A23.out).mono ?_); (case side1 => repeat (first | exact (Kd.R_reads' HO_798000.out).2.2 | (with_reducible refine Kd.C_alloc ?_ _) | (with_reducible refine Kd.C_drewN ?_ _) | (with_reducible refine Kd.C_drew ?_))); (case side2 => exact (Kd.R_reads' HO_798000.out).2.1); (case side3 => repeat (first | exact (Kd.R_reads' HO_798001.out).2.2 | (with_reducible refine Kd.C_alloc ?_ _) | (with_reducible refine Kd.C_drewN ?_ _) | (with_reducible refine Kd.C_drew ?_))); (case side4 => exact (Kd.R_reads' HO_798001.out).2.1); (case side5 => repeat (first | exact (Kd.R_reads' HO_798002.out).2.2 | (with_reducible refine Kd.C_alloc ?_ _) | (with_reducible refine Kd.C_drewN ?_ _) | (with_reducible refine Kd.C_drew ?_))); (case side6 => exact (Kd.R_reads' HO_798002.out).2.1); rintro e w25 ⟨v802, rfl, ho0, hb⟩; refine ⟨_, rfl, ?_⟩; have n0_ := am (Kd.R_elder' (rl HO_798000.out) (Kd.R_base ho0) hb); have n1_ := am (Kd.R_elder' (rl HO_798001.out) (Kd.R_base ho0) hb); have n2_ := am (Kd.R_elder' (rl HO_798002.out) (Kd.R_base ho0) hb); have n3_ := am (Kd.R_lower (Kd.R_new' (Kd.R_new' (Kd.R_new' ho0 (Kd.R_lt (rl HO_798000.out))) (Kd.R_lt (rl HO_798001.out))) (Kd.R_lt (rl HO_798002.out))) (below_size (by repeat (first | (with_reducible first | exact HB.out | apply below_alloc | apply pw_below_drewN | apply below_drew1 | refine below_set ?_ GE797.out) | exact HB.out)))); have n4_ := am (blk_below (g := gb797) (o := .cells #[.slice Ao8 t787.length co8, .slice Ao10 t790.length co10, .slice Ao11 t793.length co11] 25 (0, 0)) (kl BK797.out) hb); have n5_ := am (below_step (by repeat (first | (with_reducible first | exact HB.out | apply below_alloc | apply pw_below_drewN | apply below_drew1 | refine below_set ?_ GE797.out) | exact HB.out)) hb); clear HO_798000; clear HO_798001; clear HO_798002; clear BK797; clear HB; have HO_798000 := n0_; have HO_798001 := n1_; have HO_798002 := n2_; have HO803 := n3_; have BK797 := n4_; have HB := n5_; clear n0_ n1_ n2_ n3_ n4_ n5_; (try clear hb); (try clear hb2); (try clear hk); (try clear hi); (try clear ho0)))
          go_loopg [7, 8] kj4 (fun kq v7 v8 w' => ∃ (x7_2 : Bool) (x8_2 : Int), v7 = .bool x7_2 ∧ v8 = .int .i64 x8_2 ∧ Aside0 (laws_FnHasCycle.l0 kq t801 x7_2 x8_2 t787 t790 t793 = some r) ∧ Aside0 (kq ≤ kj4) ∧ Aside0 (Kd.R (Kd.int .i64) 3 w' w.heap.size (fun k_ => some k_ ≠ ((.slice Ao8 t787.length co8) : Value).ownBlock ∧ some k_ ≠ ((.slice Ao10 t790.length co10) : Value).ownBlock ∧ some k_ ≠ ((.slice Ao11 t793.length co11) : Value).ownBlock) v802 t801) ∧ Aside0 (Kd.R (Kd.int .i64) 3 w' w.heap.size (fun k_ => some k_ ≠ (v802 : Value).ownBlock ∧ some k_ ≠ ((.slice Ao10 t790.length co10) : Value).ownBlock ∧ some k_ ≠ ((.slice Ao11 t793.length co11) : Value).ownBlock) (.slice Ao8 t787.length co8) t787) ∧ Aside0 (Kd.R (Kd.int .i64) 3 w' w.heap.size (fun k_ => some k_ ≠ (v802 : Value).ownBlock ∧ some k_ ≠ ((.slice Ao8 t787.length co8) : Value).ownBlock ∧ some k_ ≠ ((.slice Ao11 t793.length co11) : Value).ownBlock) (.slice Ao10 t790.length co10) t790) ∧ Aside0 (Kd.R (Kd.int .i64) 3 w' w.heap.size (fun k_ => some k_ ≠ (v802 : Value).ownBlock ∧ some k_ ≠ ((.slice Ao8 t787.length co8) : Value).ownBlock ∧ some k_ ≠ ((.slice Ao10 t790.length co10) : Value).ownBlock) (.slice Ao11 t793.length co11) t793) ∧ Aside0 (w'.heap[gb797]? = some (.cells #[(.slice Ao8 t787.length co8), (.slice Ao10 t790.length co10), (.slice Ao11 t793.length co11)] 25 (0, 0))) ∧ Aside0 (Below w.heap.size w w'))
          case atStart => exact ⟨(false), (0), (by first | rfl | (simp; done) | (simp [*]; done)), (by first | rfl | (simp; done) | (simp [*]; done)), H', ⟨Nat.le_refl _⟩, ⟨rl (Kd.R_mono HO803.out (fun _ hk => by first | exact ⟨hk.1.1.2, ⟨hk.1.2, hk.2⟩⟩ | (simp only [ne_eq] at hk ⊢; simp only [hk, not_false_eq_true, and_self])))⟩, ⟨rl (Kd.R_mono HO_798000.out (fun _ hk => by first | exact ⟨hk.2, ⟨hk.1.1, hk.1.2⟩⟩ | (simp only [ne_eq] at hk ⊢; simp only [hk, not_false_eq_true, and_self])))⟩, ⟨rl (Kd.R_mono HO_798001.out (fun _ hk => by first | exact ⟨hk.2, ⟨hk.1.1, hk.1.2⟩⟩ | (simp only [ne_eq] at hk ⊢; simp only [hk, not_false_eq_true, and_self])))⟩, ⟨rl (Kd.R_mono HO_798002.out (fun _ hk => by first | exact ⟨hk.2, ⟨hk.1.1, hk.1.2⟩⟩ | (simp only [ne_eq] at hk ⊢; simp only [hk, not_false_eq_true, and_self])))⟩, ⟨kl BK797.out⟩, ⟨by repeat (first | (with_reducible first | exact HB.out | apply below_alloc | apply pw_below_drewN | apply below_drew1 | refine below_set ?_ GE797.out) | exact HB.out)⟩⟩
          case round =>
            clear H'
            try clear c1
            try clear c2
            try clear c2b0
            try clear c2b1
            try clear p2
            try clear c3
            try clear c8
            try clear c14
            try clear c14b0
            try clear c14b1
            try clear c14b2
            try clear c19
            try clear c22
            try clear hcz15_0
            try clear hcz15_1
            try clear hcz15_2
            try clear hcz17_0
            try clear hcz17_1
            try clear hcz17_2
            try clear hcz21_0
            try clear hcz21_1
            try clear hcz21_2
            try clear hcz24_0
            try clear hcz24_1
            try clear hcz24_2
            try clear hcz9_0
            try clear hcz9_1
            try clear hcz9_2
            try clear hfz15_0
            try clear hfz15_1
            try clear hfz15_2
            try clear hfz17_0
            try clear hfz17_1
            try clear hfz17_2
            try clear hfz21_0
            try clear hfz21_1
            try clear hfz21_2
            try clear hfz24_0
            try clear hfz24_1
            try clear hfz24_2
            try clear hfz9_0
            try clear hfz9_1
            try clear hfz9_2
            try clear p2
            obtain ⟨x7_2, x8_2, rfl, rfl, HA, HK2, HO_6, HO_798000, HO_798001, HO_798002, BK797, HB⟩ := hrel
            cases gk with
            | zero => exact absurd HA.out (by simp [laws_FnHasCycle.l0])
            | succ k2 =>
              have H := HA.out
              clear HA
              simp only [laws_FnHasCycle.l0] at H
              by_cases c26 : x8_2 < (t801.length : Int)
              · rw [if_pos c26] at H
                have c26b0 : decide (x8_2 < (t801.length : Int)) = true := decide_eq_true c26
                clear c26
                by_cases c27 : x7_2 = true
                · subst c27
                  have H1 : (laws_FnHasCycle.l0 k2 t801 true (wrap64 (x8_2 + 1)) t787 t790 t793) = some r := by rw [if_pos rfl] at H; exact H
                  clear H
                  have H := H1
                  clear H1
                  have H' := am H
                  clear H
                  obtain ⟨Ao28, co28, eo28⟩ := Kd.R_slice HO_6.out
                  subst eo28
                  try go_wp2
                  have n0_ := am (Kd.R_drew HO_6.out)
                  have n1_ := am (Kd.R_drew HO_798000.out)
                  have n2_ := am (Kd.R_drew HO_798001.out)
                  have n3_ := am (Kd.R_drew HO_798002.out)
                  have n4_ := am (blk_drew BK797.out)
                  have n5_ := am (below_drew1 HB.out)
                  clear HO_6
                  clear HO_798000
                  clear HO_798001
                  clear HO_798002
                  clear BK797
                  clear HB
                  have HO_6 := n0_
                  have HO_798000 := n1_
                  have HO_798001 := n2_
                  have HO_798002 := n3_
                  have BK797 := n4_
                  have HB := n5_
                  clear n0_ n1_ n2_ n3_ n4_ n5_
                  refine start_ (n := 10) (S := fun w' => True) (ds := []) #[false, false, false, false, false, false, false, false, false, false] (by kernel_rfl) rfl rfl trivial (fun hHeld => ?_); refine with_tabW laws_FnHasCycle.tab12 laws_FnHasCycle.bits12 (fun HT_ HW_ => ?_)
                  generalize wr.drew = w29 at HO_6 HO_798000 HO_798001 HO_798002 BK797 HB hHeld ⊢
                  refine pure_ (i := 0) (N := some 43) (v := ?_) (a' := ?_) #[true, false, false, false, false, false, false, false, false, false] rfl rfl (any_of HT_.out (by kernel_rfl)) (fun _ _ _ h => h) (Or.inl ⟨by rfl, ?_⟩) ?_ ?_
                  rotate_left
                  · intro w'
                    go_simp
                    with_reducible rfl
                  rotate_left
                  · simp only [Act.put, List.setIfInBounds_toArray, List.set_cons_zero, List.set_cons_succ, i64_w, i32_w]
                    rfl
                  refine pure_ (i := 1) (N := some 44) (v := ?_) (a' := ?_) #[true, true, false, false, false, false, false, false, false, false] rfl rfl (any_of HT_.out (by kernel_rfl)) (fun _ _ _ h => h) (Or.inl ⟨by rfl, ?_⟩) ?_ ?_
                  rotate_left
                  · intro w'
                    go_simp
                    with_reducible rfl
                  rotate_left
                  · simp only [Act.put, List.setIfInBounds_toArray, List.set_cons_zero, List.set_cons_succ, i64_w, i32_w]
                    rfl
                  refine pure_ (i := 2) (N := some 45) (v := undef) (a' := ?_) #[true, true, true, false, false, false, false, false, false, false] rfl rfl (any_of HT_.out (by kernel_rfl)) (fun _ _ _ h => h) (Or.inr ⟨by rfl, rfl⟩) ?_ ?_
                  rotate_left
                  · simp only [Act.put, List.setIfInBounds_toArray, List.set_cons_zero, List.set_cons_succ, i64_w, i32_w]
                    rfl
                  refine pure_ (i := 3) (N := some 46) (v := undef) (a' := ?_) #[true, true, true, true, false, false, false, false, false, false] rfl rfl (any_of HT_.out (by kernel_rfl)) (fun _ _ _ h => h) (Or.inr ⟨by rfl, rfl⟩) ?_ ?_
                  rotate_left
                  · simp only [Act.put, List.setIfInBounds_toArray, List.set_cons_zero, List.set_cons_succ, i64_w, i32_w]
                    rfl
                  refine pure_ (i := 4) (N := some 47) (v := undef) (a' := ?_) #[true, true, true, true, true, false, false, false, false, false] rfl rfl (any_of HT_.out (by kernel_rfl)) (fun _ _ _ h => h) (Or.inr ⟨by rfl, rfl⟩) ?_ ?_
                  rotate_left
                  · simp only [Act.put, List.setIfInBounds_toArray, List.set_cons_zero, List.set_cons_succ, i64_w, i32_w]
                    rfl
                  refine pure_ (i := 5) (N := some 48) (v := undef) (a' := ?_) #[true, true, true, true, true, true, false, false, false, false] rfl rfl (any_of HT_.out (by kernel_rfl)) (fun _ _ _ h => h) (Or.inr ⟨by rfl, rfl⟩) ?_ ?_
                  rotate_left
                  · simp only [Act.put, List.setIfInBounds_toArray, List.set_cons_zero, List.set_cons_succ, i64_w, i32_w]
                    rfl
                  refine pure_ (i := 6) (N := some 49) (v := undef) (a' := ?_) #[true, true, true, true, true, true, true, false, false, false] rfl rfl (any_of HT_.out (by kernel_rfl)) (fun _ _ _ h => h) (Or.inr ⟨by rfl, rfl⟩) ?_ ?_
                  rotate_left
                  · simp only [Act.put, List.setIfInBounds_toArray, List.set_cons_zero, List.set_cons_succ, i64_w, i32_w]
                    rfl
                  refine pure_ (i := 7) (N := some 50) (v := undef) (a' := ?_) #[true, true, true, true, true, true, true, true, false, false] rfl rfl (any_of HT_.out (by kernel_rfl)) (fun _ _ _ h => h) (Or.inr ⟨by rfl, rfl⟩) ?_ ?_
                  rotate_left
                  · simp only [Act.put, List.setIfInBounds_toArray, List.set_cons_zero, List.set_cons_succ, i64_w, i32_w]
                    rfl
                  refine pure_ (i := 8) (N := some 51) (v := ?_) (a' := ?_) #[true, true, true, true, true, true, true, true, true, false] rfl rfl (any_of HT_.out (by kernel_rfl)) (fun _ _ _ h => h) (Or.inl ⟨by rfl, ?_⟩) ?_ ?_
                  rotate_left
                  · intro w'
                    go_simp
                    with_reducible rfl
                  rotate_left
                  · simp only [Act.put, List.setIfInBounds_toArray, List.set_cons_zero, List.set_cons_succ, i64_w, i32_w]
                    rfl
                  refine pure_ (i := 9) (N := some 7) (v := ?_) (a' := ?_) #[true, true, true, true, true, true, true, true, true, true] rfl rfl (any_of HT_.out (by kernel_rfl)) (fun _ _ _ h => h) (Or.inl ⟨by rfl, ?_⟩) ?_ ?_
                  rotate_left
                  · intro w'
                    go_simp
                    with_reducible rfl
                  rotate_left
                  · simp only [Act.put, List.setIfInBounds_toArray, List.set_cons_zero, List.set_cons_succ, i64_w, i32_w]
                    rfl
                  refine done_ (done_of HT_.out (by kernel_rfl)) ?_
                  try go_wp2
                  go_roundg k2
                  case measure => have := HJ4.out; have := HK2.out; omega
                  case rel => exact ⟨(true), (wrap64 (x8_2 + 1)), (by first | rfl | (simp; done) | (simp [*]; done)), (by first | rfl | (simp; done) | (simp [*]; done)), H', ⟨by have := HJ4.out; have := HK2.out; omega⟩, ⟨rl HO_6.out⟩, ⟨rl HO_798000.out⟩, ⟨rl HO_798001.out⟩, ⟨rl HO_798002.out⟩, ⟨kl BK797.out⟩, ⟨by repeat (first | (with_reducible first | exact HB.out | apply below_alloc | apply pw_below_drewN | apply below_drew1 | refine below_set ?_ GE797.out) | exact HB.out)⟩⟩
                · replace c27 := Bool.eq_false_iff.mpr c27
                  subst c27
                  have H1 : (if 0 ≤ x8_2 then ((impl_HasCycle.f k2 t787 t790 t793 (rd t801 x8_2)).bind fun t805 => (laws_FnHasCycle.l0 k2 t801 t805 (wrap64 (x8_2 + 1)) t787 t790 t793)) else (none)) = some r := by rw [if_neg (show ¬ (false = true) by decide)] at H; exact H
                  clear H
                  have H := H1
                  clear H1
                  by_cases c30 : 0 ≤ x8_2
                  · rw [if_pos c30] at H
                    have c30b0 : decide (0 ≤ x8_2) = true := decide_eq_true c30
                    clear c30
                    replace H := Option.bind_eq_some_iff.mp H
                    obtain ⟨t805, A310, H⟩ := H
                    replace H : (laws_FnHasCycle.l0 k2 t801 t805 (wrap64 (x8_2 + 1)) t787 t790 t793) = some r := H
                    have A31 := am A310
                    clear A310
                    have H' := am H
                    clear H
                    obtain ⟨Ao32, co32, eo32⟩ := Kd.R_slice HO_6.out
                    subst eo32
                    try go_wp2
                    have n0_ := am (Kd.R_drew HO_6.out)
                    have n1_ := am (Kd.R_drew HO_798000.out)
                    have n2_ := am (Kd.R_drew HO_798001.out)
                    have n3_ := am (Kd.R_drew HO_798002.out)
                    have n4_ := am (blk_drew BK797.out)
                    have n5_ := am (below_drew1 HB.out)
                    clear HO_6
                    clear HO_798000
                    clear HO_798001
                    clear HO_798002
                    clear BK797
                    clear HB
                    have HO_6 := n0_
                    have HO_798000 := n1_
                    have HO_798001 := n2_
                    have HO_798002 := n3_
                    have BK797 := n4_
                    have HB := n5_
                    clear n0_ n1_ n2_ n3_ n4_ n5_
                    have p804 : 0 ≤ (x8_2 : Int) := of_decide_eq_true (by first | (with_reducible assumption) | assumption)
                    have q804 : x8_2 < (t801.length : Int) := of_decide_eq_true (by first | (with_reducible assumption) | assumption)
                    obtain ⟨ad804, e804, hx804_0⟩ := Kd.at_int (Kd.R_reads' HO_6.out).2.2 x8_2 p804 q804
                    cases e804
                    replace p804 := eq_true p804
                    replace q804 := eq_true q804
                    refine start_ (n := 10) (S := fun w' => w'.cell? ⟨gb797, 0, none⟩ = some (.slice Ao8 t787.length co8) ∧ w'.cell? ⟨gb797, 1, none⟩ = some (.slice Ao10 t790.length co10) ∧ w'.cell? ⟨gb797, 2, none⟩ = some (.slice Ao11 t793.length co11) ∧ w'.cell? (ad804.add (x8_2).toNat) = some (.int .i64 (rd t801 x8_2))) (ds := []) #[false, false, false, false, false, false, false, false, false, false] (by kernel_rfl) rfl rfl ⟨(blk_cell BK797.out 0).trans rfl, (blk_cell BK797.out 1).trans rfl, (blk_cell BK797.out 2).trans rfl, hx804_0⟩ (fun hHeld => ?_); refine with_tabW laws_FnHasCycle.tab12 laws_FnHasCycle.bits12 (fun HT_ HW_ => ?_)
                    generalize wr.drew = w33 at HO_6 HO_798000 HO_798001 HO_798002 BK797 HB hx804_0 hHeld ⊢
                    refine pure_ (i := 0) (N := some 43) (v := ?_) (a' := ?_) #[true, false, false, false, false, false, false, false, false, false] rfl rfl (any_of HT_.out (by kernel_rfl)) (fun _ _ _ h => h) (Or.inl ⟨by rfl, ?_⟩) ?_ ?_
                    rotate_left
                    · intro w'
                      go_simp
                      with_reducible rfl
                    rotate_left
                    · simp only [Act.put, List.setIfInBounds_toArray, List.set_cons_zero, List.set_cons_succ, i64_w, i32_w]
                      rfl
                    refine pure_ (i := 1) (N := some 44) (v := ?_) (a' := ?_) #[true, true, false, false, false, false, false, false, false, false] rfl rfl (any_of HT_.out (by kernel_rfl)) (fun _ _ _ h => h) (Or.inl ⟨by rfl, ?_⟩) ?_ ?_
                    rotate_left
                    · intro w'
                      go_simp
                      with_reducible rfl
                    rotate_left
                    · simp only [Act.put, List.setIfInBounds_toArray, List.set_cons_zero, List.set_cons_succ, i64_w, i32_w]
                      rfl
                    refine pure_ (i := 3) (N := some 46) (v := ?_) (a' := ?_) #[true, true, false, true, false, false, false, false, false, false] rfl rfl (any_of HT_.out (by kernel_rfl)) (fun _ _ _ h => h) (Or.inl ⟨by rfl, ?_⟩) ?_ ?_
                    rotate_left
                    · intro w'
                      go_simp
                      with_reducible rfl
                    rotate_left
                    · simp only [Act.put, List.setIfInBounds_toArray, List.set_cons_zero, List.set_cons_succ, i64_w, i32_w]
                      rfl
                    refine pure_ (i := 4) (N := some 47) (v := ?_) (a' := ?_) #[true, true, false, true, true, false, false, false, false, false] rfl rfl (any_of HT_.out (by kernel_rfl)) (fun _ _ _ h => h) (Or.inl ⟨by rfl, ?_⟩) ?_ ?_
                    rotate_left
                    · intro w'
                      go_simp
                      with_reducible rfl
                    rotate_left
                    · simp only [Act.put, List.setIfInBounds_toArray, List.set_cons_zero, List.set_cons_succ, i64_w, i32_w]
                      rfl
                    refine pure_ (i := 5) (N := some 48) (v := ?_) (a' := ?_) #[true, true, false, true, true, true, false, false, false, false] rfl rfl (any_of HT_.out (by kernel_rfl)) (fun _ _ _ h => h) (Or.inl ⟨by rfl, ?_⟩) ?_ ?_
                    rotate_left
                    · intro w'
                      go_simp
                      with_reducible rfl
                    rotate_left
                    · simp only [Act.put, List.setIfInBounds_toArray, List.set_cons_zero, List.set_cons_succ, i64_w, i32_w]
                      rfl
                    refine take_ (i := 2) (N := some 45) (v := ?_) (a' := ?_) #[true, true, true, true, true, true, false, false, false, false] rfl rfl (take_ofW HT_.out HW_.out (by kernel_rfl)) (fun _ _ _ h => h) (Or.inl ⟨by rfl, ?_⟩) hHeld ?_ ?_
                    rotate_left
                    · rintro w' ⟨s0, s1, s2, s3⟩
                      go_simp
                      with_reducible rfl
                    rotate_left
                    · simp only [Act.put, List.setIfInBounds_toArray, List.set_cons_zero, List.set_cons_succ, i64_w, i32_w]
                      rfl
                    refine take_ (i := 6) (N := some 49) (v := ?_) (a' := ?_) #[true, true, true, true, true, true, true, false, false, false] rfl rfl (take_ofW HT_.out HW_.out (by kernel_rfl)) (fun _ _ _ h => h) (Or.inl ⟨by rfl, ?_⟩) hHeld ?_ ?_
                    rotate_left
                    · rintro w' ⟨s0, s1, s2, s3⟩
                      go_simp
                      with_reducible rfl
                    rotate_left
                    · simp only [Act.put, List.setIfInBounds_toArray, List.set_cons_zero, List.set_cons_succ, i64_w, i32_w]
                      rfl
                    refine one_ (i := 7) (N := some 50) #[true, true, true, true, true, true, true, true, false, false] rfl rfl (one_of HT_.out (by kernel_rfl)) (by decide) (fun K hK => ?_)
                    refine goes_ Try.func35 (by kernel_rfl) rfl #[.agg #[.slice Ao8 t787.length co8, .slice Ao10 t790.length co10, .slice Ao11 t793.length co11], .int .i64 (rd t801 x8_2)] (by rfl) rfl rfl (by (try simp only [List.map_toArray, List.map_cons, List.map_nil]); first | done | rfl | (simp only [List.length_drop, List.length_take]; rfl)) ?_
                    with_reducible refine (impl_HasCycle.calls k2 _ _ t787 _ _ t790 _ _ t793 (rd t801 x8_2) t805 _ ?side1 ?side2 ?side3 ?side4 ?side5 ?side6 A31.out).mono ?_
                    (case side1 => repeat (first | exact (Kd.R_reads' HO_798000.out).2.2 | (with_reducible refine Kd.C_alloc ?_ _) | (with_reducible refine Kd.C_drewN ?_ _) | (with_reducible refine Kd.C_drew ?_)))
                    (case side2 => exact (Kd.R_reads' HO_798000.out).2.1)
                    (case side3 => repeat (first | exact (Kd.R_reads' HO_798001.out).2.2 | (with_reducible refine Kd.C_alloc ?_ _) | (with_reducible refine Kd.C_drewN ?_ _) | (with_reducible refine Kd.C_drew ?_)))
                    (case side4 => exact (Kd.R_reads' HO_798001.out).2.1)
                    (case side5 => repeat (first | exact (Kd.R_reads' HO_798002.out).2.2 | (with_reducible refine Kd.C_alloc ?_ _) | (with_reducible refine Kd.C_drewN ?_ _) | (with_reducible refine Kd.C_drew ?_)))
                    (case side6 => exact (Kd.R_reads' HO_798002.out).2.1)
                    rintro e w34 ⟨rfl, hb⟩
                    have HS3_ := (hb.cell (World.block_lt_of_cell? _ _ (hHeld.2.2.2))).trans (hHeld.2.2.2)
                    refine ⟨_, rfl, ?_⟩
                    have n0_ := am (Kd.R_below (rl HO_6.out) hb)
                    have n1_ := am (Kd.R_below (rl HO_798000.out) hb)
                    have n2_ := am (Kd.R_below (rl HO_798001.out) hb)
                    have n3_ := am (Kd.R_below (rl HO_798002.out) hb)
                    have n4_ := am (blk_below (g := gb797) (o := .cells #[.slice Ao8 t787.length co8, .slice Ao10 t790.length co10, .slice Ao11 t793.length co11] 25 (0, 0)) (kl BK797.out) hb)
                    have n5_ := am (below_step (by repeat (first | (with_reducible first | exact HB.out | apply below_alloc | apply pw_below_drewN | apply below_drew1 | refine below_set ?_ GE797.out) | exact HB.out)) hb)
                    clear HO_6
                    clear HO_798000
                    clear HO_798001
                    clear HO_798002
                    clear BK797
                    clear HB
                    have HO_6 := n0_
                    have HO_798000 := n1_
                    have HO_798001 := n2_
                    have HO_798002 := n3_
                    have BK797 := n4_
                    have HB := n5_
                    clear n0_ n1_ n2_ n3_ n4_ n5_
                    (try clear hb)
                    (try clear hb2)
                    (try clear hk)
                    (try clear hi)
                    refine hK.out _ _ ⟨(blk_cell BK797.out 0).trans rfl, (blk_cell BK797.out 1).trans rfl, (blk_cell BK797.out 2).trans rfl, HS3_⟩ (fun hHeld => ?_)
                    clear hK K
                    refine norm_ (a' := ?_) ?_ ?_
                    rotate_left
                    · show Act.put _ (some 50) _ = _
                      simp only [Act.put, List.setIfInBounds_toArray, List.set_cons_zero, List.set_cons_succ, i64_w, i32_w]
                      rfl
                    refine pure_ (i := 8) (N := some 51) (v := ?_) (a' := ?_) #[true, true, true, true, true, true, true, true, true, false] rfl rfl (any_of HT_.out (by kernel_rfl)) (fun _ _ _ h => h) (Or.inl ⟨by rfl, ?_⟩) ?_ ?_
                    rotate_left
                    · intro w'
                      go_simp
                      with_reducible rfl
                    rotate_left
                    · simp only [Act.put, List.setIfInBounds_toArray, List.set_cons_zero, List.set_cons_succ, i64_w, i32_w]
                      rfl
                    refine pure_ (i := 9) (N := some 7) (v := ?_) (a' := ?_) #[true, true, true, true, true, true, true, true, true, true] rfl rfl (any_of HT_.out (by kernel_rfl)) (fun _ _ _ h => h) (Or.inl ⟨by rfl, ?_⟩) ?_ ?_
                    rotate_left
                    · intro w'
                      go_simp
                      with_reducible rfl
                    rotate_left
                    · simp only [Act.put, List.setIfInBounds_toArray, List.set_cons_zero, List.set_cons_succ, i64_w, i32_w]
                      rfl
                    refine done_ (done_of HT_.out (by kernel_rfl)) ?_
                    try go_wp2
                    go_roundg k2
                    case measure => have := HJ4.out; have := HK2.out; omega
                    case rel => exact ⟨(t805), (wrap64 (x8_2 + 1)), (by first | rfl | (simp; done) | (simp [*]; done)), (by first | rfl | (simp; done) | (simp [*]; done)), H', ⟨by have := HJ4.out; have := HK2.out; omega⟩, ⟨rl HO_6.out⟩, ⟨rl HO_798000.out⟩, ⟨rl HO_798001.out⟩, ⟨rl HO_798002.out⟩, ⟨kl BK797.out⟩, ⟨by repeat (first | (with_reducible first | exact HB.out | apply below_alloc | apply pw_below_drewN | apply below_drew1 | refine below_set ?_ GE797.out) | exact HB.out)⟩⟩
                  · rw [if_neg c30] at H
                    exact absurd H (by simp)
              · rw [if_neg c26] at H
                have c26b0 : decide (x8_2 < (t801.length : Int)) = false := decide_eq_false c26
                clear c26
                obtain rfl := Option.some.inj H
                obtain ⟨Ao35, co35, eo35⟩ := Kd.R_slice HO_6.out
                subst eo35
                go_wp2
                go_ret
                exact ⟨by first | rfl | (simp [errW_none, errW_some] <;> rfl) | (simp [*, errW_none, errW_some] <;> rfl), by repeat (first | (with_reducible first | exact HB.out | apply below_alloc | apply pw_below_drewN | apply below_drew1 | refine below_set ?_ GE797.out) | exact HB.out)⟩

/-- THE ONE PURE STATEMENT of laws_FnHasCycle: yours. -/
def laws_FnHasCycle.Pure : Prop := ∀ (l0 : List Int), l0.length ≤ maxLen → l0.length * 1 ≤ 140737488351232 → (∀ x ∈ l0, (Lit.int .u8 x).wf = true) → ∃ k, laws_FnHasCycle.f k l0 = some true
theorem laws_FnHasCycle.walk (P : laws_FnHasCycle.Pure) (a0 : Option Addr) (len0 cap0 : Nat) (z0 : List Int) (w : World) (w0 : (a0 = none ∧ len0 = 0 ∧ cap0 = 0 ∧ z0 = []) ∨ ∃ x, a0 = some x ∧ len0 ≤ cap0 ∧ cap0 ≤ maxLen ∧ z0.length = cap0 ∧ (∀ i, i < z0.length → w.cell? (x.add i) = some (.int .u8 (z0.getD i 0))) ∧ ∀ n ∈ z0, (Lit.int .u8 n).wf = true) (y0 : len0 * 1 ≤ 140737488351232) :
    Calls Try.prog 8 #[.slice a0 len0 cap0] w fun e w' => e = .returned (.bool true) ∧ Below w.heap.size w w' := by
  obtain ⟨l0, rfl, hr0, hm0, hw0, hc0⟩ := ReadsInt.ofRowC w0
  obtain ⟨k, h⟩ := P l0 hm0 y0 hw0
  refine (laws_FnHasCycle.calls k _ _ l0 true w (Kd.C_of_reads (d := (0 : Int)) (h1 := fun _ => rfl) hr0) hc0 h).mono ?_
  rintro e w' ⟨rfl, hd⟩
  exact ⟨rfl, hd⟩

end Go.Proofs.Ytcofdgeelojebab.A
