/- Contracts of functions of the given program (CLawsFnSourcesCount). No conditions beyond those stated. -/
import Derived.Test.YtcofdgeelojebabA0
import Derived.Test.YtcofdgeelojebabAImplReachable
import Derived.Test.YtcofdgeelojebabAImplSourcesOf
import Derived.Test.YtcofdgeelojebabALawsCcInts
import Derived.Test.YtcofdgeelojebabASpecDrawSourcesOf
import Derived.Test.YtcofdgeelojebabASpecSourcesOf
import Derived.Test.YtcofdgeelojebabA0
namespace Go.Proofs.Ytcofdgeelojebab.A
open Go.RowKit Go.Proofs.YtcofdgeelojebabW.PrintWords Go.Proofs.YtcofdgeelojebabW.PrintLast Go.Proofs.YtcofdgeelojebabW.PrintMore
attribute [local go_sem] max2_int min2_int max_two min_two max_three min_three max_four min_four   -- for this text's walks alone
set_option linter.unusedVariables false
set_option linter.unusedSimpArgs false

/-! ### laws_FnSourcesCount -/
mutual
def laws_FnSourcesCount.j0 : Nat → Int → List Int → Bool → List Int → List Int → List Int → Option (Bool)
  | 0, _, _, _, _, _, _ => none
  | k + 1, x4, x5, x29, x498000, x498001, x498002 => if x29 = true then ((spec_SourcesOf.f k x498000 x498001 x498002 x4).bind fun t505 => ((laws_ccInts.f k x5 t505).bind fun t508 => (some t508))) else ((impl_Reachable.f k x498000 x498001 x498002).bind fun t509 => (laws_FnSourcesCount.l0 k x4 x5 t509 0 x498000 x498001 x498002))
def laws_FnSourcesCount.l0 : Nat → Int → List Int → List Bool → Int → List Int → List Int → List Int → Option (Bool)
  | 0, _, _, _, _, _, _, _ => none
  | k + 1, x4, x5, x6, x7, x498000, x498001, x498002 => if x7 < (x5.length : Int) then (if 0 ≤ x7 then (if 0 ≤ (rd x5 x7) then (if (rd x5 x7) < (x6.length : Int) then (if rdOf false x6 (rd x5 x7) = true then (if 0 ≤ x4 then (if x4 < (x6.length : Int) then (if rdOf false x6 x4 = true then (laws_FnSourcesCount.l0 k x4 x5 x6 (wrap64 (x7 + 1)) x498000 x498001 x498002) else (none)) else (none)) else (none)) else (laws_FnSourcesCount.l0 k x4 x5 x6 (wrap64 (x7 + 1)) x498000 x498001 x498002)) else (none)) else (none)) else (none)) else (some (decide ((x5.length : Int) ≤ (x498000.length : Int))))
end
def laws_FnSourcesCount.f (k : Nat) (l0 : List Int) : Option (Bool) := if (l0.length : Int) > 1048576 then (some true) else ((spec_DrawSourcesOf.f k l0).bind fun bt487 => ((impl_SourcesOf.f k bt487.1 bt487.2.1 bt487.2.2.1 bt487.2.2.2).bind fun t498 => ((spec_SourcesOf.f k bt487.1 bt487.2.1 bt487.2.2.1 bt487.2.2.2).bind fun t501 => ((laws_ccInts.f k t498 t501).bind fun t504 => (if t504 = true then (laws_FnSourcesCount.j0 k bt487.2.2.2 t498 ((t498.length : Int) == 0) bt487.1 bt487.2.1 bt487.2.2.1) else (laws_FnSourcesCount.j0 k bt487.2.2.2 t498 true bt487.1 bt487.2.1 bt487.2.2.1))))))
theorem laws_FnSourcesCount.mono_l : ∀ k, (∀ y0 y1 y2 y3 y4 y5, LeO (laws_FnSourcesCount.j0 k y0 y1 y2 y3 y4 y5) (laws_FnSourcesCount.j0 (k + 1) y0 y1 y2 y3 y4 y5)) ∧ (∀ y0 y1 y2 y3 y4 y5 y6, LeO (laws_FnSourcesCount.l0 k y0 y1 y2 y3 y4 y5 y6) (laws_FnSourcesCount.l0 (k + 1) y0 y1 y2 y3 y4 y5 y6))
  | 0 => ⟨fun _ _ _ _ _ _ r h => by simp [laws_FnSourcesCount.j0] at h, fun _ _ _ _ _ _ _ r h => by simp [laws_FnSourcesCount.l0] at h⟩
  | k + 1 => by
    obtain ⟨ih0, ih1⟩ := laws_FnSourcesCount.mono_l k
    refine ⟨?_, ?_⟩
    · intro y0 y1 y2 y3 y4 y5
      unfold laws_FnSourcesCount.j0
      repeat' first
      | (with_reducible exact ih0 _ _ _ _ _ _)
      | (with_reducible exact ih1 _ _ _ _ _ _ _)
      | (with_reducible exact impl_Reachable.mono _ _ _ _)
      | (with_reducible exact impl_SourcesOf.mono _ _ _ _ _)
      | (with_reducible exact laws_ccInts.mono _ _ _)
      | (with_reducible exact spec_DrawSourcesOf.mono _ _)
      | (with_reducible exact spec_SourcesOf.mono _ _ _ _ _)
      | (with_reducible exact LeO.refl _)
      | (with_reducible exact LeO.none _)
      | (with_reducible refine LeO.ite ?_ ?_)
      | (with_reducible refine LeO.bind ?_ (fun _ => ?_))
      | exact ih0 _ _ _ _ _ _
      | exact ih1 _ _ _ _ _ _ _
      | exact impl_Reachable.mono _ _ _ _
      | exact impl_SourcesOf.mono _ _ _ _ _
      | exact laws_ccInts.mono _ _ _
      | exact spec_DrawSourcesOf.mono _ _
      | exact spec_SourcesOf.mono _ _ _ _ _
      | exact LeO.none _
      | refine LeO.ite ?_ ?_
      | refine LeO.bind ?_ (fun _ => ?_)
    · intro y0 y1 y2 y3 y4 y5 y6
      unfold laws_FnSourcesCount.l0
      repeat' first
      | (with_reducible exact ih0 _ _ _ _ _ _)
      | (with_reducible exact ih1 _ _ _ _ _ _ _)
      | (with_reducible exact impl_Reachable.mono _ _ _ _)
      | (with_reducible exact impl_SourcesOf.mono _ _ _ _ _)
      | (with_reducible exact laws_ccInts.mono _ _ _)
      | (with_reducible exact spec_DrawSourcesOf.mono _ _)
      | (with_reducible exact spec_SourcesOf.mono _ _ _ _ _)
      | (with_reducible exact LeO.refl _)
      | (with_reducible exact LeO.none _)
      | (with_reducible refine LeO.ite ?_ ?_)
      | (with_reducible refine LeO.bind ?_ (fun _ => ?_))
      | exact ih0 _ _ _ _ _ _
      | exact ih1 _ _ _ _ _ _ _
      | exact impl_Reachable.mono _ _ _ _
      | exact impl_SourcesOf.mono _ _ _ _ _
      | exact laws_ccInts.mono _ _ _
      | exact spec_DrawSourcesOf.mono _ _
      | exact spec_SourcesOf.mono _ _ _ _ _
      | exact LeO.none _
      | refine LeO.ite ?_ ?_
      | refine LeO.bind ?_ (fun _ => ?_)
theorem laws_FnSourcesCount.mono : ∀ a0 k, LeO (laws_FnSourcesCount.f k a0) (laws_FnSourcesCount.f (k + 1) a0) := by
  intro a0 k
  obtain ⟨ih0, ih1⟩ := laws_FnSourcesCount.mono_l k
  unfold laws_FnSourcesCount.f
  repeat' first
      | (with_reducible exact ih0 _ _ _ _ _ _)
      | (with_reducible exact ih1 _ _ _ _ _ _ _)
      | (with_reducible exact impl_Reachable.mono _ _ _ _)
      | (with_reducible exact impl_SourcesOf.mono _ _ _ _ _)
      | (with_reducible exact laws_ccInts.mono _ _ _)
      | (with_reducible exact spec_DrawSourcesOf.mono _ _)
      | (with_reducible exact spec_SourcesOf.mono _ _ _ _ _)
      | (with_reducible exact LeO.refl _)
      | (with_reducible exact LeO.none _)
      | (with_reducible refine LeO.ite ?_ ?_)
      | (with_reducible refine LeO.bind ?_ (fun _ => ?_))
      | exact ih0 _ _ _ _ _ _
      | exact ih1 _ _ _ _ _ _ _
      | exact impl_Reachable.mono _ _ _ _
      | exact impl_SourcesOf.mono _ _ _ _ _
      | exact laws_ccInts.mono _ _ _
      | exact spec_DrawSourcesOf.mono _ _
      | exact spec_SourcesOf.mono _ _ _ _ _
      | exact LeO.none _
      | refine LeO.ite ?_ ?_
      | refine LeO.bind ?_ (fun _ => ?_)
set_option maxHeartbeats 8000000 in
set_option maxRecDepth 100000 in
theorem laws_FnSourcesCount.calls (k : Nat) (A0 : Option Addr) (c0 : Nat) (l0 : List Int) (r : Bool) (w : World) (hr0 : Kd.C (Kd.int .u8) w A0 l0.length l0) (hc0 : l0.length ≤ c0) (h : laws_FnSourcesCount.f k l0 = some r) :
    Calls Try.prog 4 #[.slice A0 l0.length c0] w fun e w' => e = .returned (.bool r) ∧ Below w.heap.size w w' := by
  have hu25 := Try.underlying25
  have HR0 := am hr0
  have HC0 := am hc0
  clear hr0 hc0
  have HB := am (Below.refl w.heap.size w)
  have H : (if (l0.length : Int) > 1048576 then (some true) else ((spec_DrawSourcesOf.f k l0).bind fun bt487 => ((impl_SourcesOf.f k bt487.1 bt487.2.1 bt487.2.2.1 bt487.2.2.2).bind fun t498 => ((spec_SourcesOf.f k bt487.1 bt487.2.1 bt487.2.2.1 bt487.2.2.2).bind fun t501 => ((laws_ccInts.f k t498 t501).bind fun t504 => (if t504 = true then (laws_FnSourcesCount.j0 k bt487.2.2.2 t498 ((t498.length : Int) == 0) bt487.1 bt487.2.1 bt487.2.2.1) else (laws_FnSourcesCount.j0 k bt487.2.2.2 t498 true bt487.1 bt487.2.1 bt487.2.2.1))))))) = some r := h
  clear h
  by_cases c2 : (l0.length : Int) > 1048576
  · rw [if_pos c2] at H
    have c2b0 : decide (1048576 < (l0.length : Int)) = true := decide_eq_true c2
    have c2b1 : decide (1048576 < l0.length) = true := decide_eq_true (by omega)
    clear c2
    obtain rfl := Option.some.inj H
    go_enter Try.func4, Try.ntmps4
    go_wp2
    go_ret
    exact ⟨by first | rfl | (simp [errW_none, errW_some] <;> rfl) | (simp [*, errW_none, errW_some] <;> rfl), by repeat (first | (with_reducible first | exact HB.out | apply below_alloc | apply pw_below_drewN | apply below_drew1) | exact HB.out)⟩
  · rw [if_neg c2] at H
    have c2b0 : decide (1048576 < (l0.length : Int)) = false := decide_eq_false c2
    have c2b1 : decide (1048576 < l0.length) = false := decide_eq_false (by omega)
    clear c2
    replace H := Option.bind_eq_some_iff.mp H
    obtain ⟨⟨t487, t490, t493, t496⟩, A30, H⟩ := H
    replace H : ((impl_SourcesOf.f k t487 t490 t493 t496).bind fun t498 => ((spec_SourcesOf.f k t487 t490 t493 t496).bind fun t501 => ((laws_ccInts.f k t498 t501).bind fun t504 => (if t504 = true then (laws_FnSourcesCount.j0 k t496 t498 ((t498.length : Int) == 0) t487 t490 t493) else (laws_FnSourcesCount.j0 k t496 t498 true t487 t490 t493))))) = some r := H
    have A3 := am A30
    clear A30
    replace H := Option.bind_eq_some_iff.mp H
    obtain ⟨t498, A40, H⟩ := H
    replace H : ((spec_SourcesOf.f k t487 t490 t493 t496).bind fun t501 => ((laws_ccInts.f k t498 t501).bind fun t504 => (if t504 = true then (laws_FnSourcesCount.j0 k t496 t498 ((t498.length : Int) == 0) t487 t490 t493) else (laws_FnSourcesCount.j0 k t496 t498 true t487 t490 t493)))) = some r := H
    have A4 := am A40
    clear A40
    have HC5 := am H
    clear H
    go_enter Try.func4, Try.ntmps4
    go_upto_region 5 with (first | ((with_reducible refine gate_callee (f := 21) rfl ?_); refine goesL_ (some 13) rfl rfl Try.func21 (by kernel_rfl) rfl #[.slice A0 l0.length c0] rfl (by (try simp only [List.map_toArray, List.map_cons, List.map_nil]); first | done | rfl | (simp only [List.length_drop, List.length_take]; rfl)) ?_; (with_reducible refine (spec_DrawSourcesOf.calls k _ _ l0 t487 t490 t493 t496 _ ?side1 ?side2 A3.out).mono ?_); (case side1 => repeat (first | exact HR0.out | (with_reducible refine Kd.C_alloc ?_ _) | (with_reducible refine Kd.C_drewN ?_ _) | (with_reducible refine Kd.C_drew ?_))); (case side2 => exact HC0.out); rintro e w6 ⟨v488, v491, v494, rfl, ho0, ho1, ho2, hb⟩; refine ⟨_, rfl, ?_⟩; have n0_ := am (Kd.R_lower ho0 (below_size (bl HB.out))); have n1_ := am (Kd.R_lower ho1 (below_size (bl HB.out))); have n2_ := am (Kd.R_lower ho2 (below_size (bl HB.out))); have n3_ := am (below_step (bl HB.out) hb); clear HB; have HO489 := n0_; have HO492 := n1_; have HO495 := n2_; have HB := n3_; clear n0_ n1_ n2_ n3_; (try clear hb); (try clear hb2); (try clear hk); (try clear hi); (try clear ho0); (try clear ho1); (try clear ho2)) | ((with_reducible refine gate_dst (N := 3) rfl ?_); (try (refine gate_guard (by rfl) ?_; dsimp only)); refine box_event ?hg (N := 3) ?hd (cs := #[.slice none 0 0, .slice none 0 0, .slice none 0 0]) (t := 25) ?hr ?_; (case hd => rfl); (case hg => rfl); (case hr => first | (go_simp; done) | (go_simp; rfl)); intro gb497 hg w7 hbox hb; have n0_ := am (Kd.R_below (rl HO489.out) hb); have n1_ := am (Kd.R_below (rl HO492.out) hb); have n2_ := am (Kd.R_below (rl HO495.out) hb); have n3_ := am (below_step (bl HB.out) hb); have n4_ := am (hbox); have n5_ := am ((by rw [hg]; exact (below_size (bl HB.out)) : w.heap.size ≤ gb497)); have n6_ := am ((by rw [hg]; exact (below_size (bl HB.out)) : w.heap.size ≤ gb497)); clear HO489; clear HO492; clear HO495; clear HB; have HO489 := n0_; have HO492 := n1_; have HO495 := n2_; have HB := n3_; have BK497 := n4_; have GW497 := n5_; have GE497 := n6_; clear n0_ n1_ n2_ n3_ n4_ n5_ n6_; clear hb hbox hg; obtain ⟨Ao8, co8, eo8⟩ := Kd.R_slice HO489.out; subst eo8; have hcz9_0 : w7.cell? ⟨gb497, 0, none⟩ = some (.slice none 0 0) := (blk_cell BK497.out 0).trans rfl; have hcz9_1 : w7.cell? ⟨gb497, 1, none⟩ = some (.slice none 0 0) := (blk_cell BK497.out 1).trans rfl; have hcz9_2 : w7.cell? ⟨gb497, 2, none⟩ = some (.slice none 0 0) := (blk_cell BK497.out 2).trans rfl; have hfz9_0 := blk_frozen BK497.out 0; have hfz9_1 := blk_frozen BK497.out 1; have hfz9_2 := blk_frozen BK497.out 2; obtain ⟨Ao10, co10, eo10⟩ := Kd.R_slice HO492.out; subst eo10; obtain ⟨Ao11, co11, eo11⟩ := Kd.R_slice HO495.out; subst eo11) | ((with_reducible refine gate_callee (f := 22) rfl ?_); refine goesL_ (some 18) rfl rfl Try.func22 (by kernel_rfl) rfl #[.agg #[.slice Ao8 t487.length co8, .slice Ao10 t490.length co10, .slice Ao11 t493.length co11], .int .i64 t496] rfl (by (try simp only [List.map_toArray, List.map_cons, List.map_nil]); first | done | rfl | (simp only [List.length_drop, List.length_take]; rfl)) ?_; (with_reducible refine (impl_SourcesOf.calls k _ _ t487 _ _ t490 _ _ t493 t496 t498 _ ?side1 ?side2 ?side3 ?side4 ?side5 ?side6 A4.out).mono ?_); (case side1 => exact (Kd.R_reads' (rl ((far3 HO489.out BK497.out (by decide) (.slice Ao8 t487.length co8) (.slice Ao10 t490.length co10) (.slice Ao11 t493.length co11))))).2.2); (case side2 => exact (Kd.R_reads' HO489.out).2.1); (case side3 => exact (Kd.R_reads' (rl ((far3 HO492.out BK497.out (by decide) (.slice Ao8 t487.length co8) (.slice Ao10 t490.length co10) (.slice Ao11 t493.length co11))))).2.2); (case side4 => exact (Kd.R_reads' HO492.out).2.1); (case side5 => exact (Kd.R_reads' (rl ((far3 HO495.out BK497.out (by decide) (.slice Ao8 t487.length co8) (.slice Ao10 t490.length co10) (.slice Ao11 t493.length co11))))).2.2); (case side6 => exact (Kd.R_reads' HO495.out).2.1); rintro e w12 ⟨v499, rfl, ho0, hb⟩; refine ⟨_, rfl, ?_⟩; have n0_ := am (Kd.R_elder' (rl ((far3 HO489.out BK497.out (by decide) (.slice Ao8 t487.length co8) (.slice Ao10 t490.length co10) (.slice Ao11 t493.length co11)))) (Kd.R_base ho0) hb); have n1_ := am (Kd.R_elder' (rl ((far3 HO492.out BK497.out (by decide) (.slice Ao8 t487.length co8) (.slice Ao10 t490.length co10) (.slice Ao11 t493.length co11)))) (Kd.R_base ho0) hb); have n2_ := am (Kd.R_elder' (rl ((far3 HO495.out BK497.out (by decide) (.slice Ao8 t487.length co8) (.slice Ao10 t490.length co10) (.slice Ao11 t493.length co11)))) (Kd.R_base ho0) hb); have n3_ := am (Kd.R_lower (Kd.R_new' (Kd.R_new' (Kd.R_new' ho0 (Kd.R_lt (rl ((far3 HO489.out BK497.out (by decide) (.slice Ao8 t487.length co8) (.slice Ao10 t490.length co10) (.slice Ao11 t493.length co11)))))) (Kd.R_lt (rl ((far3 HO492.out BK497.out (by decide) (.slice Ao8 t487.length co8) (.slice Ao10 t490.length co10) (.slice Ao11 t493.length co11)))))) (Kd.R_lt (rl ((far3 HO495.out BK497.out (by decide) (.slice Ao8 t487.length co8) (.slice Ao10 t490.length co10) (.slice Ao11 t493.length co11)))))) (below_size (by repeat (first | (with_reducible first | exact HB.out | apply below_alloc | apply pw_below_drewN | apply below_drew1 | refine below_set ?_ GE497.out) | exact HB.out)))); have n4_ := am (blk_below (g := gb497) (o := .cells #[.slice Ao8 t487.length co8, .slice Ao10 t490.length co10, .slice Ao11 t493.length co11] 25 (0, 0)) (by (with_reducible repeat (first | refine blk_drewN ?_ _ | refine blk_drew ?_ | refine blk_alloc ?_ _)); refine blk_put (cs := #[.slice Ao8 t487.length co8, .slice Ao10 t490.length co10, .slice none 0 0]) ?_ 2 _ rfl; (with_reducible repeat (first | refine blk_drewN ?_ _ | refine blk_drew ?_ | refine blk_alloc ?_ _)); refine blk_put (cs := #[.slice Ao8 t487.length co8, .slice none 0 0, .slice none 0 0]) ?_ 1 _ rfl; (with_reducible repeat (first | refine blk_drewN ?_ _ | refine blk_drew ?_ | refine blk_alloc ?_ _)); refine blk_put (cs := #[.slice none 0 0, .slice none 0 0, .slice none 0 0]) ?_ 0 _ rfl; (with_reducible repeat (first | refine blk_drewN ?_ _ | refine blk_drew ?_ | refine blk_alloc ?_ _)); exact BK497.out) hb); have n5_ := am (below_step (by repeat (first | (with_reducible first | exact HB.out | apply below_alloc | apply pw_below_drewN | apply below_drew1 | refine below_set ?_ GE497.out) | exact HB.out)) hb); clear HO489; clear HO492; clear HO495; clear BK497; clear HB; have HO489 := n0_; have HO492 := n1_; have HO495 := n2_; have HO500 := n3_; have BK497 := n4_; have HB := n5_; clear n0_ n1_ n2_ n3_ n4_ n5_; (try clear hb); (try clear hb2); (try clear hk); (try clear hi); (try clear ho0)))
    (try simp only [Act.put, List.setIfInBounds_toArray, List.set_cons_zero, List.set_cons_succ])
    go_cut [29] (fun v29 wc => ∃ (kq : Nat) (x29_4 : Bool), v29 = .bool x29_4 ∧ Aside0 (laws_FnSourcesCount.j0 kq t496 t498 x29_4 t487 t490 t493 = some r) ∧ Aside0 (kq ≤ k) ∧ Aside0 (Kd.R (Kd.int .i64) 3 wc w.heap.size (fun k_ => some k_ ≠ ((.slice Ao8 t487.length co8) : Value).ownBlock ∧ some k_ ≠ ((.slice Ao10 t490.length co10) : Value).ownBlock ∧ some k_ ≠ ((.slice Ao11 t493.length co11) : Value).ownBlock) v499 t498) ∧ Aside0 (Kd.R (Kd.int .i64) 3 wc w.heap.size (fun k_ => some k_ ≠ (v499 : Value).ownBlock ∧ some k_ ≠ ((.slice Ao10 t490.length co10) : Value).ownBlock ∧ some k_ ≠ ((.slice Ao11 t493.length co11) : Value).ownBlock) (.slice Ao8 t487.length co8) t487) ∧ Aside0 (Kd.R (Kd.int .i64) 3 wc w.heap.size (fun k_ => some k_ ≠ (v499 : Value).ownBlock ∧ some k_ ≠ ((.slice Ao8 t487.length co8) : Value).ownBlock ∧ some k_ ≠ ((.slice Ao11 t493.length co11) : Value).ownBlock) (.slice Ao10 t490.length co10) t490) ∧ Aside0 (Kd.R (Kd.int .i64) 3 wc w.heap.size (fun k_ => some k_ ≠ (v499 : Value).ownBlock ∧ some k_ ≠ ((.slice Ao8 t487.length co8) : Value).ownBlock ∧ some k_ ≠ ((.slice Ao10 t490.length co10) : Value).ownBlock) (.slice Ao11 t493.length co11) t493) ∧ Aside0 (wc.heap[gb497]? = some (.cells #[(.slice Ao8 t487.length co8), (.slice Ao10 t490.length co10), (.slice Ao11 t493.length co11)] 25 (0, 0))) ∧ Aside0 (Below w.heap.size w wc))
    case first =>
      have H := HC5.out
      clear HC5
      replace H := Option.bind_eq_some_iff.mp H
      obtain ⟨t501, A130, H⟩ := H
      replace H : ((laws_ccInts.f k t498 t501).bind fun t504 => (if t504 = true then (laws_FnSourcesCount.j0 k t496 t498 ((t498.length : Int) == 0) t487 t490 t493) else (laws_FnSourcesCount.j0 k t496 t498 true t487 t490 t493))) = some r := H
      have A13 := am A130
      clear A130
      replace H := Option.bind_eq_some_iff.mp H
      obtain ⟨t504, A140, H⟩ := H
      replace H : (if t504 = true then (laws_FnSourcesCount.j0 k t496 t498 ((t498.length : Int) == 0) t487 t490 t493) else (laws_FnSourcesCount.j0 k t496 t498 true t487 t490 t493)) = some r := H
      have A14 := am A140
      clear A140
      by_cases c15 : t504 = true
      · subst c15
        have H1 : (laws_FnSourcesCount.j0 k t496 t498 ((t498.length : Int) == 0) t487 t490 t493) = some r := by rw [if_pos rfl] at H; exact H
        clear H
        have H := H1
        clear H1
        have H' := am H
        clear H
        have hcz16_0 : w12.cell? ⟨gb497, 0, none⟩ = some (.slice Ao8 t487.length co8) := (blk_cell BK497.out 0).trans rfl
        have hcz16_1 : w12.cell? ⟨gb497, 1, none⟩ = some (.slice Ao10 t490.length co10) := (blk_cell BK497.out 1).trans rfl
        have hcz16_2 : w12.cell? ⟨gb497, 2, none⟩ = some (.slice Ao11 t493.length co11) := (blk_cell BK497.out 2).trans rfl
        have hfz16_0 := blk_frozen BK497.out 0
        have hfz16_1 := blk_frozen BK497.out 1
        have hfz16_2 := blk_frozen BK497.out 2
        go_wp2_with (first | ((with_reducible refine gate_callee (f := 23) rfl ?_); refine goesL_ (some 22) rfl rfl Try.func23 (by kernel_rfl) rfl #[.agg #[.slice Ao8 t487.length co8, .slice Ao10 t490.length co10, .slice Ao11 t493.length co11], .int .i64 t496] rfl (by (try simp only [List.map_toArray, List.map_cons, List.map_nil]); first | done | rfl | (simp only [List.length_drop, List.length_take]; rfl)) ?_; (with_reducible refine (spec_SourcesOf.calls k _ _ t487 _ _ t490 _ _ t493 t496 t501 _ ?side1 ?side2 ?side3 ?side4 ?side5 ?side6 A13.out).mono ?_); (case side1 => repeat (first | exact (Kd.R_reads' HO489.out).2.2 | (with_reducible refine Kd.C_alloc ?_ _) | (with_reducible refine Kd.C_drewN ?_ _) | (with_reducible refine Kd.C_drew ?_))); (case side2 => exact (Kd.R_reads' HO489.out).2.1); (case side3 => repeat (first | exact (Kd.R_reads' HO492.out).2.2 | (with_reducible refine Kd.C_alloc ?_ _) | (with_reducible refine Kd.C_drewN ?_ _) | (with_reducible refine Kd.C_drew ?_))); (case side4 => exact (Kd.R_reads' HO492.out).2.1); (case side5 => repeat (first | exact (Kd.R_reads' HO495.out).2.2 | (with_reducible refine Kd.C_alloc ?_ _) | (with_reducible refine Kd.C_drewN ?_ _) | (with_reducible refine Kd.C_drew ?_))); (case side6 => exact (Kd.R_reads' HO495.out).2.1); rintro e w17 ⟨v502, rfl, ho0, hb⟩; refine ⟨_, rfl, ?_⟩; have n0_ := am (Kd.R_elder' (rl HO489.out) (Kd.R_base ho0) hb); have n1_ := am (Kd.R_elder' (rl HO492.out) (Kd.R_base ho0) hb); have n2_ := am (Kd.R_elder' (rl HO495.out) (Kd.R_base ho0) hb); have n3_ := am (Kd.R_elder' (rl HO500.out) (Kd.R_base ho0) hb); have n4_ := am (Kd.R_lower (Kd.R_new' (Kd.R_new' (Kd.R_new' (Kd.R_new' ho0 (Kd.R_lt (rl HO489.out))) (Kd.R_lt (rl HO492.out))) (Kd.R_lt (rl HO495.out))) (Kd.R_lt (rl HO500.out))) (below_size (by repeat (first | (with_reducible first | exact HB.out | apply below_alloc | apply pw_below_drewN | apply below_drew1 | refine below_set ?_ GE497.out) | exact HB.out)))); have n5_ := am (blk_below (g := gb497) (o := .cells #[.slice Ao8 t487.length co8, .slice Ao10 t490.length co10, .slice Ao11 t493.length co11] 25 (0, 0)) (kl BK497.out) hb); have n6_ := am (below_step (by repeat (first | (with_reducible first | exact HB.out | apply below_alloc | apply pw_below_drewN | apply below_drew1 | refine below_set ?_ GE497.out) | exact HB.out)) hb); clear HO489; clear HO492; clear HO495; clear HO500; clear BK497; clear HB; have HO489 := n0_; have HO492 := n1_; have HO495 := n2_; have HO500 := n3_; have HO503 := n4_; have BK497 := n5_; have HB := n6_; clear n0_ n1_ n2_ n3_ n4_ n5_ n6_; (try clear hb); (try clear hb2); (try clear hk); (try clear hi); (try clear ho0); obtain ⟨Ao18, co18, eo18⟩ := Kd.R_slice HO500.out; subst eo18; obtain ⟨Ao19, co19, eo19⟩ := Kd.R_slice HO503.out; subst eo19) | ((with_reducible refine gate_callee (f := 20) rfl ?_); refine goesL_ (some 23) rfl rfl Try.func20 (by kernel_rfl) rfl #[.slice Ao18 t498.length co18, .slice Ao19 t501.length co19] rfl (by (try simp only [List.map_toArray, List.map_cons, List.map_nil]); first | done | rfl | (simp only [List.length_drop, List.length_take]; rfl)) ?_; (with_reducible refine (laws_ccInts.calls k _ _ t498 _ _ t501 true _ ?side1 ?side2 ?side3 ?side4 A14.out).mono ?_); (case side1 => repeat (first | exact (Kd.R_reads' HO500.out).2.2 | (with_reducible refine Kd.C_alloc ?_ _) | (with_reducible refine Kd.C_drewN ?_ _) | (with_reducible refine Kd.C_drew ?_))); (case side2 => exact (Kd.R_reads' HO500.out).2.1); (case side3 => repeat (first | exact (Kd.R_reads' HO503.out).2.2 | (with_reducible refine Kd.C_alloc ?_ _) | (with_reducible refine Kd.C_drewN ?_ _) | (with_reducible refine Kd.C_drew ?_))); (case side4 => exact (Kd.R_reads' HO503.out).2.1); rintro e w' ⟨rfl, ⟨nd, rfl⟩⟩; refine ⟨_, rfl, ?_⟩))
        go_meet
        case rel => exact ⟨_, (((t498.length : Int) == 0)), (by first | rfl | (simp; done) | (simp [*]; done)), H', ⟨by first | omega | exact Nat.le_refl _⟩, ⟨rl (Kd.R_mono HO500.out (fun _ hk => by first | exact ⟨hk.1.1.1.2, ⟨hk.1.1.2, hk.1.2⟩⟩ | (simp only [ne_eq] at hk ⊢; simp only [hk, not_false_eq_true, and_self])))⟩, ⟨rl (Kd.R_mono HO489.out (fun _ hk => by first | exact ⟨hk.1.2, ⟨hk.1.1.1, hk.1.1.2⟩⟩ | (simp only [ne_eq] at hk ⊢; simp only [hk, not_false_eq_true, and_self])))⟩, ⟨rl (Kd.R_mono HO492.out (fun _ hk => by first | exact ⟨hk.1.2, ⟨hk.1.1.1, hk.1.1.2⟩⟩ | (simp only [ne_eq] at hk ⊢; simp only [hk, not_false_eq_true, and_self])))⟩, ⟨rl (Kd.R_mono HO495.out (fun _ hk => by first | exact ⟨hk.1.2, ⟨hk.1.1.1, hk.1.1.2⟩⟩ | (simp only [ne_eq] at hk ⊢; simp only [hk, not_false_eq_true, and_self])))⟩, ⟨kl BK497.out⟩, ⟨by repeat (first | (with_reducible first | exact HB.out | apply below_alloc | apply pw_below_drewN | apply below_drew1 | refine below_set ?_ GE497.out) | exact HB.out)⟩⟩
      · replace c15 := Bool.eq_false_iff.mpr c15
        subst c15
        have H1 : (laws_FnSourcesCount.j0 k t496 t498 true t487 t490 t493) = some r := by rw [if_neg (show ¬ (false = true) by decide)] at H; exact H
        clear H
        have H := H1
        clear H1
        have H' := am H
        clear H
        have hcz20_0 : w12.cell? ⟨gb497, 0, none⟩ = some (.slice Ao8 t487.length co8) := (blk_cell BK497.out 0).trans rfl
        have hcz20_1 : w12.cell? ⟨gb497, 1, none⟩ = some (.slice Ao10 t490.length co10) := (blk_cell BK497.out 1).trans rfl
        have hcz20_2 : w12.cell? ⟨gb497, 2, none⟩ = some (.slice Ao11 t493.length co11) := (blk_cell BK497.out 2).trans rfl
        have hfz20_0 := blk_frozen BK497.out 0
        have hfz20_1 := blk_frozen BK497.out 1
        have hfz20_2 := blk_frozen BK497.out 2
        go_wp2_with (first | ((with_reducible refine gate_callee (f := 23) rfl ?_); refine goesL_ (some 22) rfl rfl Try.func23 (by kernel_rfl) rfl #[.agg #[.slice Ao8 t487.length co8, .slice Ao10 t490.length co10, .slice Ao11 t493.length co11], .int .i64 t496] rfl (by (try simp only [List.map_toArray, List.map_cons, List.map_nil]); first | done | rfl | (simp only [List.length_drop, List.length_take]; rfl)) ?_; (with_reducible refine (spec_SourcesOf.calls k _ _ t487 _ _ t490 _ _ t493 t496 t501 _ ?side1 ?side2 ?side3 ?side4 ?side5 ?side6 A13.out).mono ?_); (case side1 => repeat (first | exact (Kd.R_reads' HO489.out).2.2 | (with_reducible refine Kd.C_alloc ?_ _) | (with_reducible refine Kd.C_drewN ?_ _) | (with_reducible refine Kd.C_drew ?_))); (case side2 => exact (Kd.R_reads' HO489.out).2.1); (case side3 => repeat (first | exact (Kd.R_reads' HO492.out).2.2 | (with_reducible refine Kd.C_alloc ?_ _) | (with_reducible refine Kd.C_drewN ?_ _) | (with_reducible refine Kd.C_drew ?_))); (case side4 => exact (Kd.R_reads' HO492.out).2.1); (case side5 => repeat (first | exact (Kd.R_reads' HO495.out).2.2 | (with_reducible refine Kd.C_alloc ?_ _) | (with_reducible refine Kd.C_drewN ?_ _) | (with_reducible refine Kd.C_drew ?_))); (case side6 => exact (Kd.R_reads' HO495.out).2.1); rintro e w21 ⟨v502, rfl, ho0, hb⟩; refine ⟨_, rfl, ?_⟩; have n0_ := am (Kd.R_elder' (rl HO489.out) (Kd.R_base ho0) hb); have n1_ := am (Kd.R_elder' (rl HO492.out) (Kd.R_base ho0) hb); have n2_ := am (Kd.R_elder' (rl HO495.out) (Kd.R_base ho0) hb); have n3_ := am (Kd.R_elder' (rl HO500.out) (Kd.R_base ho0) hb); have n4_ := am (Kd.R_lower (Kd.R_new' (Kd.R_new' (Kd.R_new' (Kd.R_new' ho0 (Kd.R_lt (rl HO489.out))) (Kd.R_lt (rl HO492.out))) (Kd.R_lt (rl HO495.out))) (Kd.R_lt (rl HO500.out))) (below_size (by repeat (first | (with_reducible first | exact HB.out | apply below_alloc | apply pw_below_drewN | apply below_drew1 | refine below_set ?_ GE497.out) | exact HB.out)))); have n5_ := am (blk_below (g := gb497) (o := .cells #[.slice Ao8 t487.length co8, .slice Ao10 t490.length co10, .slice Ao11 t493.length co11] 25 (0, 0)) (kl BK497.out) hb); have n6_ := am (below_step (by repeat (first | (with_reducible first | exact HB.out | apply below_alloc | apply pw_below_drewN | apply below_drew1 | refine below_set ?_ GE497.out) | exact HB.out)) hb); clear HO489; clear HO492; clear HO495; clear HO500; clear BK497; clear HB; have HO489 := n0_; have HO492 := n1_; have HO495 := n2_; have HO500 := n3_; have HO503 := n4_; have BK497 := n5_; have HB := n6_; clear n0_ n1_ n2_ n3_ n4_ n5_ n6_; (try clear hb); (try clear hb2); (try clear hk); (try clear hi); (try clear ho0); obtain ⟨Ao22, co22, eo22⟩ := Kd.R_slice HO500.out; subst eo22; obtain ⟨Ao23, co23, eo23⟩ := Kd.R_slice HO503.out; subst eo23) | ((with_reducible refine gate_callee (f := 20) rfl ?_); refine goesL_ (some 23) rfl rfl Try.func20 (by kernel_rfl) rfl #[.slice Ao22 t498.length co22, .slice Ao23 t501.length co23] rfl (by (try simp only [List.map_toArray, List.map_cons, List.map_nil]); first | done | rfl | (simp only [List.length_drop, List.length_take]; rfl)) ?_; (with_reducible refine (laws_ccInts.calls k _ _ t498 _ _ t501 false _ ?side1 ?side2 ?side3 ?side4 A14.out).mono ?_); (case side1 => repeat (first | exact (Kd.R_reads' HO500.out).2.2 | (with_reducible refine Kd.C_alloc ?_ _) | (with_reducible refine Kd.C_drewN ?_ _) | (with_reducible refine Kd.C_drew ?_))); (case side2 => exact (Kd.R_reads' HO500.out).2.1); (case side3 => repeat (first | exact (Kd.R_reads' HO503.out).2.2 | (with_reducible refine Kd.C_alloc ?_ _) | (with_reducible refine Kd.C_drewN ?_ _) | (with_reducible refine Kd.C_drew ?_))); (case side4 => exact (Kd.R_reads' HO503.out).2.1); rintro e w' ⟨rfl, ⟨nd, rfl⟩⟩; refine ⟨_, rfl, ?_⟩))
        go_meet
        case rel => exact ⟨_, (true), (by first | rfl | (simp; done) | (simp [*]; done)), H', ⟨by first | omega | exact Nat.le_refl _⟩, ⟨rl (Kd.R_mono HO500.out (fun _ hk => by first | exact ⟨hk.1.1.1.2, ⟨hk.1.1.2, hk.1.2⟩⟩ | (simp only [ne_eq] at hk ⊢; simp only [hk, not_false_eq_true, and_self])))⟩, ⟨rl (Kd.R_mono HO489.out (fun _ hk => by first | exact ⟨hk.1.2, ⟨hk.1.1.1, hk.1.1.2⟩⟩ | (simp only [ne_eq] at hk ⊢; simp only [hk, not_false_eq_true, and_self])))⟩, ⟨rl (Kd.R_mono HO492.out (fun _ hk => by first | exact ⟨hk.1.2, ⟨hk.1.1.1, hk.1.1.2⟩⟩ | (simp only [ne_eq] at hk ⊢; simp only [hk, not_false_eq_true, and_self])))⟩, ⟨rl (Kd.R_mono HO495.out (fun _ hk => by first | exact ⟨hk.1.2, ⟨hk.1.1.1, hk.1.1.2⟩⟩ | (simp only [ne_eq] at hk ⊢; simp only [hk, not_false_eq_true, and_self])))⟩, ⟨kl BK497.out⟩, ⟨by repeat (first | (with_reducible first | exact HB.out | apply below_alloc | apply pw_below_drewN | apply below_drew1 | refine below_set ?_ GE497.out) | exact HB.out)⟩⟩
    case rest =>
      clear HC5
      try clear c1
      try clear c2
      try clear c2b0
      try clear c2b1
      try clear p2
      try clear c4
      try clear c15
      try clear c20
      try clear c21
      try clear c22
      try clear c23
      try clear hcz16_0
      try clear hcz16_1
      try clear hcz16_2
      try clear hcz20_0
      try clear hcz20_1
      try clear hcz20_2
      try clear hcz9_0
      try clear hcz9_1
      try clear hcz9_2
      try clear hfz16_0
      try clear hfz16_1
      try clear hfz16_2
      try clear hfz20_0
      try clear hfz20_1
      try clear hfz20_2
      try clear hfz9_0
      try clear hfz9_1
      try clear hfz9_2
      obtain ⟨kq, x29_4, rfl, HA, HJ4, HO_5, HO_498000, HO_498001, HO_498002, BK497, HB⟩ := hcut
      cases kq with
      | zero => exact absurd HA.out (by simp [laws_FnSourcesCount.j0])
      | succ kj4 =>
        have H := HA.out
        clear HA
        simp only [laws_FnSourcesCount.j0] at H
        by_cases c24 : x29_4 = true
        · subst c24
          have H1 : ((spec_SourcesOf.f kj4 t487 t490 t493 t496).bind fun t505 => ((laws_ccInts.f kj4 t498 t505).bind fun t508 => (some t508))) = some r := by rw [if_pos rfl] at H; exact H
          clear H
          have H := H1
          clear H1
          replace H := Option.bind_eq_some_iff.mp H
          obtain ⟨t505, A250, H⟩ := H
          replace H : ((laws_ccInts.f kj4 t498 t505).bind fun t508 => (some t508)) = some r := H
          have A25 := am A250
          clear A250
          replace H := Option.bind_eq_some_iff.mp H
          obtain ⟨t508, A260, H⟩ := H
          replace H : (some t508) = some r := H
          have A26 := am A260
          clear A260
          obtain rfl := Option.some.inj H
          have hcz27_0 : wc.cell? ⟨gb497, 0, none⟩ = some (.slice Ao8 t487.length co8) := (blk_cell BK497.out 0).trans rfl
          have hcz27_1 : wc.cell? ⟨gb497, 1, none⟩ = some (.slice Ao10 t490.length co10) := (blk_cell BK497.out 1).trans rfl
          have hcz27_2 : wc.cell? ⟨gb497, 2, none⟩ = some (.slice Ao11 t493.length co11) := (blk_cell BK497.out 2).trans rfl
          have hfz27_0 := blk_frozen BK497.out 0
          have hfz27_1 := blk_frozen BK497.out 1
          have hfz27_2 := blk_frozen BK497.out 2
          go_wp2_with (first | ((with_reducible refine gate_callee (f := 23) rfl ?_); refine goesL_ (some 33) rfl rfl Try.func23 (by kernel_rfl) rfl #[.agg #[.slice Ao8 t487.length co8, .slice Ao10 t490.length co10, .slice Ao11 t493.length co11], .int .i64 t496] rfl (by (try simp only [List.map_toArray, List.map_cons, List.map_nil]); first | done | rfl | (simp only [List.length_drop, List.length_take]; rfl)) ?_; (with_reducible refine (spec_SourcesOf.calls kj4 _ _ t487 _ _ t490 _ _ t493 t496 t505 _ ?side1 ?side2 ?side3 ?side4 ?side5 ?side6 A25.out).mono ?_); (case side1 => repeat (first | exact (Kd.R_reads' HO_498000.out).2.2 | (with_reducible refine Kd.C_alloc ?_ _) | (with_reducible refine Kd.C_drewN ?_ _) | (with_reducible refine Kd.C_drew ?_))); (case side2 => exact (Kd.R_reads' HO_498000.out).2.1); (case side3 => repeat (first | exact (Kd.R_reads' HO_498001.out).2.2 | (with_reducible refine Kd.C_alloc ?_ _) | (with_reducible refine Kd.C_drewN ?_ _) | (with_reducible refine Kd.C_drew ?_))); (case side4 => exact (Kd.R_reads' HO_498001.out).2.1); (case side5 => repeat (first | exact (Kd.R_reads' HO_498002.out).2.2 | (with_reducible refine Kd.C_alloc ?_ _) | (with_reducible refine Kd.C_drewN ?_ _) | (with_reducible refine Kd.C_drew ?_))); (case side6 => exact (Kd.R_reads' HO_498002.out).2.1); rintro e w28 ⟨v506, rfl, ho0, hb⟩; refine ⟨_, rfl, ?_⟩; have n0_ := am (Kd.R_elder' (rl HO_5.out) (Kd.R_base ho0) hb); have n1_ := am (Kd.R_elder' (rl HO_498000.out) (Kd.R_base ho0) hb); have n2_ := am (Kd.R_elder' (rl HO_498001.out) (Kd.R_base ho0) hb); have n3_ := am (Kd.R_elder' (rl HO_498002.out) (Kd.R_base ho0) hb); have n4_ := am (Kd.R_lower (Kd.R_new' (Kd.R_new' (Kd.R_new' (Kd.R_new' ho0 (Kd.R_lt (rl HO_5.out))) (Kd.R_lt (rl HO_498000.out))) (Kd.R_lt (rl HO_498001.out))) (Kd.R_lt (rl HO_498002.out))) (below_size (by repeat (first | (with_reducible first | exact HB.out | apply below_alloc | apply pw_below_drewN | apply below_drew1 | refine below_set ?_ GE497.out) | exact HB.out)))); have n5_ := am (blk_below (g := gb497) (o := .cells #[.slice Ao8 t487.length co8, .slice Ao10 t490.length co10, .slice Ao11 t493.length co11] 25 (0, 0)) (kl BK497.out) hb); have n6_ := am (below_step (by repeat (first | (with_reducible first | exact HB.out | apply below_alloc | apply pw_below_drewN | apply below_drew1 | refine below_set ?_ GE497.out) | exact HB.out)) hb); clear HO_5; clear HO_498000; clear HO_498001; clear HO_498002; clear BK497; clear HB; have HO_5 := n0_; have HO_498000 := n1_; have HO_498001 := n2_; have HO_498002 := n3_; have HO507 := n4_; have BK497 := n5_; have HB := n6_; clear n0_ n1_ n2_ n3_ n4_ n5_ n6_; (try clear hb); (try clear hb2); (try clear hk); (try clear hi); (try clear ho0); obtain ⟨Ao29, co29, eo29⟩ := Kd.R_slice HO_5.out; subst eo29; obtain ⟨Ao30, co30, eo30⟩ := Kd.R_slice HO507.out; subst eo30) | ((with_reducible refine gate_callee (f := 20) rfl ?_); refine goesL_ (some 34) rfl rfl Try.func20 (by kernel_rfl) rfl #[.slice Ao29 t498.length co29, .slice Ao30 t505.length co30] rfl (by (try simp only [List.map_toArray, List.map_cons, List.map_nil]); first | done | rfl | (simp only [List.length_drop, List.length_take]; rfl)) ?_; (with_reducible refine (laws_ccInts.calls kj4 _ _ t498 _ _ t505 t508 _ ?side1 ?side2 ?side3 ?side4 A26.out).mono ?_); (case side1 => repeat (first | exact (Kd.R_reads' HO_5.out).2.2 | (with_reducible refine Kd.C_alloc ?_ _) | (with_reducible refine Kd.C_drewN ?_ _) | (with_reducible refine Kd.C_drew ?_))); (case side2 => exact (Kd.R_reads' HO_5.out).2.1); (case side3 => repeat (first | exact (Kd.R_reads' HO507.out).2.2 | (with_reducible refine Kd.C_alloc ?_ _) | (with_reducible refine Kd.C_drewN ?_ _) | (with_reducible refine Kd.C_drew ?_))); (case side4 => exact (Kd.R_reads' HO507.out).2.1); rintro e w' ⟨rfl, ⟨nd, rfl⟩⟩; refine ⟨_, rfl, ?_⟩))
          go_ret
          exact ⟨by first | rfl | (simp [errW_none, errW_some] <;> rfl) | (simp [*, errW_none, errW_some] <;> rfl), by repeat (first | (with_reducible first | exact HB.out | apply below_alloc | apply pw_below_drewN | apply below_drew1 | refine below_set ?_ GE497.out) | exact HB.out)⟩
        · replace c24 := Bool.eq_false_iff.mpr c24
          subst c24
          have H1 : ((impl_Reachable.f kj4 t487 t490 t493).bind fun t509 => (laws_FnSourcesCount.l0 kj4 t496 t498 t509 0 t487 t490 t493)) = some r := by rw [if_neg (show ¬ (false = true) by decide)] at H; exact H
          clear H
          have H := H1
          clear H1
          replace H := Option.bind_eq_some_iff.mp H
          obtain ⟨t509, A310, H⟩ := H
          replace H : (laws_FnSourcesCount.l0 kj4 t496 t498 t509 0 t487 t490 t493) = some r := H
          have A31 := am A310
          clear A310
          have H' := am H
          clear H
          have hcz32_0 : wc.cell? ⟨gb497, 0, none⟩ = some (.slice Ao8 t487.length co8) := (blk_cell BK497.out 0).trans rfl
          have hcz32_1 : wc.cell? ⟨gb497, 1, none⟩ = some (.slice Ao10 t490.length co10) := (blk_cell BK497.out 1).trans rfl
          have hcz32_2 : wc.cell? ⟨gb497, 2, none⟩ = some (.slice Ao11 t493.length co11) := (blk_cell BK497.out 2).trans rfl
          have hfz32_0 := blk_frozen BK497.out 0
          have hfz32_1 := blk_frozen BK497.out 1
          have hfz32_2 := blk_frozen BK497.out 2
          go_wp2_with (first | ((with_reducible refine gate_callee (f := 24) rfl ?_); refine goesL_ (some 36) rfl rfl Try.func24 (by kernel_rfl) rfl #[.agg #[.slice Ao8 t487.length co8, .slice Ao10 t490.length co10, .slice Ao11 t493.length co11]] rfl (by (try simp only [List.map_toArray, List.map_cons, List.map_nil]); first | done | rfl | (simp only [List.length_drop, List.length_take]; rfl)) ?_; (with_reducible refine (impl_Reachable.calls kj4 _ _ t487 _ _ t490 _ _ t493 t509 _ ?side1 ?side2 ?side3 ?side4 ?side5 ?side6 A31.out).mono ?_); (case side1 => repeat (first | exact (Kd.R_reads' HO_498000.out).2.2 | (with_reducible refine Kd.C_alloc ?_ _) | (with_reducible refine Kd.C_drewN ?_ _) | (with_reducible refine Kd.C_drew ?_))); (case side2 => exact (Kd.R_reads' HO_498000.out).2.1); (case side3 => repeat (first | exact (Kd.R_reads' HO_498001.out).2.2 | (with_reducible refine Kd.C_alloc ?_ _) | (with_reducible refine Kd.C_drewN ?_ _) | (with_reducible refine Kd.C_drew ?_))); (case side4 => exact (Kd.R_reads' HO_498001.out).2.1); (case side5 => repeat (first | exact (Kd.R_reads' HO_498002.out).2.2 | (with_reducible refine Kd.C_alloc ?_ _) | (with_reducible refine Kd.C_drewN ?_ _) | (with_reducible refine Kd.C_drew ?_))); (case side6 => exact (Kd.R_reads' HO_498002.out).2.1); rintro e w33 ⟨v510, rfl, ho0, hb⟩; refine ⟨_, rfl, ?_⟩; have n0_ := am (Kd.R_below (rl HO_5.out) hb); have n1_ := am (Kd.R_below (rl HO_498000.out) hb); have n2_ := am (Kd.R_below (rl HO_498001.out) hb); have n3_ := am (Kd.R_below (rl HO_498002.out) hb); have n4_ := am (Kd.R_lower ho0 (below_size (by repeat (first | (with_reducible first | exact HB.out | apply below_alloc | apply pw_below_drewN | apply below_drew1 | refine below_set ?_ GE497.out) | exact HB.out)))); have n5_ := am (blk_below (g := gb497) (o := .cells #[.slice Ao8 t487.length co8, .slice Ao10 t490.length co10, .slice Ao11 t493.length co11] 25 (0, 0)) (kl BK497.out) hb); have n6_ := am (below_step (by repeat (first | (with_reducible first | exact HB.out | apply below_alloc | apply pw_below_drewN | apply below_drew1 | refine below_set ?_ GE497.out) | exact HB.out)) hb); clear HO_5; clear HO_498000; clear HO_498001; clear HO_498002; clear BK497; clear HB; have HO_5 := n0_; have HO_498000 := n1_; have HO_498001 := n2_; have HO_498002 := n3_; have HO511 := n4_; have BK497 := n5_; have HB := n6_; clear n0_ n1_ n2_ n3_ n4_ n5_ n6_; (try clear hb); (try clear hb2); (try clear hk); (try clear hi); (try clear ho0)))
          go_loopg [7] kj4 (fun kq v7 w' => ∃ (x7_2 : Int), v7 = .int .i64 x7_2 ∧ Aside0 (laws_FnSourcesCount.l0 kq t496 t498 t509 x7_2 t487 t490 t493 = some r) ∧ Aside0 (kq ≤ kj4) ∧ Aside0 (Kd.R (Kd.int .i64) 3 w' w.heap.size (fun k_ => some k_ ≠ ((.slice Ao8 t487.length co8) : Value).ownBlock ∧ some k_ ≠ ((.slice Ao10 t490.length co10) : Value).ownBlock ∧ some k_ ≠ ((.slice Ao11 t493.length co11) : Value).ownBlock) v499 t498) ∧ Aside0 (Kd.R Kd.bool 4 w' w.heap.size (fun _ => True) v510 t509) ∧ Aside0 (Kd.R (Kd.int .i64) 3 w' w.heap.size (fun k_ => some k_ ≠ (v499 : Value).ownBlock ∧ some k_ ≠ ((.slice Ao10 t490.length co10) : Value).ownBlock ∧ some k_ ≠ ((.slice Ao11 t493.length co11) : Value).ownBlock) (.slice Ao8 t487.length co8) t487) ∧ Aside0 (Kd.R (Kd.int .i64) 3 w' w.heap.size (fun k_ => some k_ ≠ (v499 : Value).ownBlock ∧ some k_ ≠ ((.slice Ao8 t487.length co8) : Value).ownBlock ∧ some k_ ≠ ((.slice Ao11 t493.length co11) : Value).ownBlock) (.slice Ao10 t490.length co10) t490) ∧ Aside0 (Kd.R (Kd.int .i64) 3 w' w.heap.size (fun k_ => some k_ ≠ (v499 : Value).ownBlock ∧ some k_ ≠ ((.slice Ao8 t487.length co8) : Value).ownBlock ∧ some k_ ≠ ((.slice Ao10 t490.length co10) : Value).ownBlock) (.slice Ao11 t493.length co11) t493) ∧ Aside0 (w'.heap[gb497]? = some (.cells #[(.slice Ao8 t487.length co8), (.slice Ao10 t490.length co10), (.slice Ao11 t493.length co11)] 25 (0, 0))) ∧ Aside0 (Below w.heap.size w w'))
          case atStart => exact ⟨(0), (by first | rfl | (simp; done) | (simp [*]; done)), H', ⟨Nat.le_refl _⟩, ⟨rl HO_5.out⟩, ⟨rl HO511.out⟩, ⟨rl HO_498000.out⟩, ⟨rl HO_498001.out⟩, ⟨rl HO_498002.out⟩, ⟨kl BK497.out⟩, ⟨by repeat (first | (with_reducible first | exact HB.out | apply below_alloc | apply pw_below_drewN | apply below_drew1 | refine below_set ?_ GE497.out) | exact HB.out)⟩⟩
          case round =>
            clear H'
            try clear c1
            try clear c2
            try clear c2b0
            try clear c2b1
            try clear p2
            try clear c4
            try clear c15
            try clear c20
            try clear c21
            try clear c22
            try clear c23
            try clear c24
            try clear hcz16_0
            try clear hcz16_1
            try clear hcz16_2
            try clear hcz20_0
            try clear hcz20_1
            try clear hcz20_2
            try clear hcz27_0
            try clear hcz27_1
            try clear hcz27_2
            try clear hcz32_0
            try clear hcz32_1
            try clear hcz32_2
            try clear hcz9_0
            try clear hcz9_1
            try clear hcz9_2
            try clear hfz16_0
            try clear hfz16_1
            try clear hfz16_2
            try clear hfz20_0
            try clear hfz20_1
            try clear hfz20_2
            try clear hfz27_0
            try clear hfz27_1
            try clear hfz27_2
            try clear hfz32_0
            try clear hfz32_1
            try clear hfz32_2
            try clear hfz9_0
            try clear hfz9_1
            try clear hfz9_2
            try clear p2
            obtain ⟨x7_2, rfl, HA, HK2, HO_5, HO_6, HO_498000, HO_498001, HO_498002, BK497, HB⟩ := hrel
            cases gk with
            | zero => exact absurd HA.out (by simp [laws_FnSourcesCount.l0])
            | succ k2 =>
              have H := HA.out
              clear HA
              simp only [laws_FnSourcesCount.l0] at H
              by_cases c34 : x7_2 < (t498.length : Int)
              · rw [if_pos c34] at H
                have c34b0 : decide (x7_2 < (t498.length : Int)) = true := decide_eq_true c34
                clear c34
                by_cases c35 : 0 ≤ x7_2
                · rw [if_pos c35] at H
                  have c35b0 : decide (0 ≤ x7_2) = true := decide_eq_true c35
                  clear c35
                  by_cases c36 : 0 ≤ (rd t498 x7_2)
                  · rw [if_pos c36] at H
                    have c36b0 : decide (0 ≤ (rd t498 x7_2)) = true := decide_eq_true c36
                    clear c36
                    by_cases c37 : (rd t498 x7_2) < (t509.length : Int)
                    · rw [if_pos c37] at H
                      have c37b0 : decide ((rd t498 x7_2) < (t509.length : Int)) = true := decide_eq_true c37
                      clear c37
                      obtain ⟨bq38, hbq38⟩ : ∃ b_ : Bool, b_ = (rdOf false t509 (rd t498 x7_2)) := ⟨_, rfl⟩
                      replace H : (if bq38 = true then (if 0 ≤ t496 then (if t496 < (t509.length : Int) then (if rdOf false t509 t496 = true then (laws_FnSourcesCount.l0 k2 t496 t498 t509 (wrap64 (x7_2 + 1)) t487 t490 t493) else (none)) else (none)) else (none)) else (laws_FnSourcesCount.l0 k2 t496 t498 t509 (wrap64 (x7_2 + 1)) t487 t490 t493)) = some r := by rw [← hbq38] at H; exact H
                      have Nbq38 := am hbq38
                      clear hbq38
                      by_cases c39 : bq38 = true
                      · subst c39
                        have H1 : (if 0 ≤ t496 then (if t496 < (t509.length : Int) then (if rdOf false t509 t496 = true then (laws_FnSourcesCount.l0 k2 t496 t498 t509 (wrap64 (x7_2 + 1)) t487 t490 t493) else (none)) else (none)) else (none)) = some r := by rw [if_pos rfl] at H; exact H
                        clear H
                        have H := H1
                        clear H1
                        by_cases c40 : 0 ≤ t496
                        · rw [if_pos c40] at H
                          have c40b0 : decide (0 ≤ t496) = true := decide_eq_true c40
                          clear c40
                          by_cases c41 : t496 < (t509.length : Int)
                          · rw [if_pos c41] at H
                            have c41b0 : decide (t496 < (t509.length : Int)) = true := decide_eq_true c41
                            clear c41
                            obtain ⟨bq42, hbq42⟩ : ∃ b_ : Bool, b_ = (rdOf false t509 t496) := ⟨_, rfl⟩
                            replace H : (if bq42 = true then (laws_FnSourcesCount.l0 k2 t496 t498 t509 (wrap64 (x7_2 + 1)) t487 t490 t493) else (none)) = some r := by rw [← hbq42] at H; exact H
                            have Nbq42 := am hbq42
                            clear hbq42
                            by_cases c43 : bq42 = true
                            · subst c43
                              have H1 : (laws_FnSourcesCount.l0 k2 t496 t498 t509 (wrap64 (x7_2 + 1)) t487 t490 t493) = some r := by rw [if_pos rfl] at H; exact H
                              clear H
                              have H := H1
                              clear H1
                              have H' := am H
                              clear H
                              obtain ⟨Ao44, co44, eo44⟩ := Kd.R_slice HO_5.out
                              subst eo44
                              have p512 : 0 ≤ (x7_2 : Int) := of_decide_eq_true (by first | (with_reducible assumption) | assumption)
                              have q512 : x7_2 < (t498.length : Int) := of_decide_eq_true (by first | (with_reducible assumption) | assumption)
                              obtain ⟨ad512, e512, hx512_0⟩ := Kd.at_int (Kd.R_reads' HO_5.out).2.2 x7_2 p512 q512
                              cases e512
                              replace p512 := eq_true p512
                              replace q512 := eq_true q512
                              obtain ⟨Ao45, co45, eo45⟩ := Kd.R_slice HO_6.out
                              subst eo45
                              have p513 : 0 ≤ ((rd t498 x7_2) : Int) := of_decide_eq_true (by first | (with_reducible assumption) | assumption)
                              have q513 : (rd t498 x7_2) < (t509.length : Int) := of_decide_eq_true (by first | (with_reducible assumption) | assumption)
                              obtain ⟨ad513, e513, hx513_0⟩ := Kd.at_bool (Kd.R_reads' HO_6.out).2.2 (rd t498 x7_2) p513 q513
                              (try rw [← Nbq38.out] at hx513_0)
                              (try rw [← Nbq42.out] at hx513_0)
                              cases e513
                              replace p513 := eq_true p513
                              replace q513 := eq_true q513
                              have p514 : 0 ≤ (t496 : Int) := of_decide_eq_true (by first | (with_reducible assumption) | assumption)
                              have q514 : t496 < (t509.length : Int) := of_decide_eq_true (by first | (with_reducible assumption) | assumption)
                              obtain ⟨ad514, e514, hx514_0⟩ := Kd.at_bool (Kd.R_reads' HO_6.out).2.2 t496 p514 q514
                              (try rw [← Nbq38.out] at hx514_0)
                              (try rw [← Nbq42.out] at hx514_0)
                              obtain rfl : ad513 = ad514 := (by injection e514)
                              replace p514 := eq_true p514
                              replace q514 := eq_true q514
                              go_wp2
                              go_roundg k2
                              case measure => have := HJ4.out; have := HK2.out; omega
                              case rel => exact ⟨(wrap64 (x7_2 + 1)), (by first | rfl | (simp; done) | (simp [*]; done)), H', ⟨by have := HJ4.out; have := HK2.out; omega⟩, ⟨rl HO_5.out⟩, ⟨rl HO_6.out⟩, ⟨rl HO_498000.out⟩, ⟨rl HO_498001.out⟩, ⟨rl HO_498002.out⟩, ⟨kl BK497.out⟩, ⟨by repeat (first | (with_reducible first | exact HB.out | apply below_alloc | apply pw_below_drewN | apply below_drew1 | refine below_set ?_ GE497.out) | exact HB.out)⟩⟩
                            · replace c43 := Bool.eq_false_iff.mpr c43
                              subst c43
                              have H1 : (none) = some r := by rw [if_neg (show ¬ (false = true) by decide)] at H; exact H
                              clear H
                              have H := H1
                              clear H1
                              exact absurd H (by simp)
                          · rw [if_neg c41] at H
                            exact absurd H (by simp)
                        · rw [if_neg c40] at H
                          exact absurd H (by simp)
                      · replace c39 := Bool.eq_false_iff.mpr c39
                        subst c39
                        have H1 : (laws_FnSourcesCount.l0 k2 t496 t498 t509 (wrap64 (x7_2 + 1)) t487 t490 t493) = some r := by rw [if_neg (show ¬ (false = true) by decide)] at H; exact H
                        clear H
                        have H := H1
                        clear H1
                        have H' := am H
                        clear H
                        obtain ⟨Ao46, co46, eo46⟩ := Kd.R_slice HO_5.out
                        subst eo46
                        have p512 : 0 ≤ (x7_2 : Int) := of_decide_eq_true (by first | (with_reducible assumption) | assumption)
                        have q512 : x7_2 < (t498.length : Int) := of_decide_eq_true (by first | (with_reducible assumption) | assumption)
                        obtain ⟨ad512, e512, hx512_0⟩ := Kd.at_int (Kd.R_reads' HO_5.out).2.2 x7_2 p512 q512
                        cases e512
                        replace p512 := eq_true p512
                        replace q512 := eq_true q512
                        obtain ⟨Ao47, co47, eo47⟩ := Kd.R_slice HO_6.out
                        subst eo47
                        have p513 : 0 ≤ ((rd t498 x7_2) : Int) := of_decide_eq_true (by first | (with_reducible assumption) | assumption)
                        have q513 : (rd t498 x7_2) < (t509.length : Int) := of_decide_eq_true (by first | (with_reducible assumption) | assumption)
                        obtain ⟨ad513, e513, hx513_0⟩ := Kd.at_bool (Kd.R_reads' HO_6.out).2.2 (rd t498 x7_2) p513 q513
                        (try rw [← Nbq38.out] at hx513_0)
                        cases e513
                        replace p513 := eq_true p513
                        replace q513 := eq_true q513
                        go_wp2
                        go_roundg k2
                        case measure => have := HJ4.out; have := HK2.out; omega
                        case rel => exact ⟨(wrap64 (x7_2 + 1)), (by first | rfl | (simp; done) | (simp [*]; done)), H', ⟨by have := HJ4.out; have := HK2.out; omega⟩, ⟨rl HO_5.out⟩, ⟨rl HO_6.out⟩, ⟨rl HO_498000.out⟩, ⟨rl HO_498001.out⟩, ⟨rl HO_498002.out⟩, ⟨kl BK497.out⟩, ⟨by repeat (first | (with_reducible first | exact HB.out | apply below_alloc | apply pw_below_drewN | apply below_drew1 | refine below_set ?_ GE497.out) | exact HB.out)⟩⟩
                    · rw [if_neg c37] at H
                      exact absurd H (by simp)
                  · rw [if_neg c36] at H
                    exact absurd H (by simp)
                · rw [if_neg c35] at H
                  exact absurd H (by simp)
              · rw [if_neg c34] at H
                have c34b0 : decide (x7_2 < (t498.length : Int)) = false := decide_eq_false c34
                clear c34
                obtain rfl := Option.some.inj H
                obtain ⟨Ao48, co48, eo48⟩ := Kd.R_slice HO_5.out
                subst eo48
                have hcz49_0 : wr.cell? ⟨gb497, 0, none⟩ = some (.slice Ao8 t487.length co8) := (blk_cell BK497.out 0).trans rfl
                have hcz49_1 : wr.cell? ⟨gb497, 1, none⟩ = some (.slice Ao10 t490.length co10) := (blk_cell BK497.out 1).trans rfl
                have hcz49_2 : wr.cell? ⟨gb497, 2, none⟩ = some (.slice Ao11 t493.length co11) := (blk_cell BK497.out 2).trans rfl
                have hfz49_0 := blk_frozen BK497.out 0
                have hfz49_1 := blk_frozen BK497.out 1
                have hfz49_2 := blk_frozen BK497.out 2
                go_wp2
                go_ret
                exact ⟨by first | rfl | (simp [errW_none, errW_some] <;> rfl) | (simp [*, errW_none, errW_some] <;> rfl), by repeat (first | (with_reducible first | exact HB.out | apply below_alloc | apply pw_below_drewN | apply below_drew1 | refine below_set ?_ GE497.out) | exact HB.out)⟩

/-- THE ONE PURE STATEMENT of laws_FnSourcesCount: yours. -/
def laws_FnSourcesCount.Pure : Prop := ∀ (l0 : List Int), l0.length ≤ maxLen → l0.length * 1 ≤ 140737488351232 → (∀ x ∈ l0, (Lit.int .u8 x).wf = true) → ∃ k, laws_FnSourcesCount.f k l0 = some true
theorem laws_FnSourcesCount.walk (P : laws_FnSourcesCount.Pure) (a0 : Option Addr) (len0 cap0 : Nat) (z0 : List Int) (w : World) (w0 : (a0 = none ∧ len0 = 0 ∧ cap0 = 0 ∧ z0 = []) ∨ ∃ x, a0 = some x ∧ len0 ≤ cap0 ∧ cap0 ≤ maxLen ∧ z0.length = cap0 ∧ (∀ i, i < z0.length → w.cell? (x.add i) = some (.int .u8 (z0.getD i 0))) ∧ ∀ n ∈ z0, (Lit.int .u8 n).wf = true) (y0 : len0 * 1 ≤ 140737488351232) :
    Calls Try.prog 4 #[.slice a0 len0 cap0] w fun e w' => e = .returned (.bool true) ∧ Below w.heap.size w w' := by
  obtain ⟨l0, rfl, hr0, hm0, hw0, hc0⟩ := ReadsInt.ofRowC w0
  obtain ⟨k, h⟩ := P l0 hm0 y0 hw0
  refine (laws_FnSourcesCount.calls k _ _ l0 true w (Kd.C_of_reads (d := (0 : Int)) (h1 := fun _ => rfl) hr0) hc0 h).mono ?_
  rintro e w' ⟨rfl, hd⟩
  exact ⟨rfl, hd⟩

end Go.Proofs.Ytcofdgeelojebab.A
