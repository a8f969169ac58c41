/- Contracts of functions of the given program (CLawsFnReachable). No conditions beyond those stated. -/
import Derived.Test.YtcofdgeelojebabA0
import Derived.Test.YtcofdgeelojebabAImplHeapValid
import Derived.Test.YtcofdgeelojebabAImplReachable
import Derived.Test.YtcofdgeelojebabALawsCcBools
import Derived.Test.YtcofdgeelojebabASpecDrawReachable
import Derived.Test.YtcofdgeelojebabASpecReachable
import Derived.Test.YtcofdgeelojebabA0
namespace Go.Proofs.Ytcofdgeelojebab.A
open Go.RowKit Go.Proofs.YtcofdgeelojebabW.PrintWords Go.Proofs.YtcofdgeelojebabW.PrintLast Go.Proofs.YtcofdgeelojebabW.PrintMore
attribute [local go_sem] max2_int min2_int max_two min_two max_three min_three max_four min_four   -- for this text's walks alone
set_option linter.unusedVariables false
set_option linter.unusedSimpArgs false

/-! ### laws_FnReachable -/
mutual
def laws_FnReachable.j0 : Nat → List Bool → Bool → List Int → List Int → List Int → Option (Bool)
  | 0, _, _, _, _, _ => none
  | k + 1, x4, x23, x729000, x729001, x729002 => if x23 = true then ((spec_Reachable.f k x729000 x729001 x729002).bind fun t737 => ((laws_ccBools.f k x4 t737).bind fun t740 => (if t740 = true then (some ((x4.length : Int) == 0)) else (none)))) else (laws_FnReachable.l0 k x4 0 x729000 x729001 x729002)
def laws_FnReachable.l0 : Nat → List Bool → Int → List Int → List Int → List Int → Option (Bool)
  | 0, _, _, _, _, _ => none
  | k + 1, x4, x5, x729000, x729001, x729002 => if x5 < (x729002.length : Int) then (if 0 ≤ x5 then (if (rd x729002 x5) = (-1) then (laws_FnReachable.l0 k x4 (wrap64 (x5 + 1)) x729000 x729001 x729002) else (if 0 ≤ (rd x729002 x5) then (if (rd x729002 x5) < (x4.length : Int) then (if (rdOf false x4 (rd x729002 x5) = true) then (laws_FnReachable.l0 k x4 (wrap64 (x5 + 1)) x729000 x729001 x729002) else (none)) else (none)) else (none))) else (none)) else (laws_FnReachable.l1 k x4 0 x729000 x729001 x729002)
def laws_FnReachable.l1 : Nat → List Bool → Int → List Int → List Int → List Int → Option (Bool)
  | 0, _, _, _, _, _ => none
  | k + 1, x4, x6, x729000, x729001, x729002 => if x6 < (x4.length : Int) then (if 0 ≤ x6 then (if rdOf false x4 x6 = true then (if x6 < (x729000.length : Int) then (if (rd x729000 x6) = (-1) then (if x6 < (x729001.length : Int) then (if (rd x729001 x6) = (-1) then (laws_FnReachable.l1 k x4 (wrap64 (x6 + 1)) x729000 x729001 x729002) else (if 0 ≤ (rd x729001 x6) then (if (rd x729001 x6) < (x4.length : Int) then (if (rdOf false x4 (rd x729001 x6) = true) then (laws_FnReachable.l1 k x4 (wrap64 (x6 + 1)) x729000 x729001 x729002) else (none)) else (none)) else (none))) else (none)) else (if 0 ≤ (rd x729000 x6) then (if (rd x729000 x6) < (x4.length : Int) then (if (rdOf false x4 (rd x729000 x6) = true) then (if x6 < (x729001.length : Int) then (if (rd x729001 x6) = (-1) then (laws_FnReachable.l1 k x4 (wrap64 (x6 + 1)) x729000 x729001 x729002) else (if 0 ≤ (rd x729001 x6) then (if (rd x729001 x6) < (x4.length : Int) then (if (rdOf false x4 (rd x729001 x6) = true) then (laws_FnReachable.l1 k x4 (wrap64 (x6 + 1)) x729000 x729001 x729002) else (none)) else (none)) else (none))) else (none)) else (none)) else (none)) else (none))) else (none)) else (laws_FnReachable.l1 k x4 (wrap64 (x6 + 1)) x729000 x729001 x729002)) else (none)) else (some ((x4.length : Int) == (x729000.length : Int)))
end
def laws_FnReachable.f (k : Nat) (l0 : List Int) : Option (Bool) := if (l0.length : Int) > 1048576 then (some true) else ((spec_DrawReachable.f k l0).bind fun bt719 => ((impl_Reachable.f k bt719.1 bt719.2.1 bt719.2.2).bind fun t729 => ((spec_Reachable.f k bt719.1 bt719.2.1 bt719.2.2).bind fun t732 => ((laws_ccBools.f k t729 t732).bind fun t735 => (if t735 = true then ((impl_HeapValid.f k bt719.1 bt719.2.1 bt719.2.2).bind fun t736 => (laws_FnReachable.j0 k t729 (!t736) bt719.1 bt719.2.1 bt719.2.2)) else (laws_FnReachable.j0 k t729 true bt719.1 bt719.2.1 bt719.2.2))))))
theorem laws_FnReachable.mono_l : ∀ k, (∀ y0 y1 y2 y3 y4, LeO (laws_FnReachable.j0 k y0 y1 y2 y3 y4) (laws_FnReachable.j0 (k + 1) y0 y1 y2 y3 y4)) ∧ (∀ y0 y1 y2 y3 y4, LeO (laws_FnReachable.l0 k y0 y1 y2 y3 y4) (laws_FnReachable.l0 (k + 1) y0 y1 y2 y3 y4)) ∧ (∀ y0 y1 y2 y3 y4, LeO (laws_FnReachable.l1 k y0 y1 y2 y3 y4) (laws_FnReachable.l1 (k + 1) y0 y1 y2 y3 y4))
  | 0 => ⟨fun _ _ _ _ _ r h => by simp [laws_FnReachable.j0] at h, fun _ _ _ _ _ r h => by simp [laws_FnReachable.l0] at h, fun _ _ _ _ _ r h => by simp [laws_FnReachable.l1] at h⟩
  | k + 1 => by
    obtain ⟨ih0, ih1, ih2⟩ := laws_FnReachable.mono_l k
    refine ⟨?_, ?_, ?_⟩
    · intro y0 y1 y2 y3 y4
      unfold laws_FnReachable.j0
      repeat' first
      | (with_reducible exact ih0 _ _ _ _ _)
      | (with_reducible exact ih1 _ _ _ _ _)
      | (with_reducible exact ih2 _ _ _ _ _)
      | (with_reducible exact impl_HeapValid.mono _ _ _ _)
      | (with_reducible exact impl_Reachable.mono _ _ _ _)
      | (with_reducible exact laws_ccBools.mono _ _ _)
      | (with_reducible exact spec_DrawReachable.mono _ _)
      | (with_reducible exact spec_Reachable.mono _ _ _ _)
      | (with_reducible exact LeO.refl _)
      | (with_reducible exact LeO.none _)
      | (with_reducible refine LeO.ite ?_ ?_)
      | (with_reducible refine LeO.bind ?_ (fun _ => ?_))
      | exact ih0 _ _ _ _ _
      | exact ih1 _ _ _ _ _
      | exact ih2 _ _ _ _ _
      | exact impl_HeapValid.mono _ _ _ _
      | exact impl_Reachable.mono _ _ _ _
      | exact laws_ccBools.mono _ _ _
      | exact spec_DrawReachable.mono _ _
      | exact spec_Reachable.mono _ _ _ _
      | exact LeO.none _
      | refine LeO.ite ?_ ?_
      | refine LeO.bind ?_ (fun _ => ?_)
    · intro y0 y1 y2 y3 y4
      unfold laws_FnReachable.l0
      repeat' first
      | (with_reducible exact ih0 _ _ _ _ _)
      | (with_reducible exact ih1 _ _ _ _ _)
      | (with_reducible exact ih2 _ _ _ _ _)
      | (with_reducible exact impl_HeapValid.mono _ _ _ _)
      | (with_reducible exact impl_Reachable.mono _ _ _ _)
      | (with_reducible exact laws_ccBools.mono _ _ _)
      | (with_reducible exact spec_DrawReachable.mono _ _)
      | (with_reducible exact spec_Reachable.mono _ _ _ _)
      | (with_reducible exact LeO.refl _)
      | (with_reducible exact LeO.none _)
      | (with_reducible refine LeO.ite ?_ ?_)
      | (with_reducible refine LeO.bind ?_ (fun _ => ?_))
      | exact ih0 _ _ _ _ _
      | exact ih1 _ _ _ _ _
      | exact ih2 _ _ _ _ _
      | exact impl_HeapValid.mono _ _ _ _
      | exact impl_Reachable.mono _ _ _ _
      | exact laws_ccBools.mono _ _ _
      | exact spec_DrawReachable.mono _ _
      | exact spec_Reachable.mono _ _ _ _
      | exact LeO.none _
      | refine LeO.ite ?_ ?_
      | refine LeO.bind ?_ (fun _ => ?_)
    · intro y0 y1 y2 y3 y4
      unfold laws_FnReachable.l1
      repeat' first
      | (with_reducible exact ih0 _ _ _ _ _)
      | (with_reducible exact ih1 _ _ _ _ _)
      | (with_reducible exact ih2 _ _ _ _ _)
      | (with_reducible exact impl_HeapValid.mono _ _ _ _)
      | (with_reducible exact impl_Reachable.mono _ _ _ _)
      | (with_reducible exact laws_ccBools.mono _ _ _)
      | (with_reducible exact spec_DrawReachable.mono _ _)
      | (with_reducible exact spec_Reachable.mono _ _ _ _)
      | (with_reducible exact LeO.refl _)
      | (with_reducible exact LeO.none _)
      | (with_reducible refine LeO.ite ?_ ?_)
      | (with_reducible refine LeO.bind ?_ (fun _ => ?_))
      | exact ih0 _ _ _ _ _
      | exact ih1 _ _ _ _ _
      | exact ih2 _ _ _ _ _
      | exact impl_HeapValid.mono _ _ _ _
      | exact impl_Reachable.mono _ _ _ _
      | exact laws_ccBools.mono _ _ _
      | exact spec_DrawReachable.mono _ _
      | exact spec_Reachable.mono _ _ _ _
      | exact LeO.none _
      | refine LeO.ite ?_ ?_
      | refine LeO.bind ?_ (fun _ => ?_)
theorem laws_FnReachable.mono : ∀ a0 k, LeO (laws_FnReachable.f k a0) (laws_FnReachable.f (k + 1) a0) := by
  intro a0 k
  obtain ⟨ih0, ih1, ih2⟩ := laws_FnReachable.mono_l k
  unfold laws_FnReachable.f
  repeat' first
      | (with_reducible exact ih0 _ _ _ _ _)
      | (with_reducible exact ih1 _ _ _ _ _)
      | (with_reducible exact ih2 _ _ _ _ _)
      | (with_reducible exact impl_HeapValid.mono _ _ _ _)
      | (with_reducible exact impl_Reachable.mono _ _ _ _)
      | (with_reducible exact laws_ccBools.mono _ _ _)
      | (with_reducible exact spec_DrawReachable.mono _ _)
      | (with_reducible exact spec_Reachable.mono _ _ _ _)
      | (with_reducible exact LeO.refl _)
      | (with_reducible exact LeO.none _)
      | (with_reducible refine LeO.ite ?_ ?_)
      | (with_reducible refine LeO.bind ?_ (fun _ => ?_))
      | exact ih0 _ _ _ _ _
      | exact ih1 _ _ _ _ _
      | exact ih2 _ _ _ _ _
      | exact impl_HeapValid.mono _ _ _ _
      | exact impl_Reachable.mono _ _ _ _
      | exact laws_ccBools.mono _ _ _
      | exact spec_DrawReachable.mono _ _
      | exact spec_Reachable.mono _ _ _ _
      | exact LeO.none _
      | refine LeO.ite ?_ ?_
      | refine LeO.bind ?_ (fun _ => ?_)
set_option maxHeartbeats 8000000 in
set_option maxRecDepth 100000 in
theorem laws_FnReachable.calls (k : Nat) (A0 : Option Addr) (c0 : Nat) (l0 : List Int) (r : Bool) (w : World) (hr0 : Kd.C (Kd.int .u8) w A0 l0.length l0) (hc0 : l0.length ≤ c0) (h : laws_FnReachable.f k l0 = some r) :
    Calls Try.prog 7 #[.slice A0 l0.length c0] w fun e w' => e = .returned (.bool r) ∧ Below w.heap.size w w' := by
  have hu25 := Try.underlying25
  have HR0 := am hr0
  have HC0 := am hc0
  clear hr0 hc0
  have HB := am (Below.refl w.heap.size w)
  have H : (if (l0.length : Int) > 1048576 then (some true) else ((spec_DrawReachable.f k l0).bind fun bt719 => ((impl_Reachable.f k bt719.1 bt719.2.1 bt719.2.2).bind fun t729 => ((spec_Reachable.f k bt719.1 bt719.2.1 bt719.2.2).bind fun t732 => ((laws_ccBools.f k t729 t732).bind fun t735 => (if t735 = true then ((impl_HeapValid.f k bt719.1 bt719.2.1 bt719.2.2).bind fun t736 => (laws_FnReachable.j0 k t729 (!t736) bt719.1 bt719.2.1 bt719.2.2)) else (laws_FnReachable.j0 k t729 true bt719.1 bt719.2.1 bt719.2.2))))))) = some r := h
  clear h
  by_cases c2 : (l0.length : Int) > 1048576
  · rw [if_pos c2] at H
    have c2b0 : decide (1048576 < (l0.length : Int)) = true := decide_eq_true c2
    have c2b1 : decide (1048576 < l0.length) = true := decide_eq_true (by omega)
    clear c2
    obtain rfl := Option.some.inj H
    go_enter Try.func7, Try.ntmps7
    go_wp2
    go_ret
    exact ⟨by first | rfl | (simp [errW_none, errW_some] <;> rfl) | (simp [*, errW_none, errW_some] <;> rfl), by repeat (first | (with_reducible first | exact HB.out | apply below_alloc | apply pw_below_drewN | apply below_drew1) | exact HB.out)⟩
  · rw [if_neg c2] at H
    have c2b0 : decide (1048576 < (l0.length : Int)) = false := decide_eq_false c2
    have c2b1 : decide (1048576 < l0.length) = false := decide_eq_false (by omega)
    clear c2
    replace H := Option.bind_eq_some_iff.mp H
    obtain ⟨⟨t719, t722, t725⟩, A30, H⟩ := H
    replace H : ((impl_Reachable.f k t719 t722 t725).bind fun t729 => ((spec_Reachable.f k t719 t722 t725).bind fun t732 => ((laws_ccBools.f k t729 t732).bind fun t735 => (if t735 = true then ((impl_HeapValid.f k t719 t722 t725).bind fun t736 => (laws_FnReachable.j0 k t729 (!t736) t719 t722 t725)) else (laws_FnReachable.j0 k t729 true t719 t722 t725))))) = some r := H
    have A3 := am A30
    clear A30
    replace H := Option.bind_eq_some_iff.mp H
    obtain ⟨t729, A40, H⟩ := H
    replace H : ((spec_Reachable.f k t719 t722 t725).bind fun t732 => ((laws_ccBools.f k t729 t732).bind fun t735 => (if t735 = true then ((impl_HeapValid.f k t719 t722 t725).bind fun t736 => (laws_FnReachable.j0 k t729 (!t736) t719 t722 t725)) else (laws_FnReachable.j0 k t729 true t719 t722 t725)))) = some r := H
    have A4 := am A40
    clear A40
    have HC5 := am H
    clear H
    go_enter Try.func7, Try.ntmps7
    go_upto_region 5 with (first | ((with_reducible refine gate_callee (f := 30) rfl ?_); refine goesL_ (some 11) rfl rfl Try.func30 (by kernel_rfl) rfl #[.slice A0 l0.length c0] rfl (by (try simp only [List.map_toArray, List.map_cons, List.map_nil]); first | done | rfl | (simp only [List.length_drop, List.length_take]; rfl)) ?_; (with_reducible refine (spec_DrawReachable.calls k _ _ l0 t719 t722 t725 _ ?side1 ?side2 A3.out).mono ?_); (case side1 => repeat (first | exact HR0.out | (with_reducible refine Kd.C_alloc ?_ _) | (with_reducible refine Kd.C_drewN ?_ _) | (with_reducible refine Kd.C_drew ?_))); (case side2 => exact HC0.out); rintro e w6 ⟨v720, v723, v726, rfl, ho0, ho1, ho2, hb⟩; refine ⟨_, rfl, ?_⟩; have n0_ := am (Kd.R_lower ho0 (below_size (bl HB.out))); have n1_ := am (Kd.R_lower ho1 (below_size (bl HB.out))); have n2_ := am (Kd.R_lower ho2 (below_size (bl HB.out))); have n3_ := am (below_step (bl HB.out) hb); clear HB; have HO721 := n0_; have HO724 := n1_; have HO727 := n2_; have HB := n3_; clear n0_ n1_ n2_ n3_; (try clear hb); (try clear hb2); (try clear hk); (try clear hi); (try clear ho0); (try clear ho1); (try clear ho2)) | ((with_reducible refine gate_dst (N := 3) rfl ?_); (try (refine gate_guard (by rfl) ?_; dsimp only)); refine box_event ?hg (N := 3) ?hd (cs := #[.slice none 0 0, .slice none 0 0, .slice none 0 0]) (t := 25) ?hr ?_; (case hd => rfl); (case hg => rfl); (case hr => first | (go_simp; done) | (go_simp; rfl)); intro gb728 hg w7 hbox hb; have n0_ := am (Kd.R_below (rl HO721.out) hb); have n1_ := am (Kd.R_below (rl HO724.out) hb); have n2_ := am (Kd.R_below (rl HO727.out) hb); have n3_ := am (below_step (bl HB.out) hb); have n4_ := am (hbox); have n5_ := am ((by rw [hg]; exact (below_size (bl HB.out)) : w.heap.size ≤ gb728)); have n6_ := am ((by rw [hg]; exact (below_size (bl HB.out)) : w.heap.size ≤ gb728)); clear HO721; clear HO724; clear HO727; clear HB; have HO721 := n0_; have HO724 := n1_; have HO727 := n2_; have HB := n3_; have BK728 := n4_; have GW728 := n5_; have GE728 := n6_; clear n0_ n1_ n2_ n3_ n4_ n5_ n6_; clear hb hbox hg; obtain ⟨Ao8, co8, eo8⟩ := Kd.R_slice HO721.out; subst eo8; have hcz9_0 : w7.cell? ⟨gb728, 0, none⟩ = some (.slice none 0 0) := (blk_cell BK728.out 0).trans rfl; have hcz9_1 : w7.cell? ⟨gb728, 1, none⟩ = some (.slice none 0 0) := (blk_cell BK728.out 1).trans rfl; have hcz9_2 : w7.cell? ⟨gb728, 2, none⟩ = some (.slice none 0 0) := (blk_cell BK728.out 2).trans rfl; have hfz9_0 := blk_frozen BK728.out 0; have hfz9_1 := blk_frozen BK728.out 1; have hfz9_2 := blk_frozen BK728.out 2; obtain ⟨Ao10, co10, eo10⟩ := Kd.R_slice HO724.out; subst eo10; obtain ⟨Ao11, co11, eo11⟩ := Kd.R_slice HO727.out; subst eo11) | ((with_reducible refine gate_callee (f := 24) rfl ?_); refine goesL_ (some 13) rfl rfl Try.func24 (by kernel_rfl) rfl #[.agg #[.slice Ao8 t719.length co8, .slice Ao10 t722.length co10, .slice Ao11 t725.length co11]] rfl (by (try simp only [List.map_toArray, List.map_cons, List.map_nil]); first | done | rfl | (simp only [List.length_drop, List.length_take]; rfl)) ?_; (with_reducible refine (impl_Reachable.calls k _ _ t719 _ _ t722 _ _ t725 t729 _ ?side1 ?side2 ?side3 ?side4 ?side5 ?side6 A4.out).mono ?_); (case side1 => exact (Kd.R_reads' (rl ((far3 HO721.out BK728.out (by decide) (.slice Ao8 t719.length co8) (.slice Ao10 t722.length co10) (.slice Ao11 t725.length co11))))).2.2); (case side2 => exact (Kd.R_reads' HO721.out).2.1); (case side3 => exact (Kd.R_reads' (rl ((far3 HO724.out BK728.out (by decide) (.slice Ao8 t719.length co8) (.slice Ao10 t722.length co10) (.slice Ao11 t725.length co11))))).2.2); (case side4 => exact (Kd.R_reads' HO724.out).2.1); (case side5 => exact (Kd.R_reads' (rl ((far3 HO727.out BK728.out (by decide) (.slice Ao8 t719.length co8) (.slice Ao10 t722.length co10) (.slice Ao11 t725.length co11))))).2.2); (case side6 => exact (Kd.R_reads' HO727.out).2.1); rintro e w12 ⟨v730, rfl, ho0, hb⟩; refine ⟨_, rfl, ?_⟩; have n0_ := am (Kd.R_below (rl ((far3 HO721.out BK728.out (by decide) (.slice Ao8 t719.length co8) (.slice Ao10 t722.length co10) (.slice Ao11 t725.length co11)))) hb); have n1_ := am (Kd.R_below (rl ((far3 HO724.out BK728.out (by decide) (.slice Ao8 t719.length co8) (.slice Ao10 t722.length co10) (.slice Ao11 t725.length co11)))) hb); have n2_ := am (Kd.R_below (rl ((far3 HO727.out BK728.out (by decide) (.slice Ao8 t719.length co8) (.slice Ao10 t722.length co10) (.slice Ao11 t725.length co11)))) hb); have n3_ := am (Kd.R_lower ho0 (below_size (by repeat (first | (with_reducible first | exact HB.out | apply below_alloc | apply pw_below_drewN | apply below_drew1 | refine below_set ?_ GE728.out) | exact HB.out)))); have n4_ := am (blk_below (g := gb728) (o := .cells #[.slice Ao8 t719.length co8, .slice Ao10 t722.length co10, .slice Ao11 t725.length co11] 25 (0, 0)) (by (with_reducible repeat (first | refine blk_drewN ?_ _ | refine blk_drew ?_ | refine blk_alloc ?_ _)); refine blk_put (cs := #[.slice Ao8 t719.length co8, .slice Ao10 t722.length co10, .slice none 0 0]) ?_ 2 _ rfl; (with_reducible repeat (first | refine blk_drewN ?_ _ | refine blk_drew ?_ | refine blk_alloc ?_ _)); refine blk_put (cs := #[.slice Ao8 t719.length co8, .slice none 0 0, .slice none 0 0]) ?_ 1 _ rfl; (with_reducible repeat (first | refine blk_drewN ?_ _ | refine blk_drew ?_ | refine blk_alloc ?_ _)); refine blk_put (cs := #[.slice none 0 0, .slice none 0 0, .slice none 0 0]) ?_ 0 _ rfl; (with_reducible repeat (first | refine blk_drewN ?_ _ | refine blk_drew ?_ | refine blk_alloc ?_ _)); exact BK728.out) hb); have n5_ := am (below_step (by repeat (first | (with_reducible first | exact HB.out | apply below_alloc | apply pw_below_drewN | apply below_drew1 | refine below_set ?_ GE728.out) | exact HB.out)) hb); clear HO721; clear HO724; clear HO727; clear BK728; clear HB; have HO721 := n0_; have HO724 := n1_; have HO727 := n2_; have HO731 := n3_; have BK728 := n4_; have HB := n5_; clear n0_ n1_ n2_ n3_ n4_ n5_; (try clear hb); (try clear hb2); (try clear hk); (try clear hi); (try clear ho0)))
    (try simp only [Act.put, List.setIfInBounds_toArray, List.set_cons_zero, List.set_cons_succ])
    go_cut [23] (fun v23 wc => ∃ (kq : Nat) (x23_4 : Bool), v23 = .bool x23_4 ∧ Aside0 (laws_FnReachable.j0 kq t729 x23_4 t719 t722 t725 = some r) ∧ Aside0 (kq ≤ k) ∧ Aside0 (Kd.R Kd.bool 4 wc w.heap.size (fun _ => True) v730 t729) ∧ Aside0 (Kd.R (Kd.int .i64) 3 wc w.heap.size (fun k_ => some k_ ≠ ((.slice Ao10 t722.length co10) : Value).ownBlock ∧ some k_ ≠ ((.slice Ao11 t725.length co11) : Value).ownBlock) (.slice Ao8 t719.length co8) t719) ∧ Aside0 (Kd.R (Kd.int .i64) 3 wc w.heap.size (fun k_ => some k_ ≠ ((.slice Ao8 t719.length co8) : Value).ownBlock ∧ some k_ ≠ ((.slice Ao11 t725.length co11) : Value).ownBlock) (.slice Ao10 t722.length co10) t722) ∧ Aside0 (Kd.R (Kd.int .i64) 3 wc w.heap.size (fun k_ => some k_ ≠ ((.slice Ao8 t719.length co8) : Value).ownBlock ∧ some k_ ≠ ((.slice Ao10 t722.length co10) : Value).ownBlock) (.slice Ao11 t725.length co11) t725) ∧ Aside0 (wc.heap[gb728]? = some (.cells #[(.slice Ao8 t719.length co8), (.slice Ao10 t722.length co10), (.slice Ao11 t725.length co11)] 25 (0, 0))) ∧ Aside0 (Below w.heap.size w wc))
    case first =>
      have H := HC5.out
      clear HC5
      replace H := Option.bind_eq_some_iff.mp H
      obtain ⟨t732, A130, H⟩ := H
      replace H : ((laws_ccBools.f k t729 t732).bind fun t735 => (if t735 = true then ((impl_HeapValid.f k t719 t722 t725).bind fun t736 => (laws_FnReachable.j0 k t729 (!t736) t719 t722 t725)) else (laws_FnReachable.j0 k t729 true t719 t722 t725))) = some r := H
      have A13 := am A130
      clear A130
      replace H := Option.bind_eq_some_iff.mp H
      obtain ⟨t735, A140, H⟩ := H
      replace H : (if t735 = true then ((impl_HeapValid.f k t719 t722 t725).bind fun t736 => (laws_FnReachable.j0 k t729 (!t736) t719 t722 t725)) else (laws_FnReachable.j0 k t729 true t719 t722 t725)) = some r := H
      have A14 := am A140
      clear A140
      by_cases c15 : t735 = true
      · subst c15
        have H1 : ((impl_HeapValid.f k t719 t722 t725).bind fun t736 => (laws_FnReachable.j0 k t729 (!t736) t719 t722 t725)) = some r := by rw [if_pos rfl] at H; exact H
        clear H
        have H := H1
        clear H1
        replace H := Option.bind_eq_some_iff.mp H
        obtain ⟨t736, A160, H⟩ := H
        replace H : (laws_FnReachable.j0 k t729 (!t736) t719 t722 t725) = some r := H
        have A16 := am A160
        clear A160
        have H' := am H
        clear H
        have hcz17_0 : w12.cell? ⟨gb728, 0, none⟩ = some (.slice Ao8 t719.length co8) := (blk_cell BK728.out 0).trans rfl
        have hcz17_1 : w12.cell? ⟨gb728, 1, none⟩ = some (.slice Ao10 t722.length co10) := (blk_cell BK728.out 1).trans rfl
        have hcz17_2 : w12.cell? ⟨gb728, 2, none⟩ = some (.slice Ao11 t725.length co11) := (blk_cell BK728.out 2).trans rfl
        have hfz17_0 := blk_frozen BK728.out 0
        have hfz17_1 := blk_frozen BK728.out 1
        have hfz17_2 := blk_frozen BK728.out 2
        go_wp2_with (first | ((with_reducible refine gate_callee (f := 32) rfl ?_); refine goesL_ (some 16) rfl rfl Try.func32 (by kernel_rfl) rfl #[.agg #[.slice Ao8 t719.length co8, .slice Ao10 t722.length co10, .slice Ao11 t725.length co11]] rfl (by (try simp only [List.map_toArray, List.map_cons, List.map_nil]); first | done | rfl | (simp only [List.length_drop, List.length_take]; rfl)) ?_; (with_reducible refine (spec_Reachable.calls k _ _ t719 _ _ t722 _ _ t725 t732 _ ?side1 ?side2 ?side3 ?side4 ?side5 ?side6 A13.out).mono ?_); (case side1 => repeat (first | exact (Kd.R_reads' HO721.out).2.2 | (with_reducible refine Kd.C_alloc ?_ _) | (with_reducible refine Kd.C_drewN ?_ _) | (with_reducible refine Kd.C_drew ?_))); (case side2 => exact (Kd.R_reads' HO721.out).2.1); (case side3 => repeat (first | exact (Kd.R_reads' HO724.out).2.2 | (with_reducible refine Kd.C_alloc ?_ _) | (with_reducible refine Kd.C_drewN ?_ _) | (with_reducible refine Kd.C_drew ?_))); (case side4 => exact (Kd.R_reads' HO724.out).2.1); (case side5 => repeat (first | exact (Kd.R_reads' HO727.out).2.2 | (with_reducible refine Kd.C_alloc ?_ _) | (with_reducible refine Kd.C_drewN ?_ _) | (with_reducible refine Kd.C_drew ?_))); (case side6 => exact (Kd.R_reads' HO727.out).2.1); rintro e w18 ⟨v733, rfl, ho0, hb⟩; refine ⟨_, rfl, ?_⟩; have n0_ := am (Kd.R_below (rl HO721.out) hb); have n1_ := am (Kd.R_below (rl HO724.out) hb); have n2_ := am (Kd.R_below (rl HO727.out) hb); have n3_ := am (Kd.R_elder' (rl HO731.out) (Kd.R_base ho0) hb); have n4_ := am (Kd.R_lower (Kd.R_new' ho0 (Kd.R_lt (rl HO731.out))) (below_size (by repeat (first | (with_reducible first | exact HB.out | apply below_alloc | apply pw_below_drewN | apply below_drew1 | refine below_set ?_ GE728.out) | exact HB.out)))); have n5_ := am (blk_below (g := gb728) (o := .cells #[.slice Ao8 t719.length co8, .slice Ao10 t722.length co10, .slice Ao11 t725.length co11] 25 (0, 0)) (kl BK728.out) hb); have n6_ := am (below_step (by repeat (first | (with_reducible first | exact HB.out | apply below_alloc | apply pw_below_drewN | apply below_drew1 | refine below_set ?_ GE728.out) | exact HB.out)) hb); clear HO721; clear HO724; clear HO727; clear HO731; clear BK728; clear HB; have HO721 := n0_; have HO724 := n1_; have HO727 := n2_; have HO731 := n3_; have HO734 := n4_; have BK728 := n5_; have HB := n6_; clear n0_ n1_ n2_ n3_ n4_ n5_ n6_; (try clear hb); (try clear hb2); (try clear hk); (try clear hi); (try clear ho0); obtain ⟨Ao19, co19, eo19⟩ := Kd.R_slice HO731.out; subst eo19; obtain ⟨Ao20, co20, eo20⟩ := Kd.R_slice HO734.out; subst eo20) | ((with_reducible refine gate_callee (f := 31) rfl ?_); refine goesL_ (some 17) rfl rfl Try.func31 (by kernel_rfl) rfl #[.slice Ao19 t729.length co19, .slice Ao20 t732.length co20] rfl (by (try simp only [List.map_toArray, List.map_cons, List.map_nil]); first | done | rfl | (simp only [List.length_drop, List.length_take]; rfl)) ?_; (with_reducible refine (laws_ccBools.calls k _ _ t729 _ _ t732 true _ ?side1 ?side2 ?side3 ?side4 A14.out).mono ?_); (case side1 => repeat (first | exact (Kd.R_reads' HO731.out).2.2 | (with_reducible refine Kd.C_alloc ?_ _) | (with_reducible refine Kd.C_drewN ?_ _) | (with_reducible refine Kd.C_drew ?_))); (case side2 => exact (Kd.R_reads' HO731.out).2.1); (case side3 => repeat (first | exact (Kd.R_reads' HO734.out).2.2 | (with_reducible refine Kd.C_alloc ?_ _) | (with_reducible refine Kd.C_drewN ?_ _) | (with_reducible refine Kd.C_drew ?_))); (case side4 => exact (Kd.R_reads' HO734.out).2.1); rintro e w' ⟨rfl, ⟨nd, rfl⟩⟩; refine ⟨_, rfl, ?_⟩; have hcz21_0 : w18.cell? ⟨gb728, 0, none⟩ = some (.slice Ao8 t719.length co8) := (blk_cell BK728.out 0).trans rfl; have hcz21_1 : w18.cell? ⟨gb728, 1, none⟩ = some (.slice Ao10 t722.length co10) := (blk_cell BK728.out 1).trans rfl; have hcz21_2 : w18.cell? ⟨gb728, 2, none⟩ = some (.slice Ao11 t725.length co11) := (blk_cell BK728.out 2).trans rfl; have hfz21_0 := blk_frozen BK728.out 0; have hfz21_1 := blk_frozen BK728.out 1; have hfz21_2 := blk_frozen BK728.out 2) | (go_at_call 33; (with_reducible refine (impl_HeapValid.calls k (fun k_ => some k_ = (.slice Ao8 t719.length co8 : Value).ownBlock) _ _ t719 (fun k_ => some k_ = (.slice Ao10 t722.length co10 : Value).ownBlock) _ _ t722 (fun k_ => some k_ = (.slice Ao11 t725.length co11 : Value).ownBlock) _ _ t725 t736 _ ?side1 ?side2 ?side3 A16.out).mono ?_); (case side1 => exact Kd.R_V (Kd.R_tight rfl (Kd.R_types (Kd.R_apart' (Kd.R_apart' (HO721.out) (Kd.R_typed HO731.out) (by decide)) (Kd.R_typed HO734.out) (by decide)) BK728.out (by decide)))); (case side2 => exact Kd.R_V (Kd.R_tight rfl (Kd.R_types (Kd.R_apart' (Kd.R_apart' (HO724.out) (Kd.R_typed HO731.out) (by decide)) (Kd.R_typed HO734.out) (by decide)) BK728.out (by decide)))); (case side3 => exact Kd.R_V (Kd.R_tight rfl (Kd.R_types (Kd.R_apart' (Kd.R_apart' (HO727.out) (Kd.R_typed HO731.out) (by decide)) (Kd.R_typed HO734.out) (by decide)) BK728.out (by decide)))); rintro e w22 ⟨rfl, hb⟩; have n0_ := am (Kd.R_below (rl HO721.out) hb); have n1_ := am (Kd.R_below (rl HO724.out) hb); have n2_ := am (Kd.R_below (rl HO727.out) hb); have n3_ := am (Kd.R_below (rl HO731.out) hb); have n4_ := am (Kd.R_below (rl HO734.out) hb); have n5_ := am (blk_below (g := gb728) (o := .cells #[.slice Ao8 t719.length co8, .slice Ao10 t722.length co10, .slice Ao11 t725.length co11] 25 (0, 0)) (kl BK728.out) hb); have n6_ := am (below_step (by repeat (first | (with_reducible first | exact HB.out | apply below_alloc | apply pw_below_drewN | apply below_drew1 | refine below_set ?_ GE728.out) | exact HB.out)) hb); clear HO721; clear HO724; clear HO727; clear HO731; clear HO734; clear BK728; clear HB; have HO721 := n0_; have HO724 := n1_; have HO727 := n2_; have HO731 := n3_; have HO734 := n4_; have BK728 := n5_; have HB := n6_; clear n0_ n1_ n2_ n3_ n4_ n5_ n6_; (try clear hb); (try clear hb2); (try clear hk); (try clear hi)))
        go_meet
        case rel => exact ⟨_, (!t736), (by first | rfl | (simp; done) | (simp [*]; done)), H', ⟨by first | omega | exact Nat.le_refl _⟩, ⟨rl (Kd.R_mono HO731.out (fun _ hk => trivial))⟩, ⟨rl HO721.out⟩, ⟨rl HO724.out⟩, ⟨rl HO727.out⟩, ⟨kl BK728.out⟩, ⟨by repeat (first | (with_reducible first | exact HB.out | apply below_alloc | apply pw_below_drewN | apply below_drew1 | refine below_set ?_ GE728.out) | exact HB.out)⟩⟩
      · replace c15 := Bool.eq_false_iff.mpr c15
        subst c15
        have H1 : (laws_FnReachable.j0 k t729 true t719 t722 t725) = some r := by rw [if_neg (show ¬ (false = true) by decide)] at H; exact H
        clear H
        have H := H1
        clear H1
        have H' := am H
        clear H
        have hcz23_0 : w12.cell? ⟨gb728, 0, none⟩ = some (.slice Ao8 t719.length co8) := (blk_cell BK728.out 0).trans rfl
        have hcz23_1 : w12.cell? ⟨gb728, 1, none⟩ = some (.slice Ao10 t722.length co10) := (blk_cell BK728.out 1).trans rfl
        have hcz23_2 : w12.cell? ⟨gb728, 2, none⟩ = some (.slice Ao11 t725.length co11) := (blk_cell BK728.out 2).trans rfl
        have hfz23_0 := blk_frozen BK728.out 0
        have hfz23_1 := blk_frozen BK728.out 1
        have hfz23_2 := blk_frozen BK728.out 2
        go_wp2_with (first | ((with_reducible refine gate_callee (f := 32) rfl ?_); refine goesL_ (some 16) rfl rfl Try.func32 (by kernel_rfl) rfl #[.agg #[.slice Ao8 t719.length co8, .slice Ao10 t722.length co10, .slice Ao11 t725.length co11]] rfl (by (try simp only [List.map_toArray, List.map_cons, List.map_nil]); first | done | rfl | (simp only [List.length_drop, List.length_take]; rfl)) ?_; (with_reducible refine (spec_Reachable.calls k _ _ t719 _ _ t722 _ _ t725 t732 _ ?side1 ?side2 ?side3 ?side4 ?side5 ?side6 A13.out).mono ?_); (case side1 => repeat (first | exact (Kd.R_reads' HO721.out).2.2 | (with_reducible refine Kd.C_alloc ?_ _) | (with_reducible refine Kd.C_drewN ?_ _) | (with_reducible refine Kd.C_drew ?_))); (case side2 => exact (Kd.R_reads' HO721.out).2.1); (case side3 => repeat (first | exact (Kd.R_reads' HO724.out).2.2 | (with_reducible refine Kd.C_alloc ?_ _) | (with_reducible refine Kd.C_drewN ?_ _) | (with_reducible refine Kd.C_drew ?_))); (case side4 => exact (Kd.R_reads' HO724.out).2.1); (case side5 => repeat (first | exact (Kd.R_reads' HO727.out).2.2 | (with_reducible refine Kd.C_alloc ?_ _) | (with_reducible refine Kd.C_drewN ?_ _) | (with_reducible refine Kd.C_drew ?_))); (case side6 => exact (Kd.R_reads' HO727.out).2.1); rintro e w24 ⟨v733, rfl, ho0, hb⟩; refine ⟨_, rfl, ?_⟩; have n0_ := am (Kd.R_below (rl HO721.out) hb); have n1_ := am (Kd.R_below (rl HO724.out) hb); have n2_ := am (Kd.R_below (rl HO727.out) hb); have n3_ := am (Kd.R_elder' (rl HO731.out) (Kd.R_base ho0) hb); have n4_ := am (Kd.R_lower (Kd.R_new' ho0 (Kd.R_lt (rl HO731.out))) (below_size (by repeat (first | (with_reducible first | exact HB.out | apply below_alloc | apply pw_below_drewN | apply below_drew1 | refine below_set ?_ GE728.out) | exact HB.out)))); have n5_ := am (blk_below (g := gb728) (o := .cells #[.slice Ao8 t719.length co8, .slice Ao10 t722.length co10, .slice Ao11 t725.length co11] 25 (0, 0)) (kl BK728.out) hb); have n6_ := am (below_step (by repeat (first | (with_reducible first | exact HB.out | apply below_alloc | apply pw_below_drewN | apply below_drew1 | refine below_set ?_ GE728.out) | exact HB.out)) hb); clear HO721; clear HO724; clear HO727; clear HO731; clear BK728; clear HB; have HO721 := n0_; have HO724 := n1_; have HO727 := n2_; have HO731 := n3_; have HO734 := n4_; have BK728 := n5_; have HB := n6_; clear n0_ n1_ n2_ n3_ n4_ n5_ n6_; (try clear hb); (try clear hb2); (try clear hk); (try clear hi); (try clear ho0); obtain ⟨Ao25, co25, eo25⟩ := Kd.R_slice HO731.out; subst eo25; obtain ⟨Ao26, co26, eo26⟩ := Kd.R_slice HO734.out; subst eo26) | ((with_reducible refine gate_callee (f := 31) rfl ?_); refine goesL_ (some 17) rfl rfl Try.func31 (by kernel_rfl) rfl #[.slice Ao25 t729.length co25, .slice Ao26 t732.length co26] rfl (by (try simp only [List.map_toArray, List.map_cons, List.map_nil]); first | done | rfl | (simp only [List.length_drop, List.length_take]; rfl)) ?_; (with_reducible refine (laws_ccBools.calls k _ _ t729 _ _ t732 false _ ?side1 ?side2 ?side3 ?side4 A14.out).mono ?_); (case side1 => repeat (first | exact (Kd.R_reads' HO731.out).2.2 | (with_reducible refine Kd.C_alloc ?_ _) | (with_reducible refine Kd.C_drewN ?_ _) | (with_reducible refine Kd.C_drew ?_))); (case side2 => exact (Kd.R_reads' HO731.out).2.1); (case side3 => repeat (first | exact (Kd.R_reads' HO734.out).2.2 | (with_reducible refine Kd.C_alloc ?_ _) | (with_reducible refine Kd.C_drewN ?_ _) | (with_reducible refine Kd.C_drew ?_))); (case side4 => exact (Kd.R_reads' HO734.out).2.1); rintro e w' ⟨rfl, ⟨nd, rfl⟩⟩; refine ⟨_, rfl, ?_⟩))
        go_meet
        case rel => exact ⟨_, (true), (by first | rfl | (simp; done) | (simp [*]; done)), H', ⟨by first | omega | exact Nat.le_refl _⟩, ⟨rl (Kd.R_mono HO731.out (fun _ hk => trivial))⟩, ⟨rl HO721.out⟩, ⟨rl HO724.out⟩, ⟨rl HO727.out⟩, ⟨kl BK728.out⟩, ⟨by repeat (first | (with_reducible first | exact HB.out | apply below_alloc | apply pw_below_drewN | apply below_drew1 | refine below_set ?_ GE728.out) | exact HB.out)⟩⟩
    case rest =>
      clear HC5
      try clear c1
      try clear c2
      try clear c2b0
      try clear c2b1
      try clear p2
      try clear c3
      try clear c7
      try clear c15
      try clear c24
      try clear hcz17_0
      try clear hcz17_1
      try clear hcz17_2
      try clear hcz21_0
      try clear hcz21_1
      try clear hcz21_2
      try clear hcz23_0
      try clear hcz23_1
      try clear hcz23_2
      try clear hcz9_0
      try clear hcz9_1
      try clear hcz9_2
      try clear hfz17_0
      try clear hfz17_1
      try clear hfz17_2
      try clear hfz21_0
      try clear hfz21_1
      try clear hfz21_2
      try clear hfz23_0
      try clear hfz23_1
      try clear hfz23_2
      try clear hfz9_0
      try clear hfz9_1
      try clear hfz9_2
      obtain ⟨kq, x23_4, rfl, HA, HJ4, HO_4, HO_729000, HO_729001, HO_729002, BK728, HB⟩ := hcut
      cases kq with
      | zero => exact absurd HA.out (by simp [laws_FnReachable.j0])
      | succ kj4 =>
        have H := HA.out
        clear HA
        simp only [laws_FnReachable.j0] at H
        by_cases c27 : x23_4 = true
        · subst c27
          have H1 : ((spec_Reachable.f kj4 t719 t722 t725).bind fun t737 => ((laws_ccBools.f kj4 t729 t737).bind fun t740 => (if t740 = true then (some ((t729.length : Int) == 0)) else (none)))) = some r := by rw [if_pos rfl] at H; exact H
          clear H
          have H := H1
          clear H1
          replace H := Option.bind_eq_some_iff.mp H
          obtain ⟨t737, A280, H⟩ := H
          replace H : ((laws_ccBools.f kj4 t729 t737).bind fun t740 => (if t740 = true then (some ((t729.length : Int) == 0)) else (none))) = some r := H
          have A28 := am A280
          clear A280
          replace H := Option.bind_eq_some_iff.mp H
          obtain ⟨t740, A290, H⟩ := H
          replace H : (if t740 = true then (some ((t729.length : Int) == 0)) else (none)) = some r := H
          have A29 := am A290
          clear A290
          by_cases c30 : t740 = true
          · subst c30
            have H1 : (some ((t729.length : Int) == 0)) = some r := by rw [if_pos rfl] at H; exact H
            clear H
            have H := H1
            clear H1
            obtain rfl := Option.some.inj H
            have hcz31_0 : wc.cell? ⟨gb728, 0, none⟩ = some (.slice Ao8 t719.length co8) := (blk_cell BK728.out 0).trans rfl
            have hcz31_1 : wc.cell? ⟨gb728, 1, none⟩ = some (.slice Ao10 t722.length co10) := (blk_cell BK728.out 1).trans rfl
            have hcz31_2 : wc.cell? ⟨gb728, 2, none⟩ = some (.slice Ao11 t725.length co11) := (blk_cell BK728.out 2).trans rfl
            have hfz31_0 := blk_frozen BK728.out 0
            have hfz31_1 := blk_frozen BK728.out 1
            have hfz31_2 := blk_frozen BK728.out 2
            go_wp2_with (first | ((with_reducible refine gate_callee (f := 32) rfl ?_); refine goesL_ (some 26) rfl rfl Try.func32 (by kernel_rfl) rfl #[.agg #[.slice Ao8 t719.length co8, .slice Ao10 t722.length co10, .slice Ao11 t725.length co11]] rfl (by (try simp only [List.map_toArray, List.map_cons, List.map_nil]); first | done | rfl | (simp only [List.length_drop, List.length_take]; rfl)) ?_; (with_reducible refine (spec_Reachable.calls kj4 _ _ t719 _ _ t722 _ _ t725 t737 _ ?side1 ?side2 ?side3 ?side4 ?side5 ?side6 A28.out).mono ?_); (case side1 => repeat (first | exact (Kd.R_reads' HO_729000.out).2.2 | (with_reducible refine Kd.C_alloc ?_ _) | (with_reducible refine Kd.C_drewN ?_ _) | (with_reducible refine Kd.C_drew ?_))); (case side2 => exact (Kd.R_reads' HO_729000.out).2.1); (case side3 => repeat (first | exact (Kd.R_reads' HO_729001.out).2.2 | (with_reducible refine Kd.C_alloc ?_ _) | (with_reducible refine Kd.C_drewN ?_ _) | (with_reducible refine Kd.C_drew ?_))); (case side4 => exact (Kd.R_reads' HO_729001.out).2.1); (case side5 => repeat (first | exact (Kd.R_reads' HO_729002.out).2.2 | (with_reducible refine Kd.C_alloc ?_ _) | (with_reducible refine Kd.C_drewN ?_ _) | (with_reducible refine Kd.C_drew ?_))); (case side6 => exact (Kd.R_reads' HO_729002.out).2.1); rintro e w32 ⟨v738, rfl, ho0, hb⟩; refine ⟨_, rfl, ?_⟩; have n0_ := am (Kd.R_elder' (rl HO_4.out) (Kd.R_base ho0) hb); have n1_ := am (Kd.R_below (rl HO_729000.out) hb); have n2_ := am (Kd.R_below (rl HO_729001.out) hb); have n3_ := am (Kd.R_below (rl HO_729002.out) hb); have n4_ := am (Kd.R_lower (Kd.R_new' ho0 (Kd.R_lt (rl HO_4.out))) (below_size (by repeat (first | (with_reducible first | exact HB.out | apply below_alloc | apply pw_below_drewN | apply below_drew1 | refine below_set ?_ GE728.out) | exact HB.out)))); have n5_ := am (blk_below (g := gb728) (o := .cells #[.slice Ao8 t719.length co8, .slice Ao10 t722.length co10, .slice Ao11 t725.length co11] 25 (0, 0)) (kl BK728.out) hb); have n6_ := am (below_step (by repeat (first | (with_reducible first | exact HB.out | apply below_alloc | apply pw_below_drewN | apply below_drew1 | refine below_set ?_ GE728.out) | exact HB.out)) hb); clear HO_4; clear HO_729000; clear HO_729001; clear HO_729002; clear BK728; clear HB; have HO_4 := n0_; have HO_729000 := n1_; have HO_729001 := n2_; have HO_729002 := n3_; have HO739 := n4_; have BK728 := n5_; have HB := n6_; clear n0_ n1_ n2_ n3_ n4_ n5_ n6_; (try clear hb); (try clear hb2); (try clear hk); (try clear hi); (try clear ho0); obtain ⟨Ao33, co33, eo33⟩ := Kd.R_slice HO_4.out; subst eo33; obtain ⟨Ao34, co34, eo34⟩ := Kd.R_slice HO739.out; subst eo34) | ((with_reducible refine gate_callee (f := 31) rfl ?_); refine goesL_ (some 27) rfl rfl Try.func31 (by kernel_rfl) rfl #[.slice Ao33 t729.length co33, .slice Ao34 t737.length co34] rfl (by (try simp only [List.map_toArray, List.map_cons, List.map_nil]); first | done | rfl | (simp only [List.length_drop, List.length_take]; rfl)) ?_; (with_reducible refine (laws_ccBools.calls kj4 _ _ t729 _ _ t737 true _ ?side1 ?side2 ?side3 ?side4 A29.out).mono ?_); (case side1 => repeat (first | exact (Kd.R_reads' HO_4.out).2.2 | (with_reducible refine Kd.C_alloc ?_ _) | (with_reducible refine Kd.C_drewN ?_ _) | (with_reducible refine Kd.C_drew ?_))); (case side2 => exact (Kd.R_reads' HO_4.out).2.1); (case side3 => repeat (first | exact (Kd.R_reads' HO739.out).2.2 | (with_reducible refine Kd.C_alloc ?_ _) | (with_reducible refine Kd.C_drewN ?_ _) | (with_reducible refine Kd.C_drew ?_))); (case side4 => exact (Kd.R_reads' HO739.out).2.1); rintro e w' ⟨rfl, ⟨nd, rfl⟩⟩; refine ⟨_, rfl, ?_⟩))
            go_ret
            exact ⟨by first | rfl | (simp [errW_none, errW_some] <;> rfl) | (simp [*, errW_none, errW_some] <;> rfl), by repeat (first | (with_reducible first | exact HB.out | apply below_alloc | apply pw_below_drewN | apply below_drew1 | refine below_set ?_ GE728.out) | exact HB.out)⟩
          · replace c30 := Bool.eq_false_iff.mpr c30
            subst c30
            have H1 : (none) = some r := by rw [if_neg (show ¬ (false = true) by decide)] at H; exact H
            clear H
            have H := H1
            clear H1
            exact absurd H (by simp)
        · replace c27 := Bool.eq_false_iff.mpr c27
          subst c27
          have H1 : (laws_FnReachable.l0 kj4 t729 0 t719 t722 t725) = some r := by rw [if_neg (show ¬ (false = true) by decide)] at H; exact H
          clear H
          have H := H1
          clear H1
          have H' := am H
          clear H
          go_wp2
          go_loopg [5] kj4 (fun kq v5 w' => ∃ (x5_2 : Int), v5 = .int .i64 x5_2 ∧ Aside0 (laws_FnReachable.l0 kq t729 x5_2 t719 t722 t725 = some r) ∧ Aside0 (kq ≤ kj4) ∧ Aside0 (Kd.R Kd.bool 4 w' w.heap.size (fun _ => True) v730 t729) ∧ Aside0 (Kd.R (Kd.int .i64) 3 w' w.heap.size (fun k_ => some k_ ≠ ((.slice Ao10 t722.length co10) : Value).ownBlock ∧ some k_ ≠ ((.slice Ao11 t725.length co11) : Value).ownBlock) (.slice Ao8 t719.length co8) t719) ∧ Aside0 (Kd.R (Kd.int .i64) 3 w' w.heap.size (fun k_ => some k_ ≠ ((.slice Ao8 t719.length co8) : Value).ownBlock ∧ some k_ ≠ ((.slice Ao11 t725.length co11) : Value).ownBlock) (.slice Ao10 t722.length co10) t722) ∧ Aside0 (Kd.R (Kd.int .i64) 3 w' w.heap.size (fun k_ => some k_ ≠ ((.slice Ao8 t719.length co8) : Value).ownBlock ∧ some k_ ≠ ((.slice Ao10 t722.length co10) : Value).ownBlock) (.slice Ao11 t725.length co11) t725) ∧ Aside0 (w'.heap[gb728]? = some (.cells #[(.slice Ao8 t719.length co8), (.slice Ao10 t722.length co10), (.slice Ao11 t725.length co11)] 25 (0, 0))) ∧ Aside0 (Below w.heap.size w w'))
          case atStart => exact ⟨(0), (by first | rfl | (simp; done) | (simp [*]; done)), H', ⟨Nat.le_refl _⟩, ⟨rl HO_4.out⟩, ⟨rl HO_729000.out⟩, ⟨rl HO_729001.out⟩, ⟨rl HO_729002.out⟩, ⟨kl BK728.out⟩, ⟨by repeat (first | (with_reducible first | exact HB.out | apply below_alloc | apply pw_below_drewN | apply below_drew1 | refine below_set ?_ GE728.out) | exact HB.out)⟩⟩
          case round =>
            clear H'
            try clear c1
            try clear c2
            try clear c2b0
            try clear c2b1
            try clear p2
            try clear c3
            try clear c7
            try clear c15
            try clear c24
            try clear c27
            try clear c30
            try clear c31
            try clear c32
            try clear hcz17_0
            try clear hcz17_1
            try clear hcz17_2
            try clear hcz21_0
            try clear hcz21_1
            try clear hcz21_2
            try clear hcz23_0
            try clear hcz23_1
            try clear hcz23_2
            try clear hcz31_0
            try clear hcz31_1
            try clear hcz31_2
            try clear hcz9_0
            try clear hcz9_1
            try clear hcz9_2
            try clear hfz17_0
            try clear hfz17_1
            try clear hfz17_2
            try clear hfz21_0
            try clear hfz21_1
            try clear hfz21_2
            try clear hfz23_0
            try clear hfz23_1
            try clear hfz23_2
            try clear hfz31_0
            try clear hfz31_1
            try clear hfz31_2
            try clear hfz9_0
            try clear hfz9_1
            try clear hfz9_2
            try clear p2
            obtain ⟨x5_2, rfl, HA, HK2, HO_4, HO_729000, HO_729001, HO_729002, BK728, HB⟩ := hrel
            cases gk with
            | zero => exact absurd HA.out (by simp [laws_FnReachable.l0])
            | succ k2 =>
              have H := HA.out
              clear HA
              simp only [laws_FnReachable.l0] at H
              by_cases c35 : x5_2 < (t725.length : Int)
              · rw [if_pos c35] at H
                have c35b0 : decide (x5_2 < (t725.length : Int)) = true := decide_eq_true c35
                clear c35
                by_cases c36 : 0 ≤ x5_2
                · rw [if_pos c36] at H
                  have c36b0 : decide (0 ≤ x5_2) = true := decide_eq_true c36
                  clear c36
                  by_cases c37 : (rd t725 x5_2) = (-1)
                  · rw [if_pos c37] at H
                    have c37b0 : ((rd t725 x5_2) == (-1)) = true := beq_iff_eq.mpr c37
                    have c37b1 : ((rd t725 x5_2) != (-1)) = false := bne_eq_false_iff_eq.mpr c37
                    clear c37
                    have H' := am H
                    clear H
                    have hcz38_0 : wr.cell? ⟨gb728, 0, none⟩ = some (.slice Ao8 t719.length co8) := (blk_cell BK728.out 0).trans rfl
                    have hcz38_1 : wr.cell? ⟨gb728, 1, none⟩ = some (.slice Ao10 t722.length co10) := (blk_cell BK728.out 1).trans rfl
                    have hcz38_2 : wr.cell? ⟨gb728, 2, none⟩ = some (.slice Ao11 t725.length co11) := (blk_cell BK728.out 2).trans rfl
                    have hfz38_0 := blk_frozen BK728.out 0
                    have hfz38_1 := blk_frozen BK728.out 1
                    have hfz38_2 := blk_frozen BK728.out 2
                    have p741 : 0 ≤ (x5_2 : Int) := of_decide_eq_true (by first | (with_reducible assumption) | assumption)
                    have q741 : x5_2 < (t725.length : Int) := of_decide_eq_true (by first | (with_reducible assumption) | assumption)
                    obtain ⟨ad741, e741, hx741_0⟩ := Kd.at_int (Kd.R_reads' HO_729002.out).2.2 x5_2 p741 q741
                    cases e741
                    replace p741 := eq_true p741
                    replace q741 := eq_true q741
                    go_wp2
                    go_roundg k2
                    case measure => have := HJ4.out; have := HK2.out; omega
                    case rel => exact ⟨(wrap64 (x5_2 + 1)), (by first | rfl | (simp; done) | (simp [*]; done)), H', ⟨by have := HJ4.out; have := HK2.out; omega⟩, ⟨rl HO_4.out⟩, ⟨rl HO_729000.out⟩, ⟨rl HO_729001.out⟩, ⟨rl HO_729002.out⟩, ⟨kl BK728.out⟩, ⟨by repeat (first | (with_reducible first | exact HB.out | apply below_alloc | apply pw_below_drewN | apply below_drew1 | refine below_set ?_ GE728.out) | exact HB.out)⟩⟩
                  · rw [if_neg c37] at H
                    have c37b0 : ((rd t725 x5_2) == (-1)) = false := beq_eq_false_iff_ne.mpr c37
                    have c37b1 : ((rd t725 x5_2) != (-1)) = true := bne_iff_ne.mpr c37
                    by_cases c39 : 0 ≤ (rd t725 x5_2)
                    · rw [if_pos c39] at H
                      have c39b0 : decide (0 ≤ (rd t725 x5_2)) = true := decide_eq_true c39
                      clear c39
                      by_cases c40 : (rd t725 x5_2) < (t729.length : Int)
                      · rw [if_pos c40] at H
                        have c40b0 : decide ((rd t725 x5_2) < (t729.length : Int)) = true := decide_eq_true c40
                        clear c40
                        obtain ⟨bq41, hbq41⟩ : ∃ b_ : Bool, b_ = (rdOf false t729 (rd t725 x5_2)) := ⟨_, rfl⟩
                        replace H : (if (bq41 = true) then (laws_FnReachable.l0 k2 t729 (wrap64 (x5_2 + 1)) t719 t722 t725) else (none)) = some r := by rw [← hbq41] at H; exact H
                        have Nbq41 := am hbq41
                        clear hbq41
                        by_cases c42 : (bq41 = true)
                        · subst c42
                          have H1 : (laws_FnReachable.l0 k2 t729 (wrap64 (x5_2 + 1)) t719 t722 t725) = some r := by rw [if_pos rfl] at H; exact H
                          clear H
                          have H := H1
                          clear H1
                          have H' := am H
                          clear H
                          have hcz43_0 : wr.cell? ⟨gb728, 0, none⟩ = some (.slice Ao8 t719.length co8) := (blk_cell BK728.out 0).trans rfl
                          have hcz43_1 : wr.cell? ⟨gb728, 1, none⟩ = some (.slice Ao10 t722.length co10) := (blk_cell BK728.out 1).trans rfl
                          have hcz43_2 : wr.cell? ⟨gb728, 2, none⟩ = some (.slice Ao11 t725.length co11) := (blk_cell BK728.out 2).trans rfl
                          have hfz43_0 := blk_frozen BK728.out 0
                          have hfz43_1 := blk_frozen BK728.out 1
                          have hfz43_2 := blk_frozen BK728.out 2
                          have p741 : 0 ≤ (x5_2 : Int) := of_decide_eq_true (by first | (with_reducible assumption) | assumption)
                          have q741 : x5_2 < (t725.length : Int) := of_decide_eq_true (by first | (with_reducible assumption) | assumption)
                          obtain ⟨ad741, e741, hx741_0⟩ := Kd.at_int (Kd.R_reads' HO_729002.out).2.2 x5_2 p741 q741
                          cases e741
                          replace p741 := eq_true p741
                          replace q741 := eq_true q741
                          have p742 : 0 ≤ (x5_2 : Int) := of_decide_eq_true (by first | (with_reducible assumption) | assumption)
                          have q742 : x5_2 < (t725.length : Int) := of_decide_eq_true (by first | (with_reducible assumption) | assumption)
                          obtain ⟨ad742, e742, hx742_0⟩ := Kd.at_int (Kd.R_reads' HO_729002.out).2.2 x5_2 p742 q742
                          obtain rfl : ad741 = ad742 := (by injection e742)
                          replace p742 := eq_true p742
                          replace q742 := eq_true q742
                          obtain ⟨Ao44, co44, eo44⟩ := Kd.R_slice HO_4.out
                          subst eo44
                          have p743 : 0 ≤ ((rd t725 x5_2) : Int) := of_decide_eq_true (by first | (with_reducible assumption) | assumption)
                          have q743 : (rd t725 x5_2) < (t729.length : Int) := of_decide_eq_true (by first | (with_reducible assumption) | assumption)
                          obtain ⟨ad743, e743, hx743_0⟩ := Kd.at_bool (Kd.R_reads' HO_4.out).2.2 (rd t725 x5_2) p743 q743
                          (try rw [← Nbq41.out] at hx743_0)
                          cases e743
                          replace p743 := eq_true p743
                          replace q743 := eq_true q743
                          go_wp2
                          go_roundg k2
                          case measure => have := HJ4.out; have := HK2.out; omega
                          case rel => exact ⟨(wrap64 (x5_2 + 1)), (by first | rfl | (simp; done) | (simp [*]; done)), H', ⟨by have := HJ4.out; have := HK2.out; omega⟩, ⟨rl HO_4.out⟩, ⟨rl HO_729000.out⟩, ⟨rl HO_729001.out⟩, ⟨rl HO_729002.out⟩, ⟨kl BK728.out⟩, ⟨by repeat (first | (with_reducible first | exact HB.out | apply below_alloc | apply pw_below_drewN | apply below_drew1 | refine below_set ?_ GE728.out) | exact HB.out)⟩⟩
                        · replace c42 := Bool.eq_false_iff.mpr c42
                          subst c42
                          have H1 : (none) = some r := by rw [if_neg (show ¬ (false = true) by decide)] at H; exact H
                          clear H
                          have H := H1
                          clear H1
                          exact absurd H (by simp)
                      · rw [if_neg c40] at H
                        exact absurd H (by simp)
                    · rw [if_neg c39] at H
                      exact absurd H (by simp)
                · rw [if_neg c36] at H
                  exact absurd H (by simp)
              · rw [if_neg c35] at H
                have c35b0 : decide (x5_2 < (t725.length : Int)) = false := decide_eq_false c35
                clear c35
                have H' := am H
                clear H
                have hcz45_0 : wr.cell? ⟨gb728, 0, none⟩ = some (.slice Ao8 t719.length co8) := (blk_cell BK728.out 0).trans rfl
                have hcz45_1 : wr.cell? ⟨gb728, 1, none⟩ = some (.slice Ao10 t722.length co10) := (blk_cell BK728.out 1).trans rfl
                have hcz45_2 : wr.cell? ⟨gb728, 2, none⟩ = some (.slice Ao11 t725.length co11) := (blk_cell BK728.out 2).trans rfl
                have hfz45_0 := blk_frozen BK728.out 0
                have hfz45_1 := blk_frozen BK728.out 1
                have hfz45_2 := blk_frozen BK728.out 2
                go_wp2
                go_loopg [6] k2 (fun kq v6 w' => ∃ (x6_3 : Int), v6 = .int .i64 x6_3 ∧ Aside0 (laws_FnReachable.l1 kq t729 x6_3 t719 t722 t725 = some r) ∧ Aside0 (kq ≤ k2) ∧ Aside0 (Kd.R Kd.bool 4 w' w.heap.size (fun _ => True) v730 t729) ∧ Aside0 (Kd.R (Kd.int .i64) 3 w' w.heap.size (fun k_ => some k_ ≠ ((.slice Ao10 t722.length co10) : Value).ownBlock ∧ some k_ ≠ ((.slice Ao11 t725.length co11) : Value).ownBlock) (.slice Ao8 t719.length co8) t719) ∧ Aside0 (Kd.R (Kd.int .i64) 3 w' w.heap.size (fun k_ => some k_ ≠ ((.slice Ao8 t719.length co8) : Value).ownBlock ∧ some k_ ≠ ((.slice Ao11 t725.length co11) : Value).ownBlock) (.slice Ao10 t722.length co10) t722) ∧ Aside0 (Kd.R (Kd.int .i64) 3 w' w.heap.size (fun k_ => some k_ ≠ ((.slice Ao8 t719.length co8) : Value).ownBlock ∧ some k_ ≠ ((.slice Ao10 t722.length co10) : Value).ownBlock) (.slice Ao11 t725.length co11) t725) ∧ Aside0 (w'.heap[gb728]? = some (.cells #[(.slice Ao8 t719.length co8), (.slice Ao10 t722.length co10), (.slice Ao11 t725.length co11)] 25 (0, 0))) ∧ Aside0 (Below w.heap.size w w'))
                case atStart => exact ⟨(0), (by first | rfl | (simp; done) | (simp [*]; done)), H', ⟨Nat.le_refl _⟩, ⟨rl HO_4.out⟩, ⟨rl HO_729000.out⟩, ⟨rl HO_729001.out⟩, ⟨rl HO_729002.out⟩, ⟨kl BK728.out⟩, ⟨by repeat (first | (with_reducible first | exact HB.out | apply below_alloc | apply pw_below_drewN | apply below_drew1 | refine below_set ?_ GE728.out) | exact HB.out)⟩⟩
                case round =>
                  clear H'
                  try clear c1
                  try clear c2
                  try clear c2b0
                  try clear c2b1
                  try clear p2
                  try clear c3
                  try clear c4
                  try clear q4
                  try clear p6
                  try clear c7
                  try clear p7
                  try clear q7
                  try clear hx7
                  try clear c15
                  try clear c24
                  try clear c27
                  try clear c30
                  try clear c31
                  try clear c32
                  try clear c35
                  try clear c35b0
                  try clear c36
                  try clear c36b0
                  try clear c37
                  try clear c37b0
                  try clear c37b1
                  try clear c39
                  try clear c39b0
                  try clear c40
                  try clear c40b0
                  try clear q41
                  try clear c42
                  try clear hcz17_0
                  try clear hcz17_1
                  try clear hcz17_2
                  try clear hcz21_0
                  try clear hcz21_1
                  try clear hcz21_2
                  try clear hcz23_0
                  try clear hcz23_1
                  try clear hcz23_2
                  try clear hcz31_0
                  try clear hcz31_1
                  try clear hcz31_2
                  try clear hcz38_0
                  try clear hcz38_1
                  try clear hcz38_2
                  try clear hcz43_0
                  try clear hcz43_1
                  try clear hcz43_2
                  try clear hcz45_0
                  try clear hcz45_1
                  try clear hcz45_2
                  try clear hcz9_0
                  try clear hcz9_1
                  try clear hcz9_2
                  try clear hfz17_0
                  try clear hfz17_1
                  try clear hfz17_2
                  try clear hfz21_0
                  try clear hfz21_1
                  try clear hfz21_2
                  try clear hfz23_0
                  try clear hfz23_1
                  try clear hfz23_2
                  try clear hfz31_0
                  try clear hfz31_1
                  try clear hfz31_2
                  try clear hfz38_0
                  try clear hfz38_1
                  try clear hfz38_2
                  try clear hfz43_0
                  try clear hfz43_1
                  try clear hfz43_2
                  try clear hfz45_0
                  try clear hfz45_1
                  try clear hfz45_2
                  try clear hfz9_0
                  try clear hfz9_1
                  try clear hfz9_2
                  try clear hx741_0
                  try clear hx742_0
                  try clear hx743_0
                  try clear p2
                  try clear p741
                  try clear p742
                  try clear p743
                  try clear q741
                  try clear q742
                  try clear q743
                  obtain ⟨x6_3, rfl, HA, HK3, HO_4, HO_729000, HO_729001, HO_729002, BK728, HB⟩ := hrel
                  cases gk with
                  | zero => exact absurd HA.out (by simp [laws_FnReachable.l1])
                  | succ k3 =>
                    have H := HA.out
                    clear HA
                    simp only [laws_FnReachable.l1] at H
                    by_cases c46 : x6_3 < (t729.length : Int)
                    · rw [if_pos c46] at H
                      have c46b0 : decide (x6_3 < (t729.length : Int)) = true := decide_eq_true c46
                      clear c46
                      by_cases c47 : 0 ≤ x6_3
                      · rw [if_pos c47] at H
                        have c47b0 : decide (0 ≤ x6_3) = true := decide_eq_true c47
                        clear c47
                        obtain ⟨bq48, hbq48⟩ : ∃ b_ : Bool, b_ = (rdOf false t729 x6_3) := ⟨_, rfl⟩
                        replace H : (if bq48 = true then (if x6_3 < (t719.length : Int) then (if (rd t719 x6_3) = (-1) then (if x6_3 < (t722.length : Int) then (if (rd t722 x6_3) = (-1) then (laws_FnReachable.l1 k3 t729 (wrap64 (x6_3 + 1)) t719 t722 t725) else (if 0 ≤ (rd t722 x6_3) then (if (rd t722 x6_3) < (t729.length : Int) then (if (rdOf false t729 (rd t722 x6_3) = true) then (laws_FnReachable.l1 k3 t729 (wrap64 (x6_3 + 1)) t719 t722 t725) else (none)) else (none)) else (none))) else (none)) else (if 0 ≤ (rd t719 x6_3) then (if (rd t719 x6_3) < (t729.length : Int) then (if (rdOf false t729 (rd t719 x6_3) = true) then (if x6_3 < (t722.length : Int) then (if (rd t722 x6_3) = (-1) then (laws_FnReachable.l1 k3 t729 (wrap64 (x6_3 + 1)) t719 t722 t725) else (if 0 ≤ (rd t722 x6_3) then (if (rd t722 x6_3) < (t729.length : Int) then (if (rdOf false t729 (rd t722 x6_3) = true) then (laws_FnReachable.l1 k3 t729 (wrap64 (x6_3 + 1)) t719 t722 t725) else (none)) else (none)) else (none))) else (none)) else (none)) else (none)) else (none))) else (none)) else (laws_FnReachable.l1 k3 t729 (wrap64 (x6_3 + 1)) t719 t722 t725)) = some r := by rw [← hbq48] at H; exact H
                        have Nbq48 := am hbq48
                        clear hbq48
                        by_cases c49 : bq48 = true
                        · subst c49
                          have H1 : (if x6_3 < (t719.length : Int) then (if (rd t719 x6_3) = (-1) then (if x6_3 < (t722.length : Int) then (if (rd t722 x6_3) = (-1) then (laws_FnReachable.l1 k3 t729 (wrap64 (x6_3 + 1)) t719 t722 t725) else (if 0 ≤ (rd t722 x6_3) then (if (rd t722 x6_3) < (t729.length : Int) then (if (rdOf false t729 (rd t722 x6_3) = true) then (laws_FnReachable.l1 k3 t729 (wrap64 (x6_3 + 1)) t719 t722 t725) else (none)) else (none)) else (none))) else (none)) else (if 0 ≤ (rd t719 x6_3) then (if (rd t719 x6_3) < (t729.length : Int) then (if (rdOf false t729 (rd t719 x6_3) = true) then (if x6_3 < (t722.length : Int) then (if (rd t722 x6_3) = (-1) then (laws_FnReachable.l1 k3 t729 (wrap64 (x6_3 + 1)) t719 t722 t725) else (if 0 ≤ (rd t722 x6_3) then (if (rd t722 x6_3) < (t729.length : Int) then (if (rdOf false t729 (rd t722 x6_3) = true) then (laws_FnReachable.l1 k3 t729 (wrap64 (x6_3 + 1)) t719 t722 t725) else (none)) else (none)) else (none))) else (none)) else (none)) else (none)) else (none))) else (none)) = some r := by rw [if_pos rfl] at H; exact H
                          clear H
                          have H := H1
                          clear H1
                          by_cases c50 : x6_3 < (t719.length : Int)
                          · rw [if_pos c50] at H
                            have c50b0 : decide (x6_3 < (t719.length : Int)) = true := decide_eq_true c50
                            clear c50
                            by_cases c51 : (rd t719 x6_3) = (-1)
                            · rw [if_pos c51] at H
                              have c51b0 : ((rd t719 x6_3) == (-1)) = true := beq_iff_eq.mpr c51
                              have c51b1 : ((rd t719 x6_3) != (-1)) = false := bne_eq_false_iff_eq.mpr c51
                              clear c51
                              by_cases c52 : x6_3 < (t722.length : Int)
                              · rw [if_pos c52] at H
                                have c52b0 : decide (x6_3 < (t722.length : Int)) = true := decide_eq_true c52
                                clear c52
                                by_cases c53 : (rd t722 x6_3) = (-1)
                                · rw [if_pos c53] at H
                                  have c53b0 : ((rd t722 x6_3) == (-1)) = true := beq_iff_eq.mpr c53
                                  have c53b1 : ((rd t722 x6_3) != (-1)) = false := bne_eq_false_iff_eq.mpr c53
                                  clear c53
                                  have H' := am H
                                  clear H
                                  obtain ⟨Ao54, co54, eo54⟩ := Kd.R_slice HO_4.out
                                  subst eo54
                                  have p744 : 0 ≤ (x6_3 : Int) := of_decide_eq_true (by first | (with_reducible assumption) | assumption)
                                  have q744 : x6_3 < (t729.length : Int) := of_decide_eq_true (by first | (with_reducible assumption) | assumption)
                                  obtain ⟨ad744, e744, hx744_0⟩ := Kd.at_bool (Kd.R_reads' HO_4.out).2.2 x6_3 p744 q744
                                  (try rw [← Nbq48.out] at hx744_0)
                                  cases e744
                                  replace p744 := eq_true p744
                                  replace q744 := eq_true q744
                                  have hcz55_0 : wr.cell? ⟨gb728, 0, none⟩ = some (.slice Ao8 t719.length co8) := (blk_cell BK728.out 0).trans rfl
                                  have hcz55_1 : wr.cell? ⟨gb728, 1, none⟩ = some (.slice Ao10 t722.length co10) := (blk_cell BK728.out 1).trans rfl
                                  have hcz55_2 : wr.cell? ⟨gb728, 2, none⟩ = some (.slice Ao11 t725.length co11) := (blk_cell BK728.out 2).trans rfl
                                  have hfz55_0 := blk_frozen BK728.out 0
                                  have hfz55_1 := blk_frozen BK728.out 1
                                  have hfz55_2 := blk_frozen BK728.out 2
                                  have p745 : 0 ≤ (x6_3 : Int) := of_decide_eq_true (by first | (with_reducible assumption) | assumption)
                                  have q745 : x6_3 < (t719.length : Int) := of_decide_eq_true (by first | (with_reducible assumption) | assumption)
                                  obtain ⟨ad745, e745, hx745_0⟩ := Kd.at_int (Kd.R_reads' HO_729000.out).2.2 x6_3 p745 q745
                                  cases e745
                                  replace p745 := eq_true p745
                                  replace q745 := eq_true q745
                                  have p746 : 0 ≤ (x6_3 : Int) := of_decide_eq_true (by first | (with_reducible assumption) | assumption)
                                  have q746 : x6_3 < (t722.length : Int) := of_decide_eq_true (by first | (with_reducible assumption) | assumption)
                                  obtain ⟨ad746, e746, hx746_0⟩ := Kd.at_int (Kd.R_reads' HO_729001.out).2.2 x6_3 p746 q746
                                  cases e746
                                  replace p746 := eq_true p746
                                  replace q746 := eq_true q746
                                  go_wp2
                                  go_roundg k3
                                  case measure => have := HJ4.out; have := HK2.out; have := HK3.out; omega
                                  case rel => exact ⟨(wrap64 (x6_3 + 1)), (by first | rfl | (simp; done) | (simp [*]; done)), H', ⟨by have := HJ4.out; have := HK2.out; have := HK3.out; omega⟩, ⟨rl HO_4.out⟩, ⟨rl HO_729000.out⟩, ⟨rl HO_729001.out⟩, ⟨rl HO_729002.out⟩, ⟨kl BK728.out⟩, ⟨by repeat (first | (with_reducible first | exact HB.out | apply below_alloc | apply pw_below_drewN | apply below_drew1 | refine below_set ?_ GE728.out) | exact HB.out)⟩⟩
                                · rw [if_neg c53] at H
                                  have c53b0 : ((rd t722 x6_3) == (-1)) = false := beq_eq_false_iff_ne.mpr c53
                                  have c53b1 : ((rd t722 x6_3) != (-1)) = true := bne_iff_ne.mpr c53
                                  by_cases c56 : 0 ≤ (rd t722 x6_3)
                                  · rw [if_pos c56] at H
                                    have c56b0 : decide (0 ≤ (rd t722 x6_3)) = true := decide_eq_true c56
                                    clear c56
                                    by_cases c57 : (rd t722 x6_3) < (t729.length : Int)
                                    · rw [if_pos c57] at H
                                      have c57b0 : decide ((rd t722 x6_3) < (t729.length : Int)) = true := decide_eq_true c57
                                      clear c57
                                      obtain ⟨bq58, hbq58⟩ : ∃ b_ : Bool, b_ = (rdOf false t729 (rd t722 x6_3)) := ⟨_, rfl⟩
                                      replace H : (if (bq58 = true) then (laws_FnReachable.l1 k3 t729 (wrap64 (x6_3 + 1)) t719 t722 t725) else (none)) = some r := by rw [← hbq58] at H; exact H
                                      have Nbq58 := am hbq58
                                      clear hbq58
                                      by_cases c59 : (bq58 = true)
                                      · subst c59
                                        have H1 : (laws_FnReachable.l1 k3 t729 (wrap64 (x6_3 + 1)) t719 t722 t725) = some r := by rw [if_pos rfl] at H; exact H
                                        clear H
                                        have H := H1
                                        clear H1
                                        have H' := am H
                                        clear H
                                        obtain ⟨Ao60, co60, eo60⟩ := Kd.R_slice HO_4.out
                                        subst eo60
                                        have p744 : 0 ≤ (x6_3 : Int) := of_decide_eq_true (by first | (with_reducible assumption) | assumption)
                                        have q744 : x6_3 < (t729.length : Int) := of_decide_eq_true (by first | (with_reducible assumption) | assumption)
                                        obtain ⟨ad744, e744, hx744_0⟩ := Kd.at_bool (Kd.R_reads' HO_4.out).2.2 x6_3 p744 q744
                                        (try rw [← Nbq48.out] at hx744_0)
                                        (try rw [← Nbq58.out] at hx744_0)
                                        cases e744
                                        replace p744 := eq_true p744
                                        replace q744 := eq_true q744
                                        have hcz61_0 : wr.cell? ⟨gb728, 0, none⟩ = some (.slice Ao8 t719.length co8) := (blk_cell BK728.out 0).trans rfl
                                        have hcz61_1 : wr.cell? ⟨gb728, 1, none⟩ = some (.slice Ao10 t722.length co10) := (blk_cell BK728.out 1).trans rfl
                                        have hcz61_2 : wr.cell? ⟨gb728, 2, none⟩ = some (.slice Ao11 t725.length co11) := (blk_cell BK728.out 2).trans rfl
                                        have hfz61_0 := blk_frozen BK728.out 0
                                        have hfz61_1 := blk_frozen BK728.out 1
                                        have hfz61_2 := blk_frozen BK728.out 2
                                        have p745 : 0 ≤ (x6_3 : Int) := of_decide_eq_true (by first | (with_reducible assumption) | assumption)
                                        have q745 : x6_3 < (t719.length : Int) := of_decide_eq_true (by first | (with_reducible assumption) | assumption)
                                        obtain ⟨ad745, e745, hx745_0⟩ := Kd.at_int (Kd.R_reads' HO_729000.out).2.2 x6_3 p745 q745
                                        cases e745
                                        replace p745 := eq_true p745
                                        replace q745 := eq_true q745
                                        have p746 : 0 ≤ (x6_3 : Int) := of_decide_eq_true (by first | (with_reducible assumption) | assumption)
                                        have q746 : x6_3 < (t722.length : Int) := of_decide_eq_true (by first | (with_reducible assumption) | assumption)
                                        obtain ⟨ad746, e746, hx746_0⟩ := Kd.at_int (Kd.R_reads' HO_729001.out).2.2 x6_3 p746 q746
                                        cases e746
                                        replace p746 := eq_true p746
                                        replace q746 := eq_true q746
                                        have p747 : 0 ≤ (x6_3 : Int) := of_decide_eq_true (by first | (with_reducible assumption) | assumption)
                                        have q747 : x6_3 < (t722.length : Int) := of_decide_eq_true (by first | (with_reducible assumption) | assumption)
                                        obtain ⟨ad747, e747, hx747_0⟩ := Kd.at_int (Kd.R_reads' HO_729001.out).2.2 x6_3 p747 q747
                                        obtain rfl : ad746 = ad747 := (by injection e747)
                                        replace p747 := eq_true p747
                                        replace q747 := eq_true q747
                                        have p748 : 0 ≤ ((rd t722 x6_3) : Int) := of_decide_eq_true (by first | (with_reducible assumption) | assumption)
                                        have q748 : (rd t722 x6_3) < (t729.length : Int) := of_decide_eq_true (by first | (with_reducible assumption) | assumption)
                                        obtain ⟨ad748, e748, hx748_0⟩ := Kd.at_bool (Kd.R_reads' HO_4.out).2.2 (rd t722 x6_3) p748 q748
                                        (try rw [← Nbq48.out] at hx748_0)
                                        (try rw [← Nbq58.out] at hx748_0)
                                        obtain rfl : ad744 = ad748 := (by injection e748)
                                        replace p748 := eq_true p748
                                        replace q748 := eq_true q748
                                        go_wp2
                                        go_roundg k3
                                        case measure => have := HJ4.out; have := HK2.out; have := HK3.out; omega
                                        case rel => exact ⟨(wrap64 (x6_3 + 1)), (by first | rfl | (simp; done) | (simp [*]; done)), H', ⟨by have := HJ4.out; have := HK2.out; have := HK3.out; omega⟩, ⟨rl HO_4.out⟩, ⟨rl HO_729000.out⟩, ⟨rl HO_729001.out⟩, ⟨rl HO_729002.out⟩, ⟨kl BK728.out⟩, ⟨by repeat (first | (with_reducible first | exact HB.out | apply below_alloc | apply pw_below_drewN | apply below_drew1 | refine below_set ?_ GE728.out) | exact HB.out)⟩⟩
                                      · replace c59 := Bool.eq_false_iff.mpr c59
                                        subst c59
                                        have H1 : (none) = some r := by rw [if_neg (show ¬ (false = true) by decide)] at H; exact H
                                        clear H
                                        have H := H1
                                        clear H1
                                        exact absurd H (by simp)
                                    · rw [if_neg c57] at H
                                      exact absurd H (by simp)
                                  · rw [if_neg c56] at H
                                    exact absurd H (by simp)
                              · rw [if_neg c52] at H
                                exact absurd H (by simp)
                            · rw [if_neg c51] at H
                              have c51b0 : ((rd t719 x6_3) == (-1)) = false := beq_eq_false_iff_ne.mpr c51
                              have c51b1 : ((rd t719 x6_3) != (-1)) = true := bne_iff_ne.mpr c51
                              by_cases c62 : 0 ≤ (rd t719 x6_3)
                              · rw [if_pos c62] at H
                                have c62b0 : decide (0 ≤ (rd t719 x6_3)) = true := decide_eq_true c62
                                clear c62
                                by_cases c63 : (rd t719 x6_3) < (t729.length : Int)
                                · rw [if_pos c63] at H
                                  have c63b0 : decide ((rd t719 x6_3) < (t729.length : Int)) = true := decide_eq_true c63
                                  clear c63
                                  obtain ⟨bq64, hbq64⟩ : ∃ b_ : Bool, b_ = (rdOf false t729 (rd t719 x6_3)) := ⟨_, rfl⟩
                                  replace H : (if (bq64 = true) then (if x6_3 < (t722.length : Int) then (if (rd t722 x6_3) = (-1) then (laws_FnReachable.l1 k3 t729 (wrap64 (x6_3 + 1)) t719 t722 t725) else (if 0 ≤ (rd t722 x6_3) then (if (rd t722 x6_3) < (t729.length : Int) then (if (rdOf false t729 (rd t722 x6_3) = true) then (laws_FnReachable.l1 k3 t729 (wrap64 (x6_3 + 1)) t719 t722 t725) else (none)) else (none)) else (none))) else (none)) else (none)) = some r := by rw [← hbq64] at H; exact H
                                  have Nbq64 := am hbq64
                                  clear hbq64
                                  by_cases c65 : (bq64 = true)
                                  · subst c65
                                    have H1 : (if x6_3 < (t722.length : Int) then (if (rd t722 x6_3) = (-1) then (laws_FnReachable.l1 k3 t729 (wrap64 (x6_3 + 1)) t719 t722 t725) else (if 0 ≤ (rd t722 x6_3) then (if (rd t722 x6_3) < (t729.length : Int) then (if (rdOf false t729 (rd t722 x6_3) = true) then (laws_FnReachable.l1 k3 t729 (wrap64 (x6_3 + 1)) t719 t722 t725) else (none)) else (none)) else (none))) else (none)) = some r := by rw [if_pos rfl] at H; exact H
                                    clear H
                                    have H := H1
                                    clear H1
                                    by_cases c66 : x6_3 < (t722.length : Int)
                                    · rw [if_pos c66] at H
                                      have c66b0 : decide (x6_3 < (t722.length : Int)) = true := decide_eq_true c66
                                      clear c66
                                      by_cases c67 : (rd t722 x6_3) = (-1)
                                      · rw [if_pos c67] at H
                                        have c67b0 : ((rd t722 x6_3) == (-1)) = true := beq_iff_eq.mpr c67
                                        have c67b1 : ((rd t722 x6_3) != (-1)) = false := bne_eq_false_iff_eq.mpr c67
                                        clear c67
                                        have H' := am H
                                        clear H
                                        obtain ⟨Ao68, co68, eo68⟩ := Kd.R_slice HO_4.out
                                        subst eo68
                                        have p744 : 0 ≤ (x6_3 : Int) := of_decide_eq_true (by first | (with_reducible assumption) | assumption)
                                        have q744 : x6_3 < (t729.length : Int) := of_decide_eq_true (by first | (with_reducible assumption) | assumption)
                                        obtain ⟨ad744, e744, hx744_0⟩ := Kd.at_bool (Kd.R_reads' HO_4.out).2.2 x6_3 p744 q744
                                        (try rw [← Nbq48.out] at hx744_0)
                                        (try rw [← Nbq64.out] at hx744_0)
                                        cases e744
                                        replace p744 := eq_true p744
                                        replace q744 := eq_true q744
                                        have hcz69_0 : wr.cell? ⟨gb728, 0, none⟩ = some (.slice Ao8 t719.length co8) := (blk_cell BK728.out 0).trans rfl
                                        have hcz69_1 : wr.cell? ⟨gb728, 1, none⟩ = some (.slice Ao10 t722.length co10) := (blk_cell BK728.out 1).trans rfl
                                        have hcz69_2 : wr.cell? ⟨gb728, 2, none⟩ = some (.slice Ao11 t725.length co11) := (blk_cell BK728.out 2).trans rfl
                                        have hfz69_0 := blk_frozen BK728.out 0
                                        have hfz69_1 := blk_frozen BK728.out 1
                                        have hfz69_2 := blk_frozen BK728.out 2
                                        have p745 : 0 ≤ (x6_3 : Int) := of_decide_eq_true (by first | (with_reducible assumption) | assumption)
                                        have q745 : x6_3 < (t719.length : Int) := of_decide_eq_true (by first | (with_reducible assumption) | assumption)
                                        obtain ⟨ad745, e745, hx745_0⟩ := Kd.at_int (Kd.R_reads' HO_729000.out).2.2 x6_3 p745 q745
                                        cases e745
                                        replace p745 := eq_true p745
                                        replace q745 := eq_true q745
                                        have p749 : 0 ≤ (x6_3 : Int) := of_decide_eq_true (by first | (with_reducible assumption) | assumption)
                                        have q749 : x6_3 < (t719.length : Int) := of_decide_eq_true (by first | (with_reducible assumption) | assumption)
                                        obtain ⟨ad749, e749, hx749_0⟩ := Kd.at_int (Kd.R_reads' HO_729000.out).2.2 x6_3 p749 q749
                                        obtain rfl : ad745 = ad749 := (by injection e749)
                                        replace p749 := eq_true p749
                                        replace q749 := eq_true q749
                                        have p750 : 0 ≤ ((rd t719 x6_3) : Int) := of_decide_eq_true (by first | (with_reducible assumption) | assumption)
                                        have q750 : (rd t719 x6_3) < (t729.length : Int) := of_decide_eq_true (by first | (with_reducible assumption) | assumption)
                                        obtain ⟨ad750, e750, hx750_0⟩ := Kd.at_bool (Kd.R_reads' HO_4.out).2.2 (rd t719 x6_3) p750 q750
                                        (try rw [← Nbq48.out] at hx750_0)
                                        (try rw [← Nbq64.out] at hx750_0)
                                        obtain rfl : ad744 = ad750 := (by injection e750)
                                        replace p750 := eq_true p750
                                        replace q750 := eq_true q750
                                        have p751 : 0 ≤ (x6_3 : Int) := of_decide_eq_true (by first | (with_reducible assumption) | assumption)
                                        have q751 : x6_3 < (t722.length : Int) := of_decide_eq_true (by first | (with_reducible assumption) | assumption)
                                        obtain ⟨ad751, e751, hx751_0⟩ := Kd.at_int (Kd.R_reads' HO_729001.out).2.2 x6_3 p751 q751
                                        cases e751
                                        replace p751 := eq_true p751
                                        replace q751 := eq_true q751
                                        go_wp2
                                        go_roundg k3
                                        case measure => have := HJ4.out; have := HK2.out; have := HK3.out; omega
                                        case rel => exact ⟨(wrap64 (x6_3 + 1)), (by first | rfl | (simp; done) | (simp [*]; done)), H', ⟨by have := HJ4.out; have := HK2.out; have := HK3.out; omega⟩, ⟨rl HO_4.out⟩, ⟨rl HO_729000.out⟩, ⟨rl HO_729001.out⟩, ⟨rl HO_729002.out⟩, ⟨kl BK728.out⟩, ⟨by repeat (first | (with_reducible first | exact HB.out | apply below_alloc | apply pw_below_drewN | apply below_drew1 | refine below_set ?_ GE728.out) | exact HB.out)⟩⟩
                                      · rw [if_neg c67] at H
                                        have c67b0 : ((rd t722 x6_3) == (-1)) = false := beq_eq_false_iff_ne.mpr c67
                                        have c67b1 : ((rd t722 x6_3) != (-1)) = true := bne_iff_ne.mpr c67
                                        by_cases c70 : 0 ≤ (rd t722 x6_3)
                                        · rw [if_pos c70] at H
                                          have c70b0 : decide (0 ≤ (rd t722 x6_3)) = true := decide_eq_true c70
                                          clear c70
                                          by_cases c71 : (rd t722 x6_3) < (t729.length : Int)
                                          · rw [if_pos c71] at H
                                            have c71b0 : decide ((rd t722 x6_3) < (t729.length : Int)) = true := decide_eq_true c71
                                            clear c71
                                            obtain ⟨bq72, hbq72⟩ : ∃ b_ : Bool, b_ = (rdOf false t729 (rd t722 x6_3)) := ⟨_, rfl⟩
                                            replace H : (if (bq72 = true) then (laws_FnReachable.l1 k3 t729 (wrap64 (x6_3 + 1)) t719 t722 t725) else (none)) = some r := by rw [← hbq72] at H; exact H
                                            have Nbq72 := am hbq72
                                            clear hbq72
                                            by_cases c73 : (bq72 = true)
                                            · subst c73
                                              have H1 : (laws_FnReachable.l1 k3 t729 (wrap64 (x6_3 + 1)) t719 t722 t725) = some r := by rw [if_pos rfl] at H; exact H
                                              clear H
                                              have H := H1
                                              clear H1
                                              have H' := am H
                                              clear H
                                              obtain ⟨Ao74, co74, eo74⟩ := Kd.R_slice HO_4.out
                                              subst eo74
                                              have p744 : 0 ≤ (x6_3 : Int) := of_decide_eq_true (by first | (with_reducible assumption) | assumption)
                                              have q744 : x6_3 < (t729.length : Int) := of_decide_eq_true (by first | (with_reducible assumption) | assumption)
                                              obtain ⟨ad744, e744, hx744_0⟩ := Kd.at_bool (Kd.R_reads' HO_4.out).2.2 x6_3 p744 q744
                                              (try rw [← Nbq48.out] at hx744_0)
                                              (try rw [← Nbq64.out] at hx744_0)
                                              (try rw [← Nbq72.out] at hx744_0)
                                              cases e744
                                              replace p744 := eq_true p744
                                              replace q744 := eq_true q744
                                              have hcz75_0 : wr.cell? ⟨gb728, 0, none⟩ = some (.slice Ao8 t719.length co8) := (blk_cell BK728.out 0).trans rfl
                                              have hcz75_1 : wr.cell? ⟨gb728, 1, none⟩ = some (.slice Ao10 t722.length co10) := (blk_cell BK728.out 1).trans rfl
                                              have hcz75_2 : wr.cell? ⟨gb728, 2, none⟩ = some (.slice Ao11 t725.length co11) := (blk_cell BK728.out 2).trans rfl
                                              have hfz75_0 := blk_frozen BK728.out 0
                                              have hfz75_1 := blk_frozen BK728.out 1
                                              have hfz75_2 := blk_frozen BK728.out 2
                                              have p745 : 0 ≤ (x6_3 : Int) := of_decide_eq_true (by first | (with_reducible assumption) | assumption)
                                              have q745 : x6_3 < (t719.length : Int) := of_decide_eq_true (by first | (with_reducible assumption) | assumption)
                                              obtain ⟨ad745, e745, hx745_0⟩ := Kd.at_int (Kd.R_reads' HO_729000.out).2.2 x6_3 p745 q745
                                              cases e745
                                              replace p745 := eq_true p745
                                              replace q745 := eq_true q745
                                              have p749 : 0 ≤ (x6_3 : Int) := of_decide_eq_true (by first | (with_reducible assumption) | assumption)
                                              have q749 : x6_3 < (t719.length : Int) := of_decide_eq_true (by first | (with_reducible assumption) | assumption)
                                              obtain ⟨ad749, e749, hx749_0⟩ := Kd.at_int (Kd.R_reads' HO_729000.out).2.2 x6_3 p749 q749
                                              obtain rfl : ad745 = ad749 := (by injection e749)
                                              replace p749 := eq_true p749
                                              replace q749 := eq_true q749
                                              have p750 : 0 ≤ ((rd t719 x6_3) : Int) := of_decide_eq_true (by first | (with_reducible assumption) | assumption)
                                              have q750 : (rd t719 x6_3) < (t729.length : Int) := of_decide_eq_true (by first | (with_reducible assumption) | assumption)
                                              obtain ⟨ad750, e750, hx750_0⟩ := Kd.at_bool (Kd.R_reads' HO_4.out).2.2 (rd t719 x6_3) p750 q750
                                              (try rw [← Nbq48.out] at hx750_0)
                                              (try rw [← Nbq64.out] at hx750_0)
                                              (try rw [← Nbq72.out] at hx750_0)
                                              obtain rfl : ad744 = ad750 := (by injection e750)
                                              replace p750 := eq_true p750
                                              replace q750 := eq_true q750
                                              have p751 : 0 ≤ (x6_3 : Int) := of_decide_eq_true (by first | (with_reducible assumption) | assumption)
                                              have q751 : x6_3 < (t722.length : Int) := of_decide_eq_true (by first | (with_reducible assumption) | assumption)
                                              obtain ⟨ad751, e751, hx751_0⟩ := Kd.at_int (Kd.R_reads' HO_729001.out).2.2 x6_3 p751 q751
                                              cases e751
                                              replace p751 := eq_true p751
                                              replace q751 := eq_true q751
                                              have p752 : 0 ≤ (x6_3 : Int) := of_decide_eq_true (by first | (with_reducible assumption) | assumption)
                                              have q752 : x6_3 < (t722.length : Int) := of_decide_eq_true (by first | (with_reducible assumption) | assumption)
                                              obtain ⟨ad752, e752, hx752_0⟩ := Kd.at_int (Kd.R_reads' HO_729001.out).2.2 x6_3 p752 q752
                                              obtain rfl : ad751 = ad752 := (by injection e752)
                                              replace p752 := eq_true p752
                                              replace q752 := eq_true q752
                                              have p753 : 0 ≤ ((rd t722 x6_3) : Int) := of_decide_eq_true (by first | (with_reducible assumption) | assumption)
                                              have q753 : (rd t722 x6_3) < (t729.length : Int) := of_decide_eq_true (by first | (with_reducible assumption) | assumption)
                                              obtain ⟨ad753, e753, hx753_0⟩ := Kd.at_bool (Kd.R_reads' HO_4.out).2.2 (rd t722 x6_3) p753 q753
                                              (try rw [← Nbq48.out] at hx753_0)
                                              (try rw [← Nbq64.out] at hx753_0)
                                              (try rw [← Nbq72.out] at hx753_0)
                                              obtain rfl : ad744 = ad753 := (by injection e753)
                                              replace p753 := eq_true p753
                                              replace q753 := eq_true q753
                                              go_wp2
                                              go_roundg k3
                                              case measure => have := HJ4.out; have := HK2.out; have := HK3.out; omega
                                              case rel => exact ⟨(wrap64 (x6_3 + 1)), (by first | rfl | (simp; done) | (simp [*]; done)), H', ⟨by have := HJ4.out; have := HK2.out; have := HK3.out; omega⟩, ⟨rl HO_4.out⟩, ⟨rl HO_729000.out⟩, ⟨rl HO_729001.out⟩, ⟨rl HO_729002.out⟩, ⟨kl BK728.out⟩, ⟨by repeat (first | (with_reducible first | exact HB.out | apply below_alloc | apply pw_below_drewN | apply below_drew1 | refine below_set ?_ GE728.out) | exact HB.out)⟩⟩
                                            · replace c73 := Bool.eq_false_iff.mpr c73
                                              subst c73
                                              have H1 : (none) = some r := by rw [if_neg (show ¬ (false = true) by decide)] at H; exact H
                                              clear H
                                              have H := H1
                                              clear H1
                                              exact absurd H (by simp)
                                          · rw [if_neg c71] at H
                                            exact absurd H (by simp)
                                        · rw [if_neg c70] at H
                                          exact absurd H (by simp)
                                    · rw [if_neg c66] at H
                                      exact absurd H (by simp)
                                  · replace c65 := Bool.eq_false_iff.mpr c65
                                    subst c65
                                    have H1 : (none) = some r := by rw [if_neg (show ¬ (false = true) by decide)] at H; exact H
                                    clear H
                                    have H := H1
                                    clear H1
                                    exact absurd H (by simp)
                                · rw [if_neg c63] at H
                                  exact absurd H (by simp)
                              · rw [if_neg c62] at H
                                exact absurd H (by simp)
                          · rw [if_neg c50] at H
                            exact absurd H (by simp)
                        · replace c49 := Bool.eq_false_iff.mpr c49
                          subst c49
                          have H1 : (laws_FnReachable.l1 k3 t729 (wrap64 (x6_3 + 1)) t719 t722 t725) = some r := by rw [if_neg (show ¬ (false = true) by decide)] at H; exact H
                          clear H
                          have H := H1
                          clear H1
                          have H' := am H
                          clear H
                          obtain ⟨Ao76, co76, eo76⟩ := Kd.R_slice HO_4.out
                          subst eo76
                          have p744 : 0 ≤ (x6_3 : Int) := of_decide_eq_true (by first | (with_reducible assumption) | assumption)
                          have q744 : x6_3 < (t729.length : Int) := of_decide_eq_true (by first | (with_reducible assumption) | assumption)
                          obtain ⟨ad744, e744, hx744_0⟩ := Kd.at_bool (Kd.R_reads' HO_4.out).2.2 x6_3 p744 q744
                          (try rw [← Nbq48.out] at hx744_0)
                          cases e744
                          replace p744 := eq_true p744
                          replace q744 := eq_true q744
                          go_wp2
                          go_roundg k3
                          case measure => have := HJ4.out; have := HK2.out; have := HK3.out; omega
                          case rel => exact ⟨(wrap64 (x6_3 + 1)), (by first | rfl | (simp; done) | (simp [*]; done)), H', ⟨by have := HJ4.out; have := HK2.out; have := HK3.out; omega⟩, ⟨rl HO_4.out⟩, ⟨rl HO_729000.out⟩, ⟨rl HO_729001.out⟩, ⟨rl HO_729002.out⟩, ⟨kl BK728.out⟩, ⟨by repeat (first | (with_reducible first | exact HB.out | apply below_alloc | apply pw_below_drewN | apply below_drew1 | refine below_set ?_ GE728.out) | exact HB.out)⟩⟩
                      · rw [if_neg c47] at H
                        exact absurd H (by simp)
                    · rw [if_neg c46] at H
                      have c46b0 : decide (x6_3 < (t729.length : Int)) = false := decide_eq_false c46
                      clear c46
                      obtain rfl := Option.some.inj H
                      obtain ⟨Ao77, co77, eo77⟩ := Kd.R_slice HO_4.out
                      subst eo77
                      have hcz78_0 : wr.cell? ⟨gb728, 0, none⟩ = some (.slice Ao8 t719.length co8) := (blk_cell BK728.out 0).trans rfl
                      have hcz78_1 : wr.cell? ⟨gb728, 1, none⟩ = some (.slice Ao10 t722.length co10) := (blk_cell BK728.out 1).trans rfl
                      have hcz78_2 : wr.cell? ⟨gb728, 2, none⟩ = some (.slice Ao11 t725.length co11) := (blk_cell BK728.out 2).trans rfl
                      have hfz78_0 := blk_frozen BK728.out 0
                      have hfz78_1 := blk_frozen BK728.out 1
                      have hfz78_2 := blk_frozen BK728.out 2
                      go_wp2
                      go_ret
                      exact ⟨by first | rfl | (simp [errW_none, errW_some] <;> rfl) | (simp [*, errW_none, errW_some] <;> rfl), by repeat (first | (with_reducible first | exact HB.out | apply below_alloc | apply pw_below_drewN | apply below_drew1 | refine below_set ?_ GE728.out) | exact HB.out)⟩

/-- THE ONE PURE STATEMENT of laws_FnReachable: yours. -/
def laws_FnReachable.Pure : Prop := ∀ (l0 : List Int), l0.length ≤ maxLen → l0.length * 1 ≤ 140737488351232 → (∀ x ∈ l0, (Lit.int .u8 x).wf = true) → ∃ k, laws_FnReachable.f k l0 = some true
theorem laws_FnReachable.walk (P : laws_FnReachable.Pure) (a0 : Option Addr) (len0 cap0 : Nat) (z0 : List Int) (w : World) (w0 : (a0 = none ∧ len0 = 0 ∧ cap0 = 0 ∧ z0 = []) ∨ ∃ x, a0 = some x ∧ len0 ≤ cap0 ∧ cap0 ≤ maxLen ∧ z0.length = cap0 ∧ (∀ i, i < z0.length → w.cell? (x.add i) = some (.int .u8 (z0.getD i 0))) ∧ ∀ n ∈ z0, (Lit.int .u8 n).wf = true) (y0 : len0 * 1 ≤ 140737488351232) :
    Calls Try.prog 7 #[.slice a0 len0 cap0] w fun e w' => e = .returned (.bool true) ∧ Below w.heap.size w w' := by
  obtain ⟨l0, rfl, hr0, hm0, hw0, hc0⟩ := ReadsInt.ofRowC w0
  obtain ⟨k, h⟩ := P l0 hm0 y0 hw0
  refine (laws_FnReachable.calls k _ _ l0 true w (Kd.C_of_reads (d := (0 : Int)) (h1 := fun _ => rfl) hr0) hc0 h).mono ?_
  rintro e w' ⟨rfl, hd⟩
  exact ⟨rfl, hd⟩

end Go.Proofs.Ytcofdgeelojebab.A
