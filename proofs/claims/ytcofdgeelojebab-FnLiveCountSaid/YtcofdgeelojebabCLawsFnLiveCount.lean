/- Contracts of functions of the given program (CLawsFnLiveCount). No conditions beyond those stated. -/
import Derived.Test.YtcofdgeelojebabA0
import Derived.Test.YtcofdgeelojebabAImplCountLive
import Derived.Test.YtcofdgeelojebabAImplHeapValid
import Derived.Test.YtcofdgeelojebabASpecCountLive
import Derived.Test.YtcofdgeelojebabASpecDrawCountLive
import Derived.Test.YtcofdgeelojebabA0
namespace Go.Proofs.Ytcofdgeelojebab.A
open Go.RowKit Go.Proofs.YtcofdgeelojebabW.PrintWords Go.Proofs.YtcofdgeelojebabW.PrintLast Go.Proofs.YtcofdgeelojebabW.PrintMore
attribute [local go_sem] max2_int min2_int max_two min_two max_three min_three max_four min_four   -- for this text's walks alone
set_option linter.unusedVariables false
set_option linter.unusedSimpArgs false

/-! ### laws_FnLiveCount -/
mutual
def laws_FnLiveCount.j0 : Nat → Int → Bool → List Int → List Int → List Int → Option (Bool)
  | 0, _, _, _, _, _ => none
  | k + 1, x4, x22, x1098000, x1098001, x1098002 => if x22 = true then ((spec_CountLive.f k x1098000 x1098001 x1098002).bind fun t1101 => (some (x4 == t1101))) else (laws_FnLiveCount.l0 k x4 false 0 x1098000 x1098001 x1098002)
def laws_FnLiveCount.l0 : Nat → Int → Bool → Int → List Int → List Int → List Int → Option (Bool)
  | 0, _, _, _, _, _, _ => none
  | k + 1, x4, x5, x6, x1098000, x1098001, x1098002 => if x6 < (x1098002.length : Int) then (if x5 = true then (laws_FnLiveCount.l0 k x4 true (wrap64 (x6 + 1)) x1098000 x1098001 x1098002) else (if 0 ≤ x6 then (laws_FnLiveCount.l0 k x4 ((rd x1098002 x6) != (-1)) (wrap64 (x6 + 1)) x1098000 x1098001 x1098002) else (none))) else (if x4 ≤ (x1098000.length : Int) then (some ((decide (x4 > 0)) == x5)) else (none))
end
def laws_FnLiveCount.f (k : Nat) (l0 : List Int) : Option (Bool) := if (l0.length : Int) > 1048576 then (some true) else ((spec_DrawCountLive.f k l0).bind fun bt1088 => ((impl_CountLive.f k bt1088.1 bt1088.2.1 bt1088.2.2).bind fun t1098 => ((spec_CountLive.f k bt1088.1 bt1088.2.1 bt1088.2.2).bind fun t1099 => (if t1098 = t1099 then ((impl_HeapValid.f k bt1088.1 bt1088.2.1 bt1088.2.2).bind fun t1100 => (laws_FnLiveCount.j0 k t1098 (!t1100) bt1088.1 bt1088.2.1 bt1088.2.2)) else (laws_FnLiveCount.j0 k t1098 true bt1088.1 bt1088.2.1 bt1088.2.2)))))
theorem laws_FnLiveCount.mono_l : ∀ k, (∀ y0 y1 y2 y3 y4, LeO (laws_FnLiveCount.j0 k y0 y1 y2 y3 y4) (laws_FnLiveCount.j0 (k + 1) y0 y1 y2 y3 y4)) ∧ (∀ y0 y1 y2 y3 y4 y5, LeO (laws_FnLiveCount.l0 k y0 y1 y2 y3 y4 y5) (laws_FnLiveCount.l0 (k + 1) y0 y1 y2 y3 y4 y5))
  | 0 => ⟨fun _ _ _ _ _ r h => by simp [laws_FnLiveCount.j0] at h, fun _ _ _ _ _ _ r h => by simp [laws_FnLiveCount.l0] at h⟩
  | k + 1 => by
    obtain ⟨ih0, ih1⟩ := laws_FnLiveCount.mono_l k
    refine ⟨?_, ?_⟩
    · intro y0 y1 y2 y3 y4
      unfold laws_FnLiveCount.j0
      repeat' first
      | (with_reducible exact ih0 _ _ _ _ _)
      | (with_reducible exact ih1 _ _ _ _ _ _)
      | (with_reducible exact impl_CountLive.mono _ _ _ _)
      | (with_reducible exact impl_HeapValid.mono _ _ _ _)
      | (with_reducible exact spec_CountLive.mono _ _ _ _)
      | (with_reducible exact spec_DrawCountLive.mono _ _)
      | (with_reducible exact LeO.refl _)
      | (with_reducible exact LeO.none _)
      | (with_reducible refine LeO.ite ?_ ?_)
      | (with_reducible refine LeO.bind ?_ (fun _ => ?_))
      | exact ih0 _ _ _ _ _
      | exact ih1 _ _ _ _ _ _
      | exact impl_CountLive.mono _ _ _ _
      | exact impl_HeapValid.mono _ _ _ _
      | exact spec_CountLive.mono _ _ _ _
      | exact spec_DrawCountLive.mono _ _
      | exact LeO.none _
      | refine LeO.ite ?_ ?_
      | refine LeO.bind ?_ (fun _ => ?_)
    · intro y0 y1 y2 y3 y4 y5
      unfold laws_FnLiveCount.l0
      repeat' first
      | (with_reducible exact ih0 _ _ _ _ _)
      | (with_reducible exact ih1 _ _ _ _ _ _)
      | (with_reducible exact impl_CountLive.mono _ _ _ _)
      | (with_reducible exact impl_HeapValid.mono _ _ _ _)
      | (with_reducible exact spec_CountLive.mono _ _ _ _)
      | (with_reducible exact spec_DrawCountLive.mono _ _)
      | (with_reducible exact LeO.refl _)
      | (with_reducible exact LeO.none _)
      | (with_reducible refine LeO.ite ?_ ?_)
      | (with_reducible refine LeO.bind ?_ (fun _ => ?_))
      | exact ih0 _ _ _ _ _
      | exact ih1 _ _ _ _ _ _
      | exact impl_CountLive.mono _ _ _ _
      | exact impl_HeapValid.mono _ _ _ _
      | exact spec_CountLive.mono _ _ _ _
      | exact spec_DrawCountLive.mono _ _
      | exact LeO.none _
      | refine LeO.ite ?_ ?_
      | refine LeO.bind ?_ (fun _ => ?_)
theorem laws_FnLiveCount.mono : ∀ a0 k, LeO (laws_FnLiveCount.f k a0) (laws_FnLiveCount.f (k + 1) a0) := by
  intro a0 k
  obtain ⟨ih0, ih1⟩ := laws_FnLiveCount.mono_l k
  unfold laws_FnLiveCount.f
  repeat' first
      | (with_reducible exact ih0 _ _ _ _ _)
      | (with_reducible exact ih1 _ _ _ _ _ _)
      | (with_reducible exact impl_CountLive.mono _ _ _ _)
      | (with_reducible exact impl_HeapValid.mono _ _ _ _)
      | (with_reducible exact spec_CountLive.mono _ _ _ _)
      | (with_reducible exact spec_DrawCountLive.mono _ _)
      | (with_reducible exact LeO.refl _)
      | (with_reducible exact LeO.none _)
      | (with_reducible refine LeO.ite ?_ ?_)
      | (with_reducible refine LeO.bind ?_ (fun _ => ?_))
      | exact ih0 _ _ _ _ _
      | exact ih1 _ _ _ _ _ _
      | exact impl_CountLive.mono _ _ _ _
      | exact impl_HeapValid.mono _ _ _ _
      | exact spec_CountLive.mono _ _ _ _
      | exact spec_DrawCountLive.mono _ _
      | exact LeO.none _
      | refine LeO.ite ?_ ?_
      | refine LeO.bind ?_ (fun _ => ?_)
set_option maxHeartbeats 8000000 in
set_option maxRecDepth 100000 in
theorem laws_FnLiveCount.calls (k : Nat) (A0 : Option Addr) (c0 : Nat) (l0 : List Int) (r : Bool) (w : World) (hr0 : Kd.C (Kd.int .u8) w A0 l0.length l0) (hc0 : l0.length ≤ c0) (h : laws_FnLiveCount.f k l0 = some r) :
    Calls Try.prog 12 #[.slice A0 l0.length c0] w fun e w' => e = .returned (.bool r) ∧ Below w.heap.size w w' := by
  have hu25 := Try.underlying25
  have HR0 := am hr0
  have HC0 := am hc0
  clear hr0 hc0
  have HB := am (Below.refl w.heap.size w)
  have H : (if (l0.length : Int) > 1048576 then (some true) else ((spec_DrawCountLive.f k l0).bind fun bt1088 => ((impl_CountLive.f k bt1088.1 bt1088.2.1 bt1088.2.2).bind fun t1098 => ((spec_CountLive.f k bt1088.1 bt1088.2.1 bt1088.2.2).bind fun t1099 => (if t1098 = t1099 then ((impl_HeapValid.f k bt1088.1 bt1088.2.1 bt1088.2.2).bind fun t1100 => (laws_FnLiveCount.j0 k t1098 (!t1100) bt1088.1 bt1088.2.1 bt1088.2.2)) else (laws_FnLiveCount.j0 k t1098 true bt1088.1 bt1088.2.1 bt1088.2.2)))))) = some r := h
  clear h
  by_cases c2 : (l0.length : Int) > 1048576
  · rw [if_pos c2] at H
    have c2b0 : decide (1048576 < (l0.length : Int)) = true := decide_eq_true c2
    have c2b1 : decide (1048576 < l0.length) = true := decide_eq_true (by omega)
    clear c2
    obtain rfl := Option.some.inj H
    go_enter Try.func12, Try.ntmps12
    go_wp2
    go_ret
    exact ⟨by first | rfl | (simp [errW_none, errW_some] <;> rfl) | (simp [*, errW_none, errW_some] <;> rfl), by repeat (first | (with_reducible first | exact HB.out | apply below_alloc | apply pw_below_drewN | apply below_drew1) | exact HB.out)⟩
  · rw [if_neg c2] at H
    have c2b0 : decide (1048576 < (l0.length : Int)) = false := decide_eq_false c2
    have c2b1 : decide (1048576 < l0.length) = false := decide_eq_false (by omega)
    clear c2
    replace H := Option.bind_eq_some_iff.mp H
    obtain ⟨⟨t1088, t1091, t1094⟩, A30, H⟩ := H
    replace H : ((impl_CountLive.f k t1088 t1091 t1094).bind fun t1098 => ((spec_CountLive.f k t1088 t1091 t1094).bind fun t1099 => (if t1098 = t1099 then ((impl_HeapValid.f k t1088 t1091 t1094).bind fun t1100 => (laws_FnLiveCount.j0 k t1098 (!t1100) t1088 t1091 t1094)) else (laws_FnLiveCount.j0 k t1098 true t1088 t1091 t1094)))) = some r := H
    have A3 := am A30
    clear A30
    replace H := Option.bind_eq_some_iff.mp H
    obtain ⟨t1098, A40, H⟩ := H
    replace H : ((spec_CountLive.f k t1088 t1091 t1094).bind fun t1099 => (if t1098 = t1099 then ((impl_HeapValid.f k t1088 t1091 t1094).bind fun t1100 => (laws_FnLiveCount.j0 k t1098 (!t1100) t1088 t1091 t1094)) else (laws_FnLiveCount.j0 k t1098 true t1088 t1091 t1094))) = some r := H
    have A4 := am A40
    clear A40
    have HC5 := am H
    clear H
    go_enter Try.func12, Try.ntmps12
    go_upto_region 5 with (first | ((with_reducible refine gate_callee (f := 46) rfl ?_); refine goesL_ (some 11) rfl rfl Try.func46 (by kernel_rfl) rfl #[.slice A0 l0.length c0] rfl (by (try simp only [List.map_toArray, List.map_cons, List.map_nil]); first | done | rfl | (simp only [List.length_drop, List.length_take]; rfl)) ?_; (with_reducible refine (spec_DrawCountLive.calls k _ _ l0 t1088 t1091 t1094 _ ?side1 ?side2 A3.out).mono ?_); (case side1 => repeat (first | exact HR0.out | (with_reducible refine Kd.C_alloc ?_ _) | (with_reducible refine Kd.C_drewN ?_ _) | (with_reducible refine Kd.C_drew ?_))); (case side2 => exact HC0.out); rintro e w6 ⟨v1089, v1092, v1095, rfl, ho0, ho1, ho2, hb⟩; refine ⟨_, rfl, ?_⟩; have n0_ := am (Kd.R_lower ho0 (below_size (bl HB.out))); have n1_ := am (Kd.R_lower ho1 (below_size (bl HB.out))); have n2_ := am (Kd.R_lower ho2 (below_size (bl HB.out))); have n3_ := am (below_step (bl HB.out) hb); clear HB; have HO1090 := n0_; have HO1093 := n1_; have HO1096 := n2_; have HB := n3_; clear n0_ n1_ n2_ n3_; (try clear hb); (try clear hb2); (try clear hk); (try clear hi); (try clear ho0); (try clear ho1); (try clear ho2)) | ((with_reducible refine gate_dst (N := 3) rfl ?_); refine box_event ?hg (N := 3) ?hd (cs := #[.slice none 0 0, .slice none 0 0, .slice none 0 0]) (t := 25) ?hr ?_; (case hd => rfl); (case hg => rfl); (case hr => first | (go_simp; done) | (go_simp; rfl)); intro gb1097 hg w7 hbox hb; have n0_ := am (Kd.R_below (rl HO1090.out) hb); have n1_ := am (Kd.R_below (rl HO1093.out) hb); have n2_ := am (Kd.R_below (rl HO1096.out) hb); have n3_ := am (below_step (bl HB.out) hb); have n4_ := am (hbox); have n5_ := am ((by rw [hg]; exact (below_size (bl HB.out)) : w.heap.size ≤ gb1097)); have n6_ := am ((by rw [hg]; exact (below_size (bl HB.out)) : w.heap.size ≤ gb1097)); clear HO1090; clear HO1093; clear HO1096; clear HB; have HO1090 := n0_; have HO1093 := n1_; have HO1096 := n2_; have HB := n3_; have BK1097 := n4_; have GW1097 := n5_; have GE1097 := n6_; clear n0_ n1_ n2_ n3_ n4_ n5_ n6_; clear hb hbox hg; obtain ⟨Ao8, co8, eo8⟩ := Kd.R_slice HO1090.out; subst eo8; have hcz9_0 : w7.cell? ⟨gb1097, 0, none⟩ = some (.slice none 0 0) := (blk_cell BK1097.out 0).trans rfl; have hcz9_1 : w7.cell? ⟨gb1097, 1, none⟩ = some (.slice none 0 0) := (blk_cell BK1097.out 1).trans rfl; have hcz9_2 : w7.cell? ⟨gb1097, 2, none⟩ = some (.slice none 0 0) := (blk_cell BK1097.out 2).trans rfl; have hfz9_0 := blk_frozen BK1097.out 0; have hfz9_1 := blk_frozen BK1097.out 1; have hfz9_2 := blk_frozen BK1097.out 2; obtain ⟨Ao10, co10, eo10⟩ := Kd.R_slice HO1093.out; subst eo10; obtain ⟨Ao11, co11, eo11⟩ := Kd.R_slice HO1096.out; subst eo11) | ((with_reducible refine gate_callee (f := 28) rfl ?_); refine goesL_ (some 13) rfl rfl Try.func28 (by kernel_rfl) rfl #[.agg #[.slice Ao8 t1088.length co8, .slice Ao10 t1091.length co10, .slice Ao11 t1094.length co11]] rfl (by (try simp only [List.map_toArray, List.map_cons, List.map_nil]); first | done | rfl | (simp only [List.length_drop, List.length_take]; rfl)) ?_; (with_reducible refine (impl_CountLive.calls k _ _ t1088 _ _ t1091 _ _ t1094 t1098 _ ?side1 ?side2 ?side3 ?side4 ?side5 ?side6 A4.out).mono ?_); (case side1 => exact (Kd.R_reads' (rl ((far3 HO1090.out BK1097.out (by decide) (.slice Ao8 t1088.length co8) (.slice Ao10 t1091.length co10) (.slice Ao11 t1094.length co11))))).2.2); (case side2 => exact (Kd.R_reads' HO1090.out).2.1); (case side3 => exact (Kd.R_reads' (rl ((far3 HO1093.out BK1097.out (by decide) (.slice Ao8 t1088.length co8) (.slice Ao10 t1091.length co10) (.slice Ao11 t1094.length co11))))).2.2); (case side4 => exact (Kd.R_reads' HO1093.out).2.1); (case side5 => exact (Kd.R_reads' (rl ((far3 HO1096.out BK1097.out (by decide) (.slice Ao8 t1088.length co8) (.slice Ao10 t1091.length co10) (.slice Ao11 t1094.length co11))))).2.2); (case side6 => exact (Kd.R_reads' HO1096.out).2.1); rintro e w12 ⟨rfl, hb⟩; refine ⟨_, rfl, ?_⟩; have n0_ := am (Kd.R_below (rl ((far3 HO1090.out BK1097.out (by decide) (.slice Ao8 t1088.length co8) (.slice Ao10 t1091.length co10) (.slice Ao11 t1094.length co11)))) hb); have n1_ := am (Kd.R_below (rl ((far3 HO1093.out BK1097.out (by decide) (.slice Ao8 t1088.length co8) (.slice Ao10 t1091.length co10) (.slice Ao11 t1094.length co11)))) hb); have n2_ := am (Kd.R_below (rl ((far3 HO1096.out BK1097.out (by decide) (.slice Ao8 t1088.length co8) (.slice Ao10 t1091.length co10) (.slice Ao11 t1094.length co11)))) hb); have n3_ := am (blk_below (g := gb1097) (o := .cells #[.slice Ao8 t1088.length co8, .slice Ao10 t1091.length co10, .slice Ao11 t1094.length co11] 25 (0, 0)) (by (with_reducible repeat (first | refine blk_drewN ?_ _ | refine blk_drew ?_ | refine blk_alloc ?_ _)); refine blk_put (cs := #[.slice Ao8 t1088.length co8, .slice Ao10 t1091.length co10, .slice none 0 0]) ?_ 2 _ rfl; (with_reducible repeat (first | refine blk_drewN ?_ _ | refine blk_drew ?_ | refine blk_alloc ?_ _)); refine blk_put (cs := #[.slice Ao8 t1088.length co8, .slice none 0 0, .slice none 0 0]) ?_ 1 _ rfl; (with_reducible repeat (first | refine blk_drewN ?_ _ | refine blk_drew ?_ | refine blk_alloc ?_ _)); refine blk_put (cs := #[.slice none 0 0, .slice none 0 0, .slice none 0 0]) ?_ 0 _ rfl; (with_reducible repeat (first | refine blk_drewN ?_ _ | refine blk_drew ?_ | refine blk_alloc ?_ _)); exact BK1097.out) hb); have n4_ := am (below_step (by repeat (first | (with_reducible first | exact HB.out | apply below_alloc | apply pw_below_drewN | apply below_drew1 | refine below_set ?_ GE1097.out) | exact HB.out)) hb); clear HO1090; clear HO1093; clear HO1096; clear BK1097; clear HB; have HO1090 := n0_; have HO1093 := n1_; have HO1096 := n2_; have BK1097 := n3_; have HB := n4_; clear n0_ n1_ n2_ n3_ n4_; (try clear hb); (try clear hb2); (try clear hk); (try clear hi)))
    (try simp only [Act.put, List.setIfInBounds_toArray, List.set_cons_zero, List.set_cons_succ])
    go_cut [22] (fun v22 wc => ∃ (kq : Nat) (x22_4 : Bool), v22 = .bool x22_4 ∧ Aside0 (laws_FnLiveCount.j0 kq t1098 x22_4 t1088 t1091 t1094 = some r) ∧ Aside0 (kq ≤ k) ∧ Aside0 (Kd.R (Kd.int .i64) 3 wc w.heap.size (fun k_ => some k_ ≠ ((.slice Ao10 t1091.length co10) : Value).ownBlock ∧ some k_ ≠ ((.slice Ao11 t1094.length co11) : Value).ownBlock) (.slice Ao8 t1088.length co8) t1088) ∧ Aside0 (Kd.R (Kd.int .i64) 3 wc w.heap.size (fun k_ => some k_ ≠ ((.slice Ao8 t1088.length co8) : Value).ownBlock ∧ some k_ ≠ ((.slice Ao11 t1094.length co11) : Value).ownBlock) (.slice Ao10 t1091.length co10) t1091) ∧ Aside0 (Kd.R (Kd.int .i64) 3 wc w.heap.size (fun k_ => some k_ ≠ ((.slice Ao8 t1088.length co8) : Value).ownBlock ∧ some k_ ≠ ((.slice Ao10 t1091.length co10) : Value).ownBlock) (.slice Ao11 t1094.length co11) t1094) ∧ Aside0 (wc.heap[gb1097]? = some (.cells #[(.slice Ao8 t1088.length co8), (.slice Ao10 t1091.length co10), (.slice Ao11 t1094.length co11)] 25 (0, 0))) ∧ Aside0 (Below w.heap.size w wc))
    case first =>
      have H := HC5.out
      clear HC5
      replace H := Option.bind_eq_some_iff.mp H
      obtain ⟨t1099, A130, H⟩ := H
      replace H : (if t1098 = t1099 then ((impl_HeapValid.f k t1088 t1091 t1094).bind fun t1100 => (laws_FnLiveCount.j0 k t1098 (!t1100) t1088 t1091 t1094)) else (laws_FnLiveCount.j0 k t1098 true t1088 t1091 t1094)) = some r := H
      have A13 := am A130
      clear A130
      by_cases c14 : t1098 = t1099
      · rw [if_pos c14] at H
        have c14b0 : (t1098 == t1099) = true := beq_iff_eq.mpr c14
        have c14b1 : (t1098 != t1099) = false := bne_eq_false_iff_eq.mpr c14
        clear c14
        (first | rw [c14b0] | (simp only [i64_w, i32_w]; rw [c14b0]) | skip)
        replace H := Option.bind_eq_some_iff.mp H
        obtain ⟨t1100, A150, H⟩ := H
        replace H : (laws_FnLiveCount.j0 k t1098 (!t1100) t1088 t1091 t1094) = some r := H
        have A15 := am A150
        clear A150
        have H' := am H
        clear H
        have hcz16_0 : w12.cell? ⟨gb1097, 0, none⟩ = some (.slice Ao8 t1088.length co8) := (blk_cell BK1097.out 0).trans rfl
        have hcz16_1 : w12.cell? ⟨gb1097, 1, none⟩ = some (.slice Ao10 t1091.length co10) := (blk_cell BK1097.out 1).trans rfl
        have hcz16_2 : w12.cell? ⟨gb1097, 2, none⟩ = some (.slice Ao11 t1094.length co11) := (blk_cell BK1097.out 2).trans rfl
        have hfz16_0 := blk_frozen BK1097.out 0
        have hfz16_1 := blk_frozen BK1097.out 1
        have hfz16_2 := blk_frozen BK1097.out 2
        go_wp2_with (first | ((with_reducible refine gate_callee (f := 26) rfl ?_); refine goesL_ (some 16) rfl rfl Try.func26 (by kernel_rfl) rfl #[.agg #[.slice Ao8 t1088.length co8, .slice Ao10 t1091.length co10, .slice Ao11 t1094.length co11]] rfl (by (try simp only [List.map_toArray, List.map_cons, List.map_nil]); first | done | rfl | (simp only [List.length_drop, List.length_take]; rfl)) ?_; (with_reducible refine (spec_CountLive.calls k _ _ t1088 _ _ t1091 _ _ t1094 t1099 _ ?side1 ?side2 ?side3 ?side4 ?side5 ?side6 A13.out).mono ?_); (case side1 => repeat (first | exact (Kd.R_reads' HO1090.out).2.2 | (with_reducible refine Kd.C_alloc ?_ _) | (with_reducible refine Kd.C_drewN ?_ _) | (with_reducible refine Kd.C_drew ?_))); (case side2 => exact (Kd.R_reads' HO1090.out).2.1); (case side3 => repeat (first | exact (Kd.R_reads' HO1093.out).2.2 | (with_reducible refine Kd.C_alloc ?_ _) | (with_reducible refine Kd.C_drewN ?_ _) | (with_reducible refine Kd.C_drew ?_))); (case side4 => exact (Kd.R_reads' HO1093.out).2.1); (case side5 => repeat (first | exact (Kd.R_reads' HO1096.out).2.2 | (with_reducible refine Kd.C_alloc ?_ _) | (with_reducible refine Kd.C_drewN ?_ _) | (with_reducible refine Kd.C_drew ?_))); (case side6 => exact (Kd.R_reads' HO1096.out).2.1); rintro e w17 ⟨rfl, hb⟩; refine ⟨_, rfl, ?_⟩; have n0_ := am (Kd.R_below (rl HO1090.out) hb); have n1_ := am (Kd.R_below (rl HO1093.out) hb); have n2_ := am (Kd.R_below (rl HO1096.out) hb); have n3_ := am (blk_below (g := gb1097) (o := .cells #[.slice Ao8 t1088.length co8, .slice Ao10 t1091.length co10, .slice Ao11 t1094.length co11] 25 (0, 0)) (kl BK1097.out) hb); have n4_ := am (below_step (by repeat (first | (with_reducible first | exact HB.out | apply below_alloc | apply pw_below_drewN | apply below_drew1 | refine below_set ?_ GE1097.out) | exact HB.out)) hb); clear HO1090; clear HO1093; clear HO1096; clear BK1097; clear HB; have HO1090 := n0_; have HO1093 := n1_; have HO1096 := n2_; have BK1097 := n3_; have HB := n4_; clear n0_ n1_ n2_ n3_ n4_; (try clear hb); (try clear hb2); (try clear hk); (try clear hi); have hcz18_0 : w17.cell? ⟨gb1097, 0, none⟩ = some (.slice Ao8 t1088.length co8) := (blk_cell BK1097.out 0).trans rfl; have hcz18_1 : w17.cell? ⟨gb1097, 1, none⟩ = some (.slice Ao10 t1091.length co10) := (blk_cell BK1097.out 1).trans rfl; have hcz18_2 : w17.cell? ⟨gb1097, 2, none⟩ = some (.slice Ao11 t1094.length co11) := (blk_cell BK1097.out 2).trans rfl; have hfz18_0 := blk_frozen BK1097.out 0; have hfz18_1 := blk_frozen BK1097.out 1; have hfz18_2 := blk_frozen BK1097.out 2) | (go_at_call 33; (with_reducible refine (impl_HeapValid.calls k (fun k_ => some k_ = (.slice Ao8 t1088.length co8 : Value).ownBlock) _ _ t1088 (fun k_ => some k_ = (.slice Ao10 t1091.length co10 : Value).ownBlock) _ _ t1091 (fun k_ => some k_ = (.slice Ao11 t1094.length co11 : Value).ownBlock) _ _ t1094 t1100 _ ?side1 ?side2 ?side3 A15.out).mono ?_); (case side1 => exact Kd.R_V (Kd.R_tight rfl (Kd.R_types (HO1090.out) BK1097.out (by decide)))); (case side2 => exact Kd.R_V (Kd.R_tight rfl (Kd.R_types (HO1093.out) BK1097.out (by decide)))); (case side3 => exact Kd.R_V (Kd.R_tight rfl (Kd.R_types (HO1096.out) BK1097.out (by decide)))); rintro e w19 ⟨rfl, hb⟩; have n0_ := am (Kd.R_below (rl HO1090.out) hb); have n1_ := am (Kd.R_below (rl HO1093.out) hb); have n2_ := am (Kd.R_below (rl HO1096.out) hb); have n3_ := am (blk_below (g := gb1097) (o := .cells #[.slice Ao8 t1088.length co8, .slice Ao10 t1091.length co10, .slice Ao11 t1094.length co11] 25 (0, 0)) (kl BK1097.out) hb); have n4_ := am (below_step (by repeat (first | (with_reducible first | exact HB.out | apply below_alloc | apply pw_below_drewN | apply below_drew1 | refine below_set ?_ GE1097.out) | exact HB.out)) hb); clear HO1090; clear HO1093; clear HO1096; clear BK1097; clear HB; have HO1090 := n0_; have HO1093 := n1_; have HO1096 := n2_; have BK1097 := n3_; have HB := n4_; clear n0_ n1_ n2_ n3_ n4_; (try clear hb); (try clear hb2); (try clear hk); (try clear hi)))
        go_meet
        case rel => exact ⟨_, (!t1100), (by first | rfl | (simp; done) | (simp [*]; done)), H', ⟨by first | omega | exact Nat.le_refl _⟩, ⟨rl HO1090.out⟩, ⟨rl HO1093.out⟩, ⟨rl HO1096.out⟩, ⟨kl BK1097.out⟩, ⟨by repeat (first | (with_reducible first | exact HB.out | apply below_alloc | apply pw_below_drewN | apply below_drew1 | refine below_set ?_ GE1097.out) | exact HB.out)⟩⟩
      · rw [if_neg c14] at H
        have c14b0 : (t1098 == t1099) = false := beq_eq_false_iff_ne.mpr c14
        have c14b1 : (t1098 != t1099) = true := bne_iff_ne.mpr c14
        (first | rw [c14b0] | (simp only [i64_w, i32_w]; rw [c14b0]) | skip)
        have H' := am H
        clear H
        have hcz20_0 : w12.cell? ⟨gb1097, 0, none⟩ = some (.slice Ao8 t1088.length co8) := (blk_cell BK1097.out 0).trans rfl
        have hcz20_1 : w12.cell? ⟨gb1097, 1, none⟩ = some (.slice Ao10 t1091.length co10) := (blk_cell BK1097.out 1).trans rfl
        have hcz20_2 : w12.cell? ⟨gb1097, 2, none⟩ = some (.slice Ao11 t1094.length co11) := (blk_cell BK1097.out 2).trans rfl
        have hfz20_0 := blk_frozen BK1097.out 0
        have hfz20_1 := blk_frozen BK1097.out 1
        have hfz20_2 := blk_frozen BK1097.out 2
        go_wp2_with (first | ((with_reducible refine gate_callee (f := 26) rfl ?_); refine goesL_ (some 16) rfl rfl Try.func26 (by kernel_rfl) rfl #[.agg #[.slice Ao8 t1088.length co8, .slice Ao10 t1091.length co10, .slice Ao11 t1094.length co11]] rfl (by (try simp only [List.map_toArray, List.map_cons, List.map_nil]); first | done | rfl | (simp only [List.length_drop, List.length_take]; rfl)) ?_; (with_reducible refine (spec_CountLive.calls k _ _ t1088 _ _ t1091 _ _ t1094 t1099 _ ?side1 ?side2 ?side3 ?side4 ?side5 ?side6 A13.out).mono ?_); (case side1 => repeat (first | exact (Kd.R_reads' HO1090.out).2.2 | (with_reducible refine Kd.C_alloc ?_ _) | (with_reducible refine Kd.C_drewN ?_ _) | (with_reducible refine Kd.C_drew ?_))); (case side2 => exact (Kd.R_reads' HO1090.out).2.1); (case side3 => repeat (first | exact (Kd.R_reads' HO1093.out).2.2 | (with_reducible refine Kd.C_alloc ?_ _) | (with_reducible refine Kd.C_drewN ?_ _) | (with_reducible refine Kd.C_drew ?_))); (case side4 => exact (Kd.R_reads' HO1093.out).2.1); (case side5 => repeat (first | exact (Kd.R_reads' HO1096.out).2.2 | (with_reducible refine Kd.C_alloc ?_ _) | (with_reducible refine Kd.C_drewN ?_ _) | (with_reducible refine Kd.C_drew ?_))); (case side6 => exact (Kd.R_reads' HO1096.out).2.1); rintro e w21 ⟨rfl, hb⟩; refine ⟨_, rfl, ?_⟩; have n0_ := am (Kd.R_below (rl HO1090.out) hb); have n1_ := am (Kd.R_below (rl HO1093.out) hb); have n2_ := am (Kd.R_below (rl HO1096.out) hb); have n3_ := am (blk_below (g := gb1097) (o := .cells #[.slice Ao8 t1088.length co8, .slice Ao10 t1091.length co10, .slice Ao11 t1094.length co11] 25 (0, 0)) (kl BK1097.out) hb); have n4_ := am (below_step (by repeat (first | (with_reducible first | exact HB.out | apply below_alloc | apply pw_below_drewN | apply below_drew1 | refine below_set ?_ GE1097.out) | exact HB.out)) hb); clear HO1090; clear HO1093; clear HO1096; clear BK1097; clear HB; have HO1090 := n0_; have HO1093 := n1_; have HO1096 := n2_; have BK1097 := n3_; have HB := n4_; clear n0_ n1_ n2_ n3_ n4_; (try clear hb); (try clear hb2); (try clear hk); (try clear hi)))
        go_meet
        case rel => exact ⟨_, (true), (by first | rfl | (simp; done) | (simp [*]; done)), H', ⟨by first | omega | exact Nat.le_refl _⟩, ⟨rl HO1090.out⟩, ⟨rl HO1093.out⟩, ⟨rl HO1096.out⟩, ⟨kl BK1097.out⟩, ⟨by repeat (first | (with_reducible first | exact HB.out | apply below_alloc | apply pw_below_drewN | apply below_drew1 | refine below_set ?_ GE1097.out) | exact HB.out)⟩⟩
    case rest =>
      clear HC5
      try clear c1
      try clear c2
      try clear c2b0
      try clear c2b1
      try clear p2
      try clear c4
      try clear c12
      try clear c14
      try clear c14b0
      try clear c14b1
      try clear hcz16_0
      try clear hcz16_1
      try clear hcz16_2
      try clear hcz18_0
      try clear hcz18_1
      try clear hcz18_2
      try clear hcz20_0
      try clear hcz20_1
      try clear hcz20_2
      try clear hcz9_0
      try clear hcz9_1
      try clear hcz9_2
      try clear hfz16_0
      try clear hfz16_1
      try clear hfz16_2
      try clear hfz18_0
      try clear hfz18_1
      try clear hfz18_2
      try clear hfz20_0
      try clear hfz20_1
      try clear hfz20_2
      try clear hfz9_0
      try clear hfz9_1
      try clear hfz9_2
      obtain ⟨kq, x22_4, rfl, HA, HJ4, HO_1098000, HO_1098001, HO_1098002, BK1097, HB⟩ := hcut
      cases kq with
      | zero => exact absurd HA.out (by simp [laws_FnLiveCount.j0])
      | succ kj4 =>
        have H := HA.out
        clear HA
        simp only [laws_FnLiveCount.j0] at H
        by_cases c22 : x22_4 = true
        · subst c22
          have H1 : ((spec_CountLive.f kj4 t1088 t1091 t1094).bind fun t1101 => (some (t1098 == t1101))) = some r := by rw [if_pos rfl] at H; exact H
          clear H
          have H := H1
          clear H1
          replace H := Option.bind_eq_some_iff.mp H
          obtain ⟨t1101, A230, H⟩ := H
          replace H : (some (t1098 == t1101)) = some r := H
          have A23 := am A230
          clear A230
          obtain rfl := Option.some.inj H
          have hcz24_0 : wc.cell? ⟨gb1097, 0, none⟩ = some (.slice Ao8 t1088.length co8) := (blk_cell BK1097.out 0).trans rfl
          have hcz24_1 : wc.cell? ⟨gb1097, 1, none⟩ = some (.slice Ao10 t1091.length co10) := (blk_cell BK1097.out 1).trans rfl
          have hcz24_2 : wc.cell? ⟨gb1097, 2, none⟩ = some (.slice Ao11 t1094.length co11) := (blk_cell BK1097.out 2).trans rfl
          have hfz24_0 := blk_frozen BK1097.out 0
          have hfz24_1 := blk_frozen BK1097.out 1
          have hfz24_2 := blk_frozen BK1097.out 2
          go_wp2_with (first | ((with_reducible refine gate_callee (f := 26) rfl ?_); refine goesL_ (some 25) rfl rfl Try.func26 (by kernel_rfl) rfl #[.agg #[.slice Ao8 t1088.length co8, .slice Ao10 t1091.length co10, .slice Ao11 t1094.length co11]] rfl (by (try simp only [List.map_toArray, List.map_cons, List.map_nil]); first | done | rfl | (simp only [List.length_drop, List.length_take]; rfl)) ?_; (with_reducible refine (spec_CountLive.calls kj4 _ _ t1088 _ _ t1091 _ _ t1094 t1101 _ ?side1 ?side2 ?side3 ?side4 ?side5 ?side6 A23.out).mono ?_); (case side1 => repeat (first | exact (Kd.R_reads' HO_1098000.out).2.2 | (with_reducible refine Kd.C_alloc ?_ _) | (with_reducible refine Kd.C_drewN ?_ _) | (with_reducible refine Kd.C_drew ?_))); (case side2 => exact (Kd.R_reads' HO_1098000.out).2.1); (case side3 => repeat (first | exact (Kd.R_reads' HO_1098001.out).2.2 | (with_reducible refine Kd.C_alloc ?_ _) | (with_reducible refine Kd.C_drewN ?_ _) | (with_reducible refine Kd.C_drew ?_))); (case side4 => exact (Kd.R_reads' HO_1098001.out).2.1); (case side5 => repeat (first | exact (Kd.R_reads' HO_1098002.out).2.2 | (with_reducible refine Kd.C_alloc ?_ _) | (with_reducible refine Kd.C_drewN ?_ _) | (with_reducible refine Kd.C_drew ?_))); (case side6 => exact (Kd.R_reads' HO_1098002.out).2.1); rintro e w25 ⟨rfl, hb⟩; refine ⟨_, rfl, ?_⟩; have n0_ := am (Kd.R_below (rl HO_1098000.out) hb); have n1_ := am (Kd.R_below (rl HO_1098001.out) hb); have n2_ := am (Kd.R_below (rl HO_1098002.out) hb); have n3_ := am (blk_below (g := gb1097) (o := .cells #[.slice Ao8 t1088.length co8, .slice Ao10 t1091.length co10, .slice Ao11 t1094.length co11] 25 (0, 0)) (kl BK1097.out) hb); have n4_ := am (below_step (by repeat (first | (with_reducible first | exact HB.out | apply below_alloc | apply pw_below_drewN | apply below_drew1 | refine below_set ?_ GE1097.out) | exact HB.out)) hb); clear HO_1098000; clear HO_1098001; clear HO_1098002; clear BK1097; clear HB; have HO_1098000 := n0_; have HO_1098001 := n1_; have HO_1098002 := n2_; have BK1097 := n3_; have HB := n4_; clear n0_ n1_ n2_ n3_ n4_; (try clear hb); (try clear hb2); (try clear hk); (try clear hi)))
          go_ret
          exact ⟨by first | rfl | (simp [errW_none, errW_some] <;> rfl) | (simp [*, errW_none, errW_some] <;> rfl), by repeat (first | (with_reducible first | exact HB.out | apply below_alloc | apply pw_below_drewN | apply below_drew1 | refine below_set ?_ GE1097.out) | exact HB.out)⟩
        · replace c22 := Bool.eq_false_iff.mpr c22
          subst c22
          have H1 : (laws_FnLiveCount.l0 kj4 t1098 false 0 t1088 t1091 t1094) = some r := by rw [if_neg (show ¬ (false = true) by decide)] at H; exact H
          clear H
          have H := H1
          clear H1
          have H' := am H
          clear H
          go_wp2
          go_loopg [5, 6] kj4 (fun kq v5 v6 w' => ∃ (x5_2 : Bool) (x6_2 : Int), v5 = .bool x5_2 ∧ v6 = .int .i64 x6_2 ∧ Aside0 (laws_FnLiveCount.l0 kq t1098 x5_2 x6_2 t1088 t1091 t1094 = some r) ∧ Aside0 (kq ≤ kj4) ∧ Aside0 (Kd.R (Kd.int .i64) 3 w' w.heap.size (fun k_ => some k_ ≠ ((.slice Ao10 t1091.length co10) : Value).ownBlock ∧ some k_ ≠ ((.slice Ao11 t1094.length co11) : Value).ownBlock) (.slice Ao8 t1088.length co8) t1088) ∧ Aside0 (Kd.R (Kd.int .i64) 3 w' w.heap.size (fun k_ => some k_ ≠ ((.slice Ao8 t1088.length co8) : Value).ownBlock ∧ some k_ ≠ ((.slice Ao11 t1094.length co11) : Value).ownBlock) (.slice Ao10 t1091.length co10) t1091) ∧ Aside0 (Kd.R (Kd.int .i64) 3 w' w.heap.size (fun k_ => some k_ ≠ ((.slice Ao8 t1088.length co8) : Value).ownBlock ∧ some k_ ≠ ((.slice Ao10 t1091.length co10) : Value).ownBlock) (.slice Ao11 t1094.length co11) t1094) ∧ Aside0 (w'.heap[gb1097]? = some (.cells #[(.slice Ao8 t1088.length co8), (.slice Ao10 t1091.length co10), (.slice Ao11 t1094.length co11)] 25 (0, 0))) ∧ Aside0 (Below w.heap.size w w'))
          case atStart => exact ⟨(false), (0), (by first | rfl | (simp; done) | (simp [*]; done)), (by first | rfl | (simp; done) | (simp [*]; done)), H', ⟨Nat.le_refl _⟩, ⟨rl HO_1098000.out⟩, ⟨rl HO_1098001.out⟩, ⟨rl HO_1098002.out⟩, ⟨kl BK1097.out⟩, ⟨by repeat (first | (with_reducible first | exact HB.out | apply below_alloc | apply pw_below_drewN | apply below_drew1 | refine below_set ?_ GE1097.out) | exact HB.out)⟩⟩
          case round =>
            clear H'
            try clear c1
            try clear c2
            try clear c2b0
            try clear c2b1
            try clear p2
            try clear c4
            try clear c12
            try clear c14
            try clear c14b0
            try clear c14b1
            try clear c22
            try clear hcz16_0
            try clear hcz16_1
            try clear hcz16_2
            try clear hcz18_0
            try clear hcz18_1
            try clear hcz18_2
            try clear hcz20_0
            try clear hcz20_1
            try clear hcz20_2
            try clear hcz24_0
            try clear hcz24_1
            try clear hcz24_2
            try clear hcz9_0
            try clear hcz9_1
            try clear hcz9_2
            try clear hfz16_0
            try clear hfz16_1
            try clear hfz16_2
            try clear hfz18_0
            try clear hfz18_1
            try clear hfz18_2
            try clear hfz20_0
            try clear hfz20_1
            try clear hfz20_2
            try clear hfz24_0
            try clear hfz24_1
            try clear hfz24_2
            try clear hfz9_0
            try clear hfz9_1
            try clear hfz9_2
            try clear p2
            obtain ⟨x5_2, x6_2, rfl, rfl, HA, HK2, HO_1098000, HO_1098001, HO_1098002, BK1097, HB⟩ := hrel
            cases gk with
            | zero => exact absurd HA.out (by simp [laws_FnLiveCount.l0])
            | succ k2 =>
              have H := HA.out
              clear HA
              simp only [laws_FnLiveCount.l0] at H
              by_cases c26 : x6_2 < (t1094.length : Int)
              · rw [if_pos c26] at H
                have c26b0 : decide (x6_2 < (t1094.length : Int)) = true := decide_eq_true c26
                clear c26
                by_cases c27 : x5_2 = true
                · subst c27
                  have H1 : (laws_FnLiveCount.l0 k2 t1098 true (wrap64 (x6_2 + 1)) t1088 t1091 t1094) = some r := by rw [if_pos rfl] at H; exact H
                  clear H
                  have H := H1
                  clear H1
                  have H' := am H
                  clear H
                  have hcz28_0 : wr.cell? ⟨gb1097, 0, none⟩ = some (.slice Ao8 t1088.length co8) := (blk_cell BK1097.out 0).trans rfl
                  have hcz28_1 : wr.cell? ⟨gb1097, 1, none⟩ = some (.slice Ao10 t1091.length co10) := (blk_cell BK1097.out 1).trans rfl
                  have hcz28_2 : wr.cell? ⟨gb1097, 2, none⟩ = some (.slice Ao11 t1094.length co11) := (blk_cell BK1097.out 2).trans rfl
                  have hfz28_0 := blk_frozen BK1097.out 0
                  have hfz28_1 := blk_frozen BK1097.out 1
                  have hfz28_2 := blk_frozen BK1097.out 2
                  go_wp2
                  go_roundg k2
                  case measure => have := HJ4.out; have := HK2.out; omega
                  case rel => exact ⟨(true), (wrap64 (x6_2 + 1)), (by first | rfl | (simp; done) | (simp [*]; done)), (by first | rfl | (simp; done) | (simp [*]; done)), H', ⟨by have := HJ4.out; have := HK2.out; omega⟩, ⟨rl HO_1098000.out⟩, ⟨rl HO_1098001.out⟩, ⟨rl HO_1098002.out⟩, ⟨kl BK1097.out⟩, ⟨by repeat (first | (with_reducible first | exact HB.out | apply below_alloc | apply pw_below_drewN | apply below_drew1 | refine below_set ?_ GE1097.out) | exact HB.out)⟩⟩
                · replace c27 := Bool.eq_false_iff.mpr c27
                  subst c27
                  have H1 : (if 0 ≤ x6_2 then (laws_FnLiveCount.l0 k2 t1098 ((rd t1094 x6_2) != (-1)) (wrap64 (x6_2 + 1)) t1088 t1091 t1094) else (none)) = some r := by rw [if_neg (show ¬ (false = true) by decide)] at H; exact H
                  clear H
                  have H := H1
                  clear H1
                  by_cases c29 : 0 ≤ x6_2
                  · rw [if_pos c29] at H
                    have c29b0 : decide (0 ≤ x6_2) = true := decide_eq_true c29
                    clear c29
                    have H' := am H
                    clear H
                    have hcz30_0 : wr.cell? ⟨gb1097, 0, none⟩ = some (.slice Ao8 t1088.length co8) := (blk_cell BK1097.out 0).trans rfl
                    have hcz30_1 : wr.cell? ⟨gb1097, 1, none⟩ = some (.slice Ao10 t1091.length co10) := (blk_cell BK1097.out 1).trans rfl
                    have hcz30_2 : wr.cell? ⟨gb1097, 2, none⟩ = some (.slice Ao11 t1094.length co11) := (blk_cell BK1097.out 2).trans rfl
                    have hfz30_0 := blk_frozen BK1097.out 0
                    have hfz30_1 := blk_frozen BK1097.out 1
                    have hfz30_2 := blk_frozen BK1097.out 2
                    have p1102 : 0 ≤ (x6_2 : Int) := of_decide_eq_true (by first | (with_reducible assumption) | assumption)
                    have q1102 : x6_2 < (t1094.length : Int) := of_decide_eq_true (by first | (with_reducible assumption) | assumption)
                    obtain ⟨ad1102, e1102, hx1102_0⟩ := Kd.at_int (Kd.R_reads' HO_1098002.out).2.2 x6_2 p1102 q1102
                    cases e1102
                    replace p1102 := eq_true p1102
                    replace q1102 := eq_true q1102
                    go_wp2
                    go_roundg k2
                    case measure => have := HJ4.out; have := HK2.out; omega
                    case rel => exact ⟨(((rd t1094 x6_2) != (-1))), (wrap64 (x6_2 + 1)), (by first | rfl | (simp; done) | (simp [*]; done)), (by first | rfl | (simp; done) | (simp [*]; done)), H', ⟨by have := HJ4.out; have := HK2.out; omega⟩, ⟨rl HO_1098000.out⟩, ⟨rl HO_1098001.out⟩, ⟨rl HO_1098002.out⟩, ⟨kl BK1097.out⟩, ⟨by repeat (first | (with_reducible first | exact HB.out | apply below_alloc | apply pw_below_drewN | apply below_drew1 | refine below_set ?_ GE1097.out) | exact HB.out)⟩⟩
                  · rw [if_neg c29] at H
                    exact absurd H (by simp)
              · rw [if_neg c26] at H
                have c26b0 : decide (x6_2 < (t1094.length : Int)) = false := decide_eq_false c26
                clear c26
                by_cases c31 : t1098 ≤ (t1088.length : Int)
                · rw [if_pos c31] at H
                  have c31b0 : decide (t1098 ≤ (t1088.length : Int)) = true := decide_eq_true c31
                  clear c31
                  obtain rfl := Option.some.inj H
                  have hcz32_0 : wr.cell? ⟨gb1097, 0, none⟩ = some (.slice Ao8 t1088.length co8) := (blk_cell BK1097.out 0).trans rfl
                  have hcz32_1 : wr.cell? ⟨gb1097, 1, none⟩ = some (.slice Ao10 t1091.length co10) := (blk_cell BK1097.out 1).trans rfl
                  have hcz32_2 : wr.cell? ⟨gb1097, 2, none⟩ = some (.slice Ao11 t1094.length co11) := (blk_cell BK1097.out 2).trans rfl
                  have hfz32_0 := blk_frozen BK1097.out 0
                  have hfz32_1 := blk_frozen BK1097.out 1
                  have hfz32_2 := blk_frozen BK1097.out 2
                  go_wp2
                  go_ret
                  exact ⟨by first | rfl | (simp [errW_none, errW_some] <;> rfl) | (simp [*, errW_none, errW_some] <;> rfl), by repeat (first | (with_reducible first | exact HB.out | apply below_alloc | apply pw_below_drewN | apply below_drew1 | refine below_set ?_ GE1097.out) | exact HB.out)⟩
                · rw [if_neg c31] at H
                  exact absurd H (by simp)

/-- THE ONE PURE STATEMENT of laws_FnLiveCount: yours. -/
def laws_FnLiveCount.Pure : Prop := ∀ (l0 : List Int), l0.length ≤ maxLen → l0.length * 1 ≤ 140737488351232 → (∀ x ∈ l0, (Lit.int .u8 x).wf = true) → ∃ k, laws_FnLiveCount.f k l0 = some true
theorem laws_FnLiveCount.walk (P : laws_FnLiveCount.Pure) (a0 : Option Addr) (len0 cap0 : Nat) (z0 : List Int) (w : World) (w0 : (a0 = none ∧ len0 = 0 ∧ cap0 = 0 ∧ z0 = []) ∨ ∃ x, a0 = some x ∧ len0 ≤ cap0 ∧ cap0 ≤ maxLen ∧ z0.length = cap0 ∧ (∀ i, i < z0.length → w.cell? (x.add i) = some (.int .u8 (z0.getD i 0))) ∧ ∀ n ∈ z0, (Lit.int .u8 n).wf = true) (y0 : len0 * 1 ≤ 140737488351232) :
    Calls Try.prog 12 #[.slice a0 len0 cap0] w fun e w' => e = .returned (.bool true) ∧ Below w.heap.size w w' := by
  obtain ⟨l0, rfl, hr0, hm0, hw0, hc0⟩ := ReadsInt.ofRowC w0
  obtain ⟨k, h⟩ := P l0 hm0 y0 hw0
  refine (laws_FnLiveCount.calls k _ _ l0 true w (Kd.C_of_reads (d := (0 : Int)) (h1 := fun _ => rfl) hr0) hc0 h).mono ?_
  rintro e w' ⟨rfl, hd⟩
  exact ⟨rfl, hd⟩

end Go.Proofs.Ytcofdgeelojebab.A
