/- Contracts of functions of the given program (CLawsFnDistanceOf). No conditions beyond those stated. -/
import Derived.Test.YtcofdgeelojebabA0
import Derived.Test.YtcofdgeelojebabAImplCountLive
import Derived.Test.YtcofdgeelojebabAImplDistanceOf
import Derived.Test.YtcofdgeelojebabAImplReachable
import Derived.Test.YtcofdgeelojebabASpecDistanceOf
import Derived.Test.YtcofdgeelojebabASpecDrawDistanceOf
import Derived.Test.YtcofdgeelojebabA0
namespace Go.Proofs.Ytcofdgeelojebab.A
open Go.RowKit Go.Proofs.YtcofdgeelojebabW.PrintWords Go.Proofs.YtcofdgeelojebabW.PrintLast Go.Proofs.YtcofdgeelojebabW.PrintMore
attribute [local go_sem] max2_int min2_int max_two min_two max_three min_three max_four min_four   -- for this text's walks alone
set_option linter.unusedVariables false
set_option linter.unusedSimpArgs false

/-! ### laws_FnDistanceOf -/
def laws_FnDistanceOf.j0 : Nat → Int → Int → Bool → Int → Bool → Bool → List Int → List Int → List Int → Option (Bool)
  | 0, _, _, _, _, _, _, _, _, _ => none
  | k + 1, x4, x5, x6, x7, x8, x43, x1138000, x1138001, x1138002 => if x43 = true then (if x5 = x7 then (if (x6 == x8) = true then (some (x5 == 0)) else (none)) else (none)) else ((impl_Reachable.f k x1138000 x1138001 x1138002).bind fun t1142 => (if 0 ≤ x4 then (if x4 < (x1138000.length : Int) then (if (rd x1138000 x4) = (-1) then (if x4 < (t1142.length : Int) then (if rdOf false t1142 x4 = true then (if x5 ≥ 1 then ((impl_CountLive.f k x1138000 x1138001 x1138002).bind fun t1147 => (some (decide (x5 ≤ t1147)))) else (none)) else (none)) else (none)) else ((impl_DistanceOf.f k x1138000 x1138001 x1138002 (rd x1138000 x4)).bind fun bt1149 => (if bt1149.2 = true then (if bt1149.1 > (wrap64 (x5 + 1)) then (none) else (if x4 < (t1142.length : Int) then (if rdOf false t1142 x4 = true then (if x5 ≥ 1 then ((impl_CountLive.f k x1138000 x1138001 x1138002).bind fun t1152 => (some (decide (x5 ≤ t1152)))) else (none)) else (none)) else (none))) else (none)))) else (none)) else (none)))
def laws_FnDistanceOf.f (k : Nat) (l0 : List Int) : Option (Bool) := if (l0.length : Int) > 1048576 then (some true) else ((spec_DrawDistanceOf.f k l0).bind fun bt1127 => ((impl_DistanceOf.f k bt1127.1 bt1127.2.1 bt1127.2.2.1 bt1127.2.2.2).bind fun bt1138 => ((spec_DistanceOf.f k bt1127.1 bt1127.2.1 bt1127.2.2.1 bt1127.2.2.2).bind fun bt1140 => (if bt1138.1 = bt1140.1 then (if (bt1138.2 != bt1140.2) = true then (laws_FnDistanceOf.j0 k bt1127.2.2.2 bt1138.1 bt1138.2 bt1140.1 bt1140.2 true bt1127.1 bt1127.2.1 bt1127.2.2.1) else (laws_FnDistanceOf.j0 k bt1127.2.2.2 bt1138.1 bt1138.2 bt1140.1 bt1140.2 (!bt1138.2) bt1127.1 bt1127.2.1 bt1127.2.2.1)) else (laws_FnDistanceOf.j0 k bt1127.2.2.2 bt1138.1 bt1138.2 bt1140.1 bt1140.2 true bt1127.1 bt1127.2.1 bt1127.2.2.1)))))
theorem laws_FnDistanceOf.mono_l : ∀ k, (∀ y0 y1 y2 y3 y4 y5 y6 y7 y8, LeO (laws_FnDistanceOf.j0 k y0 y1 y2 y3 y4 y5 y6 y7 y8) (laws_FnDistanceOf.j0 (k + 1) y0 y1 y2 y3 y4 y5 y6 y7 y8))
  | 0 => fun _ _ _ _ _ _ _ _ _ r h => by simp [laws_FnDistanceOf.j0] at h
  | k + 1 => by
    have ih0 := laws_FnDistanceOf.mono_l k
    · intro y0 y1 y2 y3 y4 y5 y6 y7 y8
      unfold laws_FnDistanceOf.j0
      repeat' first
      | (with_reducible exact ih0 _ _ _ _ _ _ _ _ _)
      | (with_reducible exact impl_CountLive.mono _ _ _ _)
      | (with_reducible exact impl_DistanceOf.mono _ _ _ _ _)
      | (with_reducible exact impl_Reachable.mono _ _ _ _)
      | (with_reducible exact spec_DistanceOf.mono _ _ _ _ _)
      | (with_reducible exact spec_DrawDistanceOf.mono _ _)
      | (with_reducible exact LeO.refl _)
      | (with_reducible exact LeO.none _)
      | (with_reducible refine LeO.ite ?_ ?_)
      | (with_reducible refine LeO.bind ?_ (fun _ => ?_))
      | exact ih0 _ _ _ _ _ _ _ _ _
      | exact impl_CountLive.mono _ _ _ _
      | exact impl_DistanceOf.mono _ _ _ _ _
      | exact impl_Reachable.mono _ _ _ _
      | exact spec_DistanceOf.mono _ _ _ _ _
      | exact spec_DrawDistanceOf.mono _ _
      | exact LeO.none _
      | refine LeO.ite ?_ ?_
      | refine LeO.bind ?_ (fun _ => ?_)
theorem laws_FnDistanceOf.mono : ∀ a0 k, LeO (laws_FnDistanceOf.f k a0) (laws_FnDistanceOf.f (k + 1) a0) := by
  intro a0 k
  have ih0 := laws_FnDistanceOf.mono_l k
  unfold laws_FnDistanceOf.f
  repeat' first
      | (with_reducible exact ih0 _ _ _ _ _ _ _ _ _)
      | (with_reducible exact impl_CountLive.mono _ _ _ _)
      | (with_reducible exact impl_DistanceOf.mono _ _ _ _ _)
      | (with_reducible exact impl_Reachable.mono _ _ _ _)
      | (with_reducible exact spec_DistanceOf.mono _ _ _ _ _)
      | (with_reducible exact spec_DrawDistanceOf.mono _ _)
      | (with_reducible exact LeO.refl _)
      | (with_reducible exact LeO.none _)
      | (with_reducible refine LeO.ite ?_ ?_)
      | (with_reducible refine LeO.bind ?_ (fun _ => ?_))
      | exact ih0 _ _ _ _ _ _ _ _ _
      | exact impl_CountLive.mono _ _ _ _
      | exact impl_DistanceOf.mono _ _ _ _ _
      | exact impl_Reachable.mono _ _ _ _
      | exact spec_DistanceOf.mono _ _ _ _ _
      | exact spec_DrawDistanceOf.mono _ _
      | exact LeO.none _
      | refine LeO.ite ?_ ?_
      | refine LeO.bind ?_ (fun _ => ?_)
def laws_FnDistanceOf.T10 : Bool × List (List Nat × List Nat) := (true, [([], []), ([], []), ([1], [1]), ([], []), ([2, 3], [2, 3]), ([4], [4]), ([0, 5], [0, 5]), ([6], [6]), ([7], [7]), ([7], [7]), ([8, 6, 0, 1, 2, 3, 4, 5, 6, 7, 8], [8]), ([9, 10, 0, 1, 2, 3, 4, 5, 6, 7, 8, 9, 10], [9])])
def laws_FnDistanceOf.B10 : List Nat := [0, 0, 2, 0, 14, 30, 63, 127, 255, 255, 511, 2047]
theorem laws_FnDistanceOf.tab10 : rtab .any (opsOf Try.f13 10) = laws_FnDistanceOf.T10 := by kernel_rfl
theorem laws_FnDistanceOf.bits10 : waitsOk laws_FnDistanceOf.T10.2 laws_FnDistanceOf.B10 = true := by kernel_rfl
set_option maxHeartbeats 8000000 in
set_option maxRecDepth 100000 in
theorem laws_FnDistanceOf.calls (k : Nat) (A0 : Option Addr) (c0 : Nat) (l0 : List Int) (r : Bool) (w : World) (hr0 : Kd.C (Kd.int .u8) w A0 l0.length l0) (hc0 : l0.length ≤ c0) (h : laws_FnDistanceOf.f k l0 = some r) :
    Calls Try.prog 13 #[.slice A0 l0.length c0] w fun e w' => e = .returned (.bool r) ∧ Below w.heap.size w w' := by
  have hu25 := Try.underlying25
  have HR0 := am hr0
  have HC0 := am hc0
  clear hr0 hc0
  have HB := am (Below.refl w.heap.size w)
  have H : (if (l0.length : Int) > 1048576 then (some true) else ((spec_DrawDistanceOf.f k l0).bind fun bt1127 => ((impl_DistanceOf.f k bt1127.1 bt1127.2.1 bt1127.2.2.1 bt1127.2.2.2).bind fun bt1138 => ((spec_DistanceOf.f k bt1127.1 bt1127.2.1 bt1127.2.2.1 bt1127.2.2.2).bind fun bt1140 => (if bt1138.1 = bt1140.1 then (if (bt1138.2 != bt1140.2) = true then (laws_FnDistanceOf.j0 k bt1127.2.2.2 bt1138.1 bt1138.2 bt1140.1 bt1140.2 true bt1127.1 bt1127.2.1 bt1127.2.2.1) else (laws_FnDistanceOf.j0 k bt1127.2.2.2 bt1138.1 bt1138.2 bt1140.1 bt1140.2 (!bt1138.2) bt1127.1 bt1127.2.1 bt1127.2.2.1)) else (laws_FnDistanceOf.j0 k bt1127.2.2.2 bt1138.1 bt1138.2 bt1140.1 bt1140.2 true bt1127.1 bt1127.2.1 bt1127.2.2.1)))))) = some r := h
  clear h
  by_cases c2 : (l0.length : Int) > 1048576
  · rw [if_pos c2] at H
    have c2b0 : decide (1048576 < (l0.length : Int)) = true := decide_eq_true c2
    have c2b1 : decide (1048576 < l0.length) = true := decide_eq_true (by omega)
    clear c2
    obtain rfl := Option.some.inj H
    go_enter Try.func13, Try.ntmps13
    go_wp2
    go_ret
    exact ⟨by first | rfl | (simp [errW_none, errW_some] <;> rfl) | (simp [*, errW_none, errW_some] <;> rfl), by repeat (first | (with_reducible first | exact HB.out | apply below_alloc | apply pw_below_drewN | apply below_drew1) | exact HB.out)⟩
  · rw [if_neg c2] at H
    have c2b0 : decide (1048576 < (l0.length : Int)) = false := decide_eq_false c2
    have c2b1 : decide (1048576 < l0.length) = false := decide_eq_false (by omega)
    clear c2
    replace H := Option.bind_eq_some_iff.mp H
    obtain ⟨⟨t1127, t1130, t1133, t1136⟩, A30, H⟩ := H
    replace H : ((impl_DistanceOf.f k t1127 t1130 t1133 t1136).bind fun bt1138 => ((spec_DistanceOf.f k t1127 t1130 t1133 t1136).bind fun bt1140 => (if bt1138.1 = bt1140.1 then (if (bt1138.2 != bt1140.2) = true then (laws_FnDistanceOf.j0 k t1136 bt1138.1 bt1138.2 bt1140.1 bt1140.2 true t1127 t1130 t1133) else (laws_FnDistanceOf.j0 k t1136 bt1138.1 bt1138.2 bt1140.1 bt1140.2 (!bt1138.2) t1127 t1130 t1133)) else (laws_FnDistanceOf.j0 k t1136 bt1138.1 bt1138.2 bt1140.1 bt1140.2 true t1127 t1130 t1133)))) = some r := H
    have A3 := am A30
    clear A30
    replace H := Option.bind_eq_some_iff.mp H
    obtain ⟨⟨t1138, t1139⟩, A40, H⟩ := H
    replace H : ((spec_DistanceOf.f k t1127 t1130 t1133 t1136).bind fun bt1140 => (if t1138 = bt1140.1 then (if (t1139 != bt1140.2) = true then (laws_FnDistanceOf.j0 k t1136 t1138 t1139 bt1140.1 bt1140.2 true t1127 t1130 t1133) else (laws_FnDistanceOf.j0 k t1136 t1138 t1139 bt1140.1 bt1140.2 (!t1139) t1127 t1130 t1133)) else (laws_FnDistanceOf.j0 k t1136 t1138 t1139 bt1140.1 bt1140.2 true t1127 t1130 t1133))) = some r := H
    have A4 := am A40
    clear A40
    replace H := Option.bind_eq_some_iff.mp H
    obtain ⟨⟨t1140, t1141⟩, A50, H⟩ := H
    replace H : (if t1138 = t1140 then (if (t1139 != t1141) = true then (laws_FnDistanceOf.j0 k t1136 t1138 t1139 t1140 t1141 true t1127 t1130 t1133) else (laws_FnDistanceOf.j0 k t1136 t1138 t1139 t1140 t1141 (!t1139) t1127 t1130 t1133)) else (laws_FnDistanceOf.j0 k t1136 t1138 t1139 t1140 t1141 true t1127 t1130 t1133)) = some r := H
    have A5 := am A50
    clear A50
    have HC6 := am H
    clear H
    go_enter Try.func13, Try.ntmps13
    go_upto_region 6 with (first | ((with_reducible refine gate_callee (f := 47) rfl ?_); refine goesL_ (some 17) rfl rfl Try.func47 (by kernel_rfl) rfl #[.slice A0 l0.length c0] rfl (by (try simp only [List.map_toArray, List.map_cons, List.map_nil]); first | done | rfl | (simp only [List.length_drop, List.length_take]; rfl)) ?_; (with_reducible refine (spec_DrawDistanceOf.calls k _ _ l0 t1127 t1130 t1133 t1136 _ ?side1 ?side2 A3.out).mono ?_); (case side1 => repeat (first | exact HR0.out | (with_reducible refine Kd.C_alloc ?_ _) | (with_reducible refine Kd.C_drewN ?_ _) | (with_reducible refine Kd.C_drew ?_))); (case side2 => exact HC0.out); rintro e w7 ⟨v1128, v1131, v1134, rfl, ho0, ho1, ho2, hb⟩; refine ⟨_, rfl, ?_⟩; have n0_ := am (Kd.R_lower ho0 (below_size (bl HB.out))); have n1_ := am (Kd.R_lower ho1 (below_size (bl HB.out))); have n2_ := am (Kd.R_lower ho2 (below_size (bl HB.out))); have n3_ := am (below_step (bl HB.out) hb); clear HB; have HO1129 := n0_; have HO1132 := n1_; have HO1135 := n2_; have HB := n3_; clear n0_ n1_ n2_ n3_; (try clear hb); (try clear hb2); (try clear hk); (try clear hi); (try clear ho0); (try clear ho1); (try clear ho2)) | ((with_reducible refine gate_dst (N := 3) rfl ?_); refine box_event ?hg (N := 3) ?hd (cs := #[.slice none 0 0, .slice none 0 0, .slice none 0 0]) (t := 25) ?hr ?_; (case hd => rfl); (case hg => rfl); (case hr => first | (go_simp; done) | (go_simp; rfl)); intro gb1137 hg w8 hbox hb; have n0_ := am (Kd.R_below (rl HO1129.out) hb); have n1_ := am (Kd.R_below (rl HO1132.out) hb); have n2_ := am (Kd.R_below (rl HO1135.out) hb); have n3_ := am (below_step (bl HB.out) hb); have n4_ := am (hbox); have n5_ := am ((by rw [hg]; exact (below_size (bl HB.out)) : w.heap.size ≤ gb1137)); have n6_ := am ((by rw [hg]; exact (below_size (bl HB.out)) : w.heap.size ≤ gb1137)); clear HO1129; clear HO1132; clear HO1135; clear HB; have HO1129 := n0_; have HO1132 := n1_; have HO1135 := n2_; have HB := n3_; have BK1137 := n4_; have GW1137 := n5_; have GE1137 := n6_; clear n0_ n1_ n2_ n3_ n4_ n5_ n6_; clear hb hbox hg; obtain ⟨Ao9, co9, eo9⟩ := Kd.R_slice HO1129.out; subst eo9; have hcz10_0 : w8.cell? ⟨gb1137, 0, none⟩ = some (.slice none 0 0) := (blk_cell BK1137.out 0).trans rfl; have hcz10_1 : w8.cell? ⟨gb1137, 1, none⟩ = some (.slice none 0 0) := (blk_cell BK1137.out 1).trans rfl; have hcz10_2 : w8.cell? ⟨gb1137, 2, none⟩ = some (.slice none 0 0) := (blk_cell BK1137.out 2).trans rfl; have hfz10_0 := blk_frozen BK1137.out 0; have hfz10_1 := blk_frozen BK1137.out 1; have hfz10_2 := blk_frozen BK1137.out 2; obtain ⟨Ao11, co11, eo11⟩ := Kd.R_slice HO1132.out; subst eo11; obtain ⟨Ao12, co12, eo12⟩ := Kd.R_slice HO1135.out; subst eo12) | ((with_reducible refine gate_callee (f := 48) rfl ?_); refine goesL_ (some 23) rfl rfl Try.func48 (by kernel_rfl) rfl #[.agg #[.slice Ao9 t1127.length co9, .slice Ao11 t1130.length co11, .slice Ao12 t1133.length co12], .int .i64 t1136] rfl (by (try simp only [List.map_toArray, List.map_cons, List.map_nil]); first | done | rfl | (simp only [List.length_drop, List.length_take]; rfl)) ?_; (with_reducible refine (impl_DistanceOf.calls k _ _ t1127 _ _ t1130 _ _ t1133 t1136 t1138 t1139 _ ?side1 ?side2 ?side3 ?side4 ?side5 ?side6 A4.out).mono ?_); (case side1 => exact (Kd.R_reads' (rl ((far3 HO1129.out BK1137.out (by decide) (.slice Ao9 t1127.length co9) (.slice Ao11 t1130.length co11) (.slice Ao12 t1133.length co12))))).2.2); (case side2 => exact (Kd.R_reads' HO1129.out).2.1); (case side3 => exact (Kd.R_reads' (rl ((far3 HO1132.out BK1137.out (by decide) (.slice Ao9 t1127.length co9) (.slice Ao11 t1130.length co11) (.slice Ao12 t1133.length co12))))).2.2); (case side4 => exact (Kd.R_reads' HO1132.out).2.1); (case side5 => exact (Kd.R_reads' (rl ((far3 HO1135.out BK1137.out (by decide) (.slice Ao9 t1127.length co9) (.slice Ao11 t1130.length co11) (.slice Ao12 t1133.length co12))))).2.2); (case side6 => exact (Kd.R_reads' HO1135.out).2.1); rintro e w13 ⟨rfl, hb⟩; refine ⟨_, rfl, ?_⟩; have n0_ := am (Kd.R_below (rl ((far3 HO1129.out BK1137.out (by decide) (.slice Ao9 t1127.length co9) (.slice Ao11 t1130.length co11) (.slice Ao12 t1133.length co12)))) hb); have n1_ := am (Kd.R_below (rl ((far3 HO1132.out BK1137.out (by decide) (.slice Ao9 t1127.length co9) (.slice Ao11 t1130.length co11) (.slice Ao12 t1133.length co12)))) hb); have n2_ := am (Kd.R_below (rl ((far3 HO1135.out BK1137.out (by decide) (.slice Ao9 t1127.length co9) (.slice Ao11 t1130.length co11) (.slice Ao12 t1133.length co12)))) hb); have n3_ := am (blk_below (g := gb1137) (o := .cells #[.slice Ao9 t1127.length co9, .slice Ao11 t1130.length co11, .slice Ao12 t1133.length co12] 25 (0, 0)) (by (with_reducible repeat (first | refine blk_drewN ?_ _ | refine blk_drew ?_ | refine blk_alloc ?_ _)); refine blk_put (cs := #[.slice Ao9 t1127.length co9, .slice Ao11 t1130.length co11, .slice none 0 0]) ?_ 2 _ rfl; (with_reducible repeat (first | refine blk_drewN ?_ _ | refine blk_drew ?_ | refine blk_alloc ?_ _)); refine blk_put (cs := #[.slice Ao9 t1127.length co9, .slice none 0 0, .slice none 0 0]) ?_ 1 _ rfl; (with_reducible repeat (first | refine blk_drewN ?_ _ | refine blk_drew ?_ | refine blk_alloc ?_ _)); refine blk_put (cs := #[.slice none 0 0, .slice none 0 0, .slice none 0 0]) ?_ 0 _ rfl; (with_reducible repeat (first | refine blk_drewN ?_ _ | refine blk_drew ?_ | refine blk_alloc ?_ _)); exact BK1137.out) hb); have n4_ := am (below_step (by repeat (first | (with_reducible first | exact HB.out | apply below_alloc | apply pw_below_drewN | apply below_drew1 | refine below_set ?_ GE1137.out) | exact HB.out)) hb); clear HO1129; clear HO1132; clear HO1135; clear BK1137; clear HB; have HO1129 := n0_; have HO1132 := n1_; have HO1135 := n2_; have BK1137 := n3_; have HB := n4_; clear n0_ n1_ n2_ n3_ n4_; (try clear hb); (try clear hb2); (try clear hk); (try clear hi); have hcz14_0 : w13.cell? ⟨gb1137, 0, none⟩ = some (.slice Ao9 t1127.length co9) := (blk_cell BK1137.out 0).trans rfl; have hcz14_1 : w13.cell? ⟨gb1137, 1, none⟩ = some (.slice Ao11 t1130.length co11) := (blk_cell BK1137.out 1).trans rfl; have hcz14_2 : w13.cell? ⟨gb1137, 2, none⟩ = some (.slice Ao12 t1133.length co12) := (blk_cell BK1137.out 2).trans rfl; have hfz14_0 := blk_frozen BK1137.out 0; have hfz14_1 := blk_frozen BK1137.out 1; have hfz14_2 := blk_frozen BK1137.out 2) | ((with_reducible refine gate_callee (f := 49) rfl ?_); refine goesL_ (some 29) rfl rfl Try.func49 (by kernel_rfl) rfl #[.agg #[.slice Ao9 t1127.length co9, .slice Ao11 t1130.length co11, .slice Ao12 t1133.length co12], .int .i64 t1136] rfl (by (try simp only [List.map_toArray, List.map_cons, List.map_nil]); first | done | rfl | (simp only [List.length_drop, List.length_take]; rfl)) ?_; (with_reducible refine (spec_DistanceOf.calls k _ _ t1127 _ _ t1130 _ _ t1133 t1136 t1140 t1141 _ ?side1 ?side2 ?side3 ?side4 ?side5 ?side6 A5.out).mono ?_); (case side1 => repeat (first | exact (Kd.R_reads' HO1129.out).2.2 | (with_reducible refine Kd.C_alloc ?_ _) | (with_reducible refine Kd.C_drewN ?_ _) | (with_reducible refine Kd.C_drew ?_))); (case side2 => exact (Kd.R_reads' HO1129.out).2.1); (case side3 => repeat (first | exact (Kd.R_reads' HO1132.out).2.2 | (with_reducible refine Kd.C_alloc ?_ _) | (with_reducible refine Kd.C_drewN ?_ _) | (with_reducible refine Kd.C_drew ?_))); (case side4 => exact (Kd.R_reads' HO1132.out).2.1); (case side5 => repeat (first | exact (Kd.R_reads' HO1135.out).2.2 | (with_reducible refine Kd.C_alloc ?_ _) | (with_reducible refine Kd.C_drewN ?_ _) | (with_reducible refine Kd.C_drew ?_))); (case side6 => exact (Kd.R_reads' HO1135.out).2.1); rintro e w15 ⟨rfl, hb⟩; refine ⟨_, rfl, ?_⟩; have n0_ := am (Kd.R_below (rl HO1129.out) hb); have n1_ := am (Kd.R_below (rl HO1132.out) hb); have n2_ := am (Kd.R_below (rl HO1135.out) hb); have n3_ := am (blk_below (g := gb1137) (o := .cells #[.slice Ao9 t1127.length co9, .slice Ao11 t1130.length co11, .slice Ao12 t1133.length co12] 25 (0, 0)) (kl BK1137.out) hb); have n4_ := am (below_step (by repeat (first | (with_reducible first | exact HB.out | apply below_alloc | apply pw_below_drewN | apply below_drew1 | refine below_set ?_ GE1137.out) | exact HB.out)) hb); clear HO1129; clear HO1132; clear HO1135; clear BK1137; clear HB; have HO1129 := n0_; have HO1132 := n1_; have HO1135 := n2_; have BK1137 := n3_; have HB := n4_; clear n0_ n1_ n2_ n3_ n4_; (try clear hb); (try clear hb2); (try clear hk); (try clear hi)))
    (try simp only [Act.put, List.setIfInBounds_toArray, List.set_cons_zero, List.set_cons_succ])
    go_cut [43] (fun v43 wc => ∃ (kq : Nat) (x43_5 : Bool), v43 = .bool x43_5 ∧ Aside0 (laws_FnDistanceOf.j0 kq t1136 t1138 t1139 t1140 t1141 x43_5 t1127 t1130 t1133 = some r) ∧ Aside0 (kq ≤ k) ∧ Aside0 (Kd.R (Kd.int .i64) 3 wc w.heap.size (fun k_ => some k_ ≠ ((.slice Ao11 t1130.length co11) : Value).ownBlock ∧ some k_ ≠ ((.slice Ao12 t1133.length co12) : Value).ownBlock) (.slice Ao9 t1127.length co9) t1127) ∧ Aside0 (Kd.R (Kd.int .i64) 3 wc w.heap.size (fun k_ => some k_ ≠ ((.slice Ao9 t1127.length co9) : Value).ownBlock ∧ some k_ ≠ ((.slice Ao12 t1133.length co12) : Value).ownBlock) (.slice Ao11 t1130.length co11) t1130) ∧ Aside0 (Kd.R (Kd.int .i64) 3 wc w.heap.size (fun k_ => some k_ ≠ ((.slice Ao9 t1127.length co9) : Value).ownBlock ∧ some k_ ≠ ((.slice Ao11 t1130.length co11) : Value).ownBlock) (.slice Ao12 t1133.length co12) t1133) ∧ Aside0 (wc.heap[gb1137]? = some (.cells #[(.slice Ao9 t1127.length co9), (.slice Ao11 t1130.length co11), (.slice Ao12 t1133.length co12)] 25 (0, 0))) ∧ Aside0 (Below w.heap.size w wc))
    case first =>
      have H := HC6.out
      clear HC6
      by_cases c16 : t1138 = t1140
      · rw [if_pos c16] at H
        have c16b0 : (t1138 == t1140) = true := beq_iff_eq.mpr c16
        have c16b1 : (t1138 != t1140) = false := bne_eq_false_iff_eq.mpr c16
        clear c16
        (first | rw [c16b0] | (simp only [i64_w, i32_w]; rw [c16b0]) | skip)
        by_cases c17 : (t1139 != t1141) = true
        · rw [if_pos c17] at H
          have c17b0 : (t1139 != t1141) = true := c17
          (try (have c17b1 : decide (t1139 = t1141) = false := by simpa using c17))
          (try (have c17b2 : (t1139 == t1141) = false := by simpa using c17))
          (try (have c17b3 : ¬ (t1139 = t1141) := by simpa using c17))
          clear c17
          have H' := am H
          clear H
          go_wp2
          go_meet
          case rel => exact ⟨_, (true), (by first | rfl | (simp; done) | (simp [*]; done)), H', ⟨by first | omega | exact Nat.le_refl _⟩, ⟨rl HO1129.out⟩, ⟨rl HO1132.out⟩, ⟨rl HO1135.out⟩, ⟨kl BK1137.out⟩, ⟨by repeat (first | (with_reducible first | exact HB.out | apply below_alloc | apply pw_below_drewN | apply below_drew1 | refine below_set ?_ GE1137.out) | exact HB.out)⟩⟩
        · rw [if_neg c17] at H
          have c17b0 : (t1139 != t1141) = false := by simpa using c17
          (try (have c17b1 : decide (t1139 = t1141) = true := by simpa using c17))
          (try (have c17b2 : (t1139 == t1141) = true := by simpa using c17))
          clear c17
          have H' := am H
          clear H
          go_wp2
          go_meet
          case rel => exact ⟨_, (!t1139), (by first | rfl | (simp; done) | (simp [*]; done)), H', ⟨by first | omega | exact Nat.le_refl _⟩, ⟨rl HO1129.out⟩, ⟨rl HO1132.out⟩, ⟨rl HO1135.out⟩, ⟨kl BK1137.out⟩, ⟨by repeat (first | (with_reducible first | exact HB.out | apply below_alloc | apply pw_below_drewN | apply below_drew1 | refine below_set ?_ GE1137.out) | exact HB.out)⟩⟩
      · rw [if_neg c16] at H
        have c16b0 : (t1138 == t1140) = false := beq_eq_false_iff_ne.mpr c16
        have c16b1 : (t1138 != t1140) = true := bne_iff_ne.mpr c16
        (first | rw [c16b0] | (simp only [i64_w, i32_w]; rw [c16b0]) | skip)
        have H' := am H
        clear H
        go_wp2
        go_meet
        case rel => exact ⟨_, (true), (by first | rfl | (simp; done) | (simp [*]; done)), H', ⟨by first | omega | exact Nat.le_refl _⟩, ⟨rl HO1129.out⟩, ⟨rl HO1132.out⟩, ⟨rl HO1135.out⟩, ⟨kl BK1137.out⟩, ⟨by repeat (first | (with_reducible first | exact HB.out | apply below_alloc | apply pw_below_drewN | apply below_drew1 | refine below_set ?_ GE1137.out) | exact HB.out)⟩⟩
    case rest =>
      clear HC6
      try clear c1
      try clear c2
      try clear c2b0
      try clear c2b1
      try clear p2
      try clear c4
      try clear c13
      try clear c16
      try clear c16b0
      try clear c16b1
      try clear c17
      try clear c17b0
      try clear c17b1
      try clear c17b2
      try clear hcz10_0
      try clear hcz10_1
      try clear hcz10_2
      try clear hcz14_0
      try clear hcz14_1
      try clear hcz14_2
      try clear hfz10_0
      try clear hfz10_1
      try clear hfz10_2
      try clear hfz14_0
      try clear hfz14_1
      try clear hfz14_2
      obtain ⟨kq, x43_5, rfl, HA, HJ5, HO_1138000, HO_1138001, HO_1138002, BK1137, HB⟩ := hcut
      cases kq with
      | zero => exact absurd HA.out (by simp [laws_FnDistanceOf.j0])
      | succ kj5 =>
        have H := HA.out
        clear HA
        simp only [laws_FnDistanceOf.j0] at H
        by_cases c18 : x43_5 = true
        · subst c18
          have H1 : (if t1138 = t1140 then (if (t1139 == t1141) = true then (some (t1138 == 0)) else (none)) else (none)) = some r := by rw [if_pos rfl] at H; exact H
          clear H
          have H := H1
          clear H1
          by_cases c19 : t1138 = t1140
          · rw [if_pos c19] at H
            have c19b0 : (t1138 == t1140) = true := beq_iff_eq.mpr c19
            have c19b1 : (t1138 != t1140) = false := bne_eq_false_iff_eq.mpr c19
            clear c19
            by_cases c20 : (t1139 == t1141) = true
            · rw [if_pos c20] at H
              have c20b0 : (t1139 == t1141) = true := c20
              (try (have c20b1 : decide (t1139 = t1141) = true := by simpa using c20))
              (try (have c20b2 : (t1139 == t1141) = true := by simpa using c20))
              clear c20
              obtain rfl := Option.some.inj H
              go_wp2
              go_ret
              exact ⟨by first | rfl | (simp [errW_none, errW_some] <;> rfl) | (simp [*, errW_none, errW_some] <;> rfl), by repeat (first | (with_reducible first | exact HB.out | apply below_alloc | apply pw_below_drewN | apply below_drew1 | refine below_set ?_ GE1137.out) | exact HB.out)⟩
            · rw [if_neg c20] at H
              exact absurd H (by simp)
          · rw [if_neg c19] at H
            exact absurd H (by simp)
        · replace c18 := Bool.eq_false_iff.mpr c18
          subst c18
          have H1 : ((impl_Reachable.f kj5 t1127 t1130 t1133).bind fun t1142 => (if 0 ≤ t1136 then (if t1136 < (t1127.length : Int) then (if (rd t1127 t1136) = (-1) then (if t1136 < (t1142.length : Int) then (if rdOf false t1142 t1136 = true then (if t1138 ≥ 1 then ((impl_CountLive.f kj5 t1127 t1130 t1133).bind fun t1147 => (some (decide (t1138 ≤ t1147)))) else (none)) else (none)) else (none)) else ((impl_DistanceOf.f kj5 t1127 t1130 t1133 (rd t1127 t1136)).bind fun bt1149 => (if bt1149.2 = true then (if bt1149.1 > (wrap64 (t1138 + 1)) then (none) else (if t1136 < (t1142.length : Int) then (if rdOf false t1142 t1136 = true then (if t1138 ≥ 1 then ((impl_CountLive.f kj5 t1127 t1130 t1133).bind fun t1152 => (some (decide (t1138 ≤ t1152)))) else (none)) else (none)) else (none))) else (none)))) else (none)) else (none))) = some r := by rw [if_neg (show ¬ (false = true) by decide)] at H; exact H
          clear H
          have H := H1
          clear H1
          replace H := Option.bind_eq_some_iff.mp H
          obtain ⟨t1142, A210, H⟩ := H
          replace H : (if 0 ≤ t1136 then (if t1136 < (t1127.length : Int) then (if (rd t1127 t1136) = (-1) then (if t1136 < (t1142.length : Int) then (if rdOf false t1142 t1136 = true then (if t1138 ≥ 1 then ((impl_CountLive.f kj5 t1127 t1130 t1133).bind fun t1147 => (some (decide (t1138 ≤ t1147)))) else (none)) else (none)) else (none)) else ((impl_DistanceOf.f kj5 t1127 t1130 t1133 (rd t1127 t1136)).bind fun bt1149 => (if bt1149.2 = true then (if bt1149.1 > (wrap64 (t1138 + 1)) then (none) else (if t1136 < (t1142.length : Int) then (if rdOf false t1142 t1136 = true then (if t1138 ≥ 1 then ((impl_CountLive.f kj5 t1127 t1130 t1133).bind fun t1152 => (some (decide (t1138 ≤ t1152)))) else (none)) else (none)) else (none))) else (none)))) else (none)) else (none)) = some r := H
          have A21 := am A210
          clear A210
          by_cases c22 : 0 ≤ t1136
          · rw [if_pos c22] at H
            have c22b0 : decide (0 ≤ t1136) = true := decide_eq_true c22
            clear c22
            by_cases c23 : t1136 < (t1127.length : Int)
            · rw [if_pos c23] at H
              have c23b0 : decide (t1136 < (t1127.length : Int)) = true := decide_eq_true c23
              clear c23
              by_cases c24 : (rd t1127 t1136) = (-1)
              · rw [if_pos c24] at H
                have c24b0 : ((rd t1127 t1136) == (-1)) = true := beq_iff_eq.mpr c24
                have c24b1 : ((rd t1127 t1136) != (-1)) = false := bne_eq_false_iff_eq.mpr c24
                clear c24
                by_cases c25 : t1136 < (t1142.length : Int)
                · rw [if_pos c25] at H
                  have c25b0 : decide (t1136 < (t1142.length : Int)) = true := decide_eq_true c25
                  clear c25
                  obtain ⟨bq26, hbq26⟩ : ∃ b_ : Bool, b_ = (rdOf false t1142 t1136) := ⟨_, rfl⟩
                  replace H : (if bq26 = true then (if t1138 ≥ 1 then ((impl_CountLive.f kj5 t1127 t1130 t1133).bind fun t1147 => (some (decide (t1138 ≤ t1147)))) else (none)) else (none)) = some r := by rw [← hbq26] at H; exact H
                  have Nbq26 := am hbq26
                  clear hbq26
                  by_cases c27 : bq26 = true
                  · subst c27
                    have H1 : (if t1138 ≥ 1 then ((impl_CountLive.f kj5 t1127 t1130 t1133).bind fun t1147 => (some (decide (t1138 ≤ t1147)))) else (none)) = some r := by rw [if_pos rfl] at H; exact H
                    clear H
                    have H := H1
                    clear H1
                    by_cases c28 : t1138 ≥ 1
                    · rw [if_pos c28] at H
                      have c28b0 : decide (1 ≤ t1138) = true := decide_eq_true c28
                      clear c28
                      replace H := Option.bind_eq_some_iff.mp H
                      obtain ⟨t1147, A290, H⟩ := H
                      replace H : (some (decide (t1138 ≤ t1147))) = some r := H
                      have A29 := am A290
                      clear A290
                      obtain rfl := Option.some.inj H
                      have hcz30_0 : wc.cell? ⟨gb1137, 0, none⟩ = some (.slice Ao9 t1127.length co9) := (blk_cell BK1137.out 0).trans rfl
                      have hcz30_1 : wc.cell? ⟨gb1137, 1, none⟩ = some (.slice Ao11 t1130.length co11) := (blk_cell BK1137.out 1).trans rfl
                      have hcz30_2 : wc.cell? ⟨gb1137, 2, none⟩ = some (.slice Ao12 t1133.length co12) := (blk_cell BK1137.out 2).trans rfl
                      have hfz30_0 := blk_frozen BK1137.out 0
                      have hfz30_1 := blk_frozen BK1137.out 1
                      have hfz30_2 := blk_frozen BK1137.out 2
                      go_wp2_with (first | ((with_reducible refine gate_callee (f := 24) rfl ?_); refine goesL_ (some 57) rfl rfl Try.func24 (by kernel_rfl) rfl #[.agg #[.slice Ao9 t1127.length co9, .slice Ao11 t1130.length co11, .slice Ao12 t1133.length co12]] rfl (by (try simp only [List.map_toArray, List.map_cons, List.map_nil]); first | done | rfl | (simp only [List.length_drop, List.length_take]; rfl)) ?_; (with_reducible refine (impl_Reachable.calls kj5 _ _ t1127 _ _ t1130 _ _ t1133 t1142 _ ?side1 ?side2 ?side3 ?side4 ?side5 ?side6 A21.out).mono ?_); (case side1 => repeat (first | exact (Kd.R_reads' HO_1138000.out).2.2 | (with_reducible refine Kd.C_alloc ?_ _) | (with_reducible refine Kd.C_drewN ?_ _) | (with_reducible refine Kd.C_drew ?_))); (case side2 => exact (Kd.R_reads' HO_1138000.out).2.1); (case side3 => repeat (first | exact (Kd.R_reads' HO_1138001.out).2.2 | (with_reducible refine Kd.C_alloc ?_ _) | (with_reducible refine Kd.C_drewN ?_ _) | (with_reducible refine Kd.C_drew ?_))); (case side4 => exact (Kd.R_reads' HO_1138001.out).2.1); (case side5 => repeat (first | exact (Kd.R_reads' HO_1138002.out).2.2 | (with_reducible refine Kd.C_alloc ?_ _) | (with_reducible refine Kd.C_drewN ?_ _) | (with_reducible refine Kd.C_drew ?_))); (case side6 => exact (Kd.R_reads' HO_1138002.out).2.1); rintro e w31 ⟨v1143, rfl, ho0, hb⟩; refine ⟨_, rfl, ?_⟩; have n0_ := am (Kd.R_below (rl HO_1138000.out) hb); have n1_ := am (Kd.R_below (rl HO_1138001.out) hb); have n2_ := am (Kd.R_below (rl HO_1138002.out) hb); have n3_ := am (Kd.R_lower ho0 (below_size (by repeat (first | (with_reducible first | exact HB.out | apply below_alloc | apply pw_below_drewN | apply below_drew1 | refine below_set ?_ GE1137.out) | exact HB.out)))); have n4_ := am (blk_below (g := gb1137) (o := .cells #[.slice Ao9 t1127.length co9, .slice Ao11 t1130.length co11, .slice Ao12 t1133.length co12] 25 (0, 0)) (kl BK1137.out) hb); have n5_ := am (below_step (by repeat (first | (with_reducible first | exact HB.out | apply below_alloc | apply pw_below_drewN | apply below_drew1 | refine below_set ?_ GE1137.out) | exact HB.out)) hb); clear HO_1138000; clear HO_1138001; clear HO_1138002; clear BK1137; clear HB; have HO_1138000 := n0_; have HO_1138001 := n1_; have HO_1138002 := n2_; have HO1144 := n3_; have BK1137 := n4_; have HB := n5_; clear n0_ n1_ n2_ n3_ n4_ n5_; (try clear hb); (try clear hb2); (try clear hk); (try clear hi); (try clear ho0); have hcz32_0 : w31.cell? ⟨gb1137, 0, none⟩ = some (.slice Ao9 t1127.length co9) := (blk_cell BK1137.out 0).trans rfl; have hcz32_1 : w31.cell? ⟨gb1137, 1, none⟩ = some (.slice Ao11 t1130.length co11) := (blk_cell BK1137.out 1).trans rfl; have hcz32_2 : w31.cell? ⟨gb1137, 2, none⟩ = some (.slice Ao12 t1133.length co12) := (blk_cell BK1137.out 2).trans rfl; have hfz32_0 := blk_frozen BK1137.out 0; have hfz32_1 := blk_frozen BK1137.out 1; have hfz32_2 := blk_frozen BK1137.out 2; have p1145 : 0 ≤ (t1136 : Int) := of_decide_eq_true (by first | (with_reducible assumption) | assumption); have q1145 : t1136 < (t1127.length : Int) := of_decide_eq_true (by first | (with_reducible assumption) | assumption); obtain ⟨ad1145, e1145, hx1145_0⟩ := Kd.at_int (Kd.R_reads' HO_1138000.out).2.2 t1136 p1145 q1145; cases e1145; replace p1145 := eq_true p1145; replace q1145 := eq_true q1145; obtain ⟨Ao33, co33, eo33⟩ := Kd.R_slice HO1144.out; subst eo33; have p1146 : 0 ≤ (t1136 : Int) := of_decide_eq_true (by first | (with_reducible assumption) | assumption); have q1146 : t1136 < (t1142.length : Int) := of_decide_eq_true (by first | (with_reducible assumption) | assumption); obtain ⟨ad1146, e1146, hx1146_0⟩ := Kd.at_bool (Kd.R_reads' HO1144.out).2.2 t1136 p1146 q1146; (try rw [← Nbq26.out] at hx1146_0); cases e1146; replace p1146 := eq_true p1146; replace q1146 := eq_true q1146) | (go_at_call 28; (with_reducible refine (impl_CountLive.calls kj5 _ _ t1127 _ _ t1130 _ _ t1133 t1147 _ ?side1 ?side2 ?side3 ?side4 ?side5 ?side6 A29.out).mono ?_); (case side1 => repeat (first | exact (Kd.R_reads' HO_1138000.out).2.2 | (with_reducible refine Kd.C_alloc ?_ _) | (with_reducible refine Kd.C_drewN ?_ _) | (with_reducible refine Kd.C_drew ?_))); (case side2 => exact (Kd.R_reads' HO_1138000.out).2.1); (case side3 => repeat (first | exact (Kd.R_reads' HO_1138001.out).2.2 | (with_reducible refine Kd.C_alloc ?_ _) | (with_reducible refine Kd.C_drewN ?_ _) | (with_reducible refine Kd.C_drew ?_))); (case side4 => exact (Kd.R_reads' HO_1138001.out).2.1); (case side5 => repeat (first | exact (Kd.R_reads' HO_1138002.out).2.2 | (with_reducible refine Kd.C_alloc ?_ _) | (with_reducible refine Kd.C_drewN ?_ _) | (with_reducible refine Kd.C_drew ?_))); (case side6 => exact (Kd.R_reads' HO_1138002.out).2.1); rintro e w34 ⟨rfl, hb⟩; have n0_ := am (Kd.R_below (rl HO_1138000.out) hb); have n1_ := am (Kd.R_below (rl HO_1138001.out) hb); have n2_ := am (Kd.R_below (rl HO_1138002.out) hb); have n3_ := am (Kd.R_below (rl HO1144.out) hb); have n4_ := am (blk_below (g := gb1137) (o := .cells #[.slice (some ad1145) t1127.length co9, .slice Ao11 t1130.length co11, .slice Ao12 t1133.length co12] 25 (0, 0)) (kl BK1137.out) hb); have n5_ := am (below_step (by repeat (first | (with_reducible first | exact HB.out | apply below_alloc | apply pw_below_drewN | apply below_drew1 | refine below_set ?_ GE1137.out) | exact HB.out)) hb); clear HO_1138000; clear HO_1138001; clear HO_1138002; clear HO1144; clear BK1137; clear HB; have HO_1138000 := n0_; have HO_1138001 := n1_; have HO_1138002 := n2_; have HO1144 := n3_; have BK1137 := n4_; have HB := n5_; clear n0_ n1_ n2_ n3_ n4_ n5_; (try clear hb); (try clear hb2); (try clear hk); (try clear hi)))
                      go_ret
                      exact ⟨by first | rfl | (simp [errW_none, errW_some] <;> rfl) | (simp [*, errW_none, errW_some] <;> rfl), by repeat (first | (with_reducible first | exact HB.out | apply below_alloc | apply pw_below_drewN | apply below_drew1 | refine below_set ?_ GE1137.out) | exact HB.out)⟩
                    · rw [if_neg c28] at H
                      exact absurd H (by simp)
                  · replace c27 := Bool.eq_false_iff.mpr c27
                    subst c27
                    have H1 : (none) = some r := by rw [if_neg (show ¬ (false = true) by decide)] at H; exact H
                    clear H
                    have H := H1
                    clear H1
                    exact absurd H (by simp)
                · rw [if_neg c25] at H
                  exact absurd H (by simp)
              · rw [if_neg c24] at H
                have c24b0 : ((rd t1127 t1136) == (-1)) = false := beq_eq_false_iff_ne.mpr c24
                have c24b1 : ((rd t1127 t1136) != (-1)) = true := bne_iff_ne.mpr c24
                replace H := Option.bind_eq_some_iff.mp H
                obtain ⟨⟨t1149, t1150⟩, A350, H⟩ := H
                replace H : (if t1150 = true then (if t1149 > (wrap64 (t1138 + 1)) then (none) else (if t1136 < (t1142.length : Int) then (if rdOf false t1142 t1136 = true then (if t1138 ≥ 1 then ((impl_CountLive.f kj5 t1127 t1130 t1133).bind fun t1152 => (some (decide (t1138 ≤ t1152)))) else (none)) else (none)) else (none))) else (none)) = some r := H
                have A35 := am A350
                clear A350
                by_cases c36 : t1150 = true
                · subst c36
                  have H1 : (if t1149 > (wrap64 (t1138 + 1)) then (none) else (if t1136 < (t1142.length : Int) then (if rdOf false t1142 t1136 = true then (if t1138 ≥ 1 then ((impl_CountLive.f kj5 t1127 t1130 t1133).bind fun t1152 => (some (decide (t1138 ≤ t1152)))) else (none)) else (none)) else (none))) = some r := by rw [if_pos rfl] at H; exact H
                  clear H
                  have H := H1
                  clear H1
                  by_cases c37 : t1149 > (wrap64 (t1138 + 1))
                  · rw [if_pos c37] at H
                    exact absurd H (by simp)
                  · rw [if_neg c37] at H
                    have c37b0 : decide ((wrap64 (t1138 + 1)) < t1149) = false := decide_eq_false c37
                    clear c37
                    by_cases c38 : t1136 < (t1142.length : Int)
                    · rw [if_pos c38] at H
                      have c38b0 : decide (t1136 < (t1142.length : Int)) = true := decide_eq_true c38
                      clear c38
                      obtain ⟨bq39, hbq39⟩ : ∃ b_ : Bool, b_ = (rdOf false t1142 t1136) := ⟨_, rfl⟩
                      replace H : (if bq39 = true then (if t1138 ≥ 1 then ((impl_CountLive.f kj5 t1127 t1130 t1133).bind fun t1152 => (some (decide (t1138 ≤ t1152)))) else (none)) else (none)) = some r := by rw [← hbq39] at H; exact H
                      have Nbq39 := am hbq39
                      clear hbq39
                      by_cases c40 : bq39 = true
                      · subst c40
                        have H1 : (if t1138 ≥ 1 then ((impl_CountLive.f kj5 t1127 t1130 t1133).bind fun t1152 => (some (decide (t1138 ≤ t1152)))) else (none)) = some r := by rw [if_pos rfl] at H; exact H
                        clear H
                        have H := H1
                        clear H1
                        by_cases c41 : t1138 ≥ 1
                        · rw [if_pos c41] at H
                          have c41b0 : decide (1 ≤ t1138) = true := decide_eq_true c41
                          clear c41
                          replace H := Option.bind_eq_some_iff.mp H
                          obtain ⟨t1152, A420, H⟩ := H
                          replace H : (some (decide (t1138 ≤ t1152))) = some r := H
                          have A42 := am A420
                          clear A420
                          obtain rfl := Option.some.inj H
                          have hcz43_0 : wc.cell? ⟨gb1137, 0, none⟩ = some (.slice Ao9 t1127.length co9) := (blk_cell BK1137.out 0).trans rfl
                          have hcz43_1 : wc.cell? ⟨gb1137, 1, none⟩ = some (.slice Ao11 t1130.length co11) := (blk_cell BK1137.out 1).trans rfl
                          have hcz43_2 : wc.cell? ⟨gb1137, 2, none⟩ = some (.slice Ao12 t1133.length co12) := (blk_cell BK1137.out 2).trans rfl
                          have hfz43_0 := blk_frozen BK1137.out 0
                          have hfz43_1 := blk_frozen BK1137.out 1
                          have hfz43_2 := blk_frozen BK1137.out 2
                          try go_wp2_with (first | ((with_reducible refine gate_callee (f := 24) rfl ?_); refine goesL_ (some 57) rfl rfl Try.func24 (by kernel_rfl) rfl #[.agg #[.slice Ao9 t1127.length co9, .slice Ao11 t1130.length co11, .slice Ao12 t1133.length co12]] rfl (by (try simp only [List.map_toArray, List.map_cons, List.map_nil]); first | done | rfl | (simp only [List.length_drop, List.length_take]; rfl)) ?_; (with_reducible refine (impl_Reachable.calls kj5 _ _ t1127 _ _ t1130 _ _ t1133 t1142 _ ?side1 ?side2 ?side3 ?side4 ?side5 ?side6 A21.out).mono ?_); (case side1 => repeat (first | exact (Kd.R_reads' HO_1138000.out).2.2 | (with_reducible refine Kd.C_alloc ?_ _) | (with_reducible refine Kd.C_drewN ?_ _) | (with_reducible refine Kd.C_drew ?_))); (case side2 => exact (Kd.R_reads' HO_1138000.out).2.1); (case side3 => repeat (first | exact (Kd.R_reads' HO_1138001.out).2.2 | (with_reducible refine Kd.C_alloc ?_ _) | (with_reducible refine Kd.C_drewN ?_ _) | (with_reducible refine Kd.C_drew ?_))); (case side4 => exact (Kd.R_reads' HO_1138001.out).2.1); (case side5 => repeat (first | exact (Kd.R_reads' HO_1138002.out).2.2 | (with_reducible refine Kd.C_alloc ?_ _) | (with_reducible refine Kd.C_drewN ?_ _) | (with_reducible refine Kd.C_drew ?_))); (case side6 => exact (Kd.R_reads' HO_1138002.out).2.1); rintro e w44 ⟨v1143, rfl, ho0, hb⟩; refine ⟨_, rfl, ?_⟩; have n0_ := am (Kd.R_below (rl HO_1138000.out) hb); have n1_ := am (Kd.R_below (rl HO_1138001.out) hb); have n2_ := am (Kd.R_below (rl HO_1138002.out) hb); have n3_ := am (Kd.R_lower ho0 (below_size (by repeat (first | (with_reducible first | exact HB.out | apply below_alloc | apply pw_below_drewN | apply below_drew1 | refine below_set ?_ GE1137.out) | exact HB.out)))); have n4_ := am (blk_below (g := gb1137) (o := .cells #[.slice Ao9 t1127.length co9, .slice Ao11 t1130.length co11, .slice Ao12 t1133.length co12] 25 (0, 0)) (kl BK1137.out) hb); have n5_ := am (below_step (by repeat (first | (with_reducible first | exact HB.out | apply below_alloc | apply pw_below_drewN | apply below_drew1 | refine below_set ?_ GE1137.out) | exact HB.out)) hb); clear HO_1138000; clear HO_1138001; clear HO_1138002; clear BK1137; clear HB; have HO_1138000 := n0_; have HO_1138001 := n1_; have HO_1138002 := n2_; have HO1144 := n3_; have BK1137 := n4_; have HB := n5_; clear n0_ n1_ n2_ n3_ n4_ n5_; (try clear hb); (try clear hb2); (try clear hk); (try clear hi); (try clear ho0); have hcz45_0 : w44.cell? ⟨gb1137, 0, none⟩ = some (.slice Ao9 t1127.length co9) := (blk_cell BK1137.out 0).trans rfl; have hcz45_1 : w44.cell? ⟨gb1137, 1, none⟩ = some (.slice Ao11 t1130.length co11) := (blk_cell BK1137.out 1).trans rfl; have hcz45_2 : w44.cell? ⟨gb1137, 2, none⟩ = some (.slice Ao12 t1133.length co12) := (blk_cell BK1137.out 2).trans rfl; have hfz45_0 := blk_frozen BK1137.out 0; have hfz45_1 := blk_frozen BK1137.out 1; have hfz45_2 := blk_frozen BK1137.out 2; have p1145 : 0 ≤ (t1136 : Int) := of_decide_eq_true (by first | (with_reducible assumption) | assumption); have q1145 : t1136 < (t1127.length : Int) := of_decide_eq_true (by first | (with_reducible assumption) | assumption); obtain ⟨ad1145, e1145, hx1145_0⟩ := Kd.at_int (Kd.R_reads' HO_1138000.out).2.2 t1136 p1145 q1145; cases e1145; replace p1145 := eq_true p1145; replace q1145 := eq_true q1145))
                          have n0_ := am (Kd.R_drew HO_1138000.out)
                          have n1_ := am (Kd.R_drew HO_1138001.out)
                          have n2_ := am (Kd.R_drew HO_1138002.out)
                          have n3_ := am (Kd.R_drew HO1144.out)
                          have n4_ := am (blk_drew BK1137.out)
                          have n5_ := am (below_drew1 HB.out)
                          clear HO_1138000
                          clear HO_1138001
                          clear HO_1138002
                          clear HO1144
                          clear BK1137
                          clear HB
                          have HO_1138000 := n0_
                          have HO_1138001 := n1_
                          have HO_1138002 := n2_
                          have HO1144 := n3_
                          have BK1137 := n4_
                          have HB := n5_
                          clear n0_ n1_ n2_ n3_ n4_ n5_
                          have p1148 : 0 ≤ (t1136 : Int) := of_decide_eq_true (by first | (with_reducible assumption) | assumption)
                          have q1148 : t1136 < (t1127.length : Int) := of_decide_eq_true (by first | (with_reducible assumption) | assumption)
                          obtain ⟨ad1148, e1148, hx1148_0⟩ := Kd.at_int (Kd.R_reads' HO_1138000.out).2.2 t1136 p1148 q1148
                          obtain rfl : ad1145 = ad1148 := (by injection e1148)
                          replace p1148 := eq_true p1148
                          replace q1148 := eq_true q1148
                          refine start_ (n := 12) (S := fun w' => w'.cell? ⟨gb1137, 0, none⟩ = some (.slice (some ad1145) t1127.length co9) ∧ w'.cell? ⟨gb1137, 1, none⟩ = some (.slice Ao11 t1130.length co11) ∧ w'.cell? ⟨gb1137, 2, none⟩ = some (.slice Ao12 t1133.length co12) ∧ w'.cell? (ad1145.add (t1136).toNat) = some (.int .i64 (rd t1127 t1136))) (ds := []) #[false, false, false, false, false, false, false, false, false, false, false, false] (by kernel_rfl) rfl rfl ⟨(blk_cell BK1137.out 0).trans rfl, (blk_cell BK1137.out 1).trans rfl, (blk_cell BK1137.out 2).trans rfl, hx1148_0⟩ (fun hHeld => ?_); refine with_tabW laws_FnDistanceOf.tab10 laws_FnDistanceOf.bits10 (fun HT_ HW_ => ?_)
                          generalize w44.drew = w46 at HO_1138000 HO_1138001 HO_1138002 HO1144 BK1137 HB hx1148_0 hHeld ⊢
                          refine pure_ (i := 1) (N := some 66) (v := ?_) (a' := ?_) #[false, true, false, false, false, false, false, false, false, false, false, false] rfl rfl (any_of HT_.out (by kernel_rfl)) (fun _ _ _ h => h) (Or.inl ⟨by rfl, ?_⟩) ?_ ?_
                          rotate_left
                          · intro w'
                            go_simp
                            with_reducible rfl
                          rotate_left
                          · simp only [Act.put, List.setIfInBounds_toArray, List.set_cons_zero, List.set_cons_succ, i64_w, i32_w]
                            rfl
                          refine pure_ (i := 3) (N := some 68) (v := ?_) (a' := ?_) #[false, true, false, true, false, false, false, false, false, false, false, false] rfl rfl (any_of HT_.out (by kernel_rfl)) (fun _ _ _ h => h) (Or.inl ⟨by rfl, ?_⟩) ?_ ?_
                          rotate_left
                          · intro w'
                            go_simp
                            with_reducible rfl
                          rotate_left
                          · simp only [Act.put, List.setIfInBounds_toArray, List.set_cons_zero, List.set_cons_succ, i64_w, i32_w]
                            rfl
                          refine take_ (i := 0) (N := some 65) (v := ?_) (a' := ?_) #[true, true, false, true, false, false, false, false, false, false, false, false] rfl rfl (take_ofW HT_.out HW_.out (by kernel_rfl)) (fun _ _ _ h => h) (Or.inl ⟨by rfl, ?_⟩) hHeld ?_ ?_
                          rotate_left
                          · rintro w' ⟨s0, s1, s2, s3⟩
                            go_simp
                            with_reducible rfl
                          rotate_left
                          · simp only [Act.put, List.setIfInBounds_toArray, List.set_cons_zero, List.set_cons_succ, i64_w, i32_w]
                            rfl
                          refine take_ (i := 2) (N := some 67) (v := ?_) (a' := ?_) #[true, true, true, true, false, false, false, false, false, false, false, false] rfl rfl (take_ofW HT_.out HW_.out (by kernel_rfl)) (fun _ _ _ h => h) (Or.inl ⟨by rfl, ?_⟩) hHeld ?_ ?_
                          rotate_left
                          · rintro w' ⟨s0, s1, s2, s3⟩
                            go_simp
                            with_reducible rfl
                          rotate_left
                          · simp only [Act.put, List.setIfInBounds_toArray, List.set_cons_zero, List.set_cons_succ, i64_w, i32_w]
                            rfl
                          refine pure_ (i := 4) (N := some 69) (v := ?_) (a' := ?_) #[true, true, true, true, true, false, false, false, false, false, false, false] rfl rfl (any_of HT_.out (by kernel_rfl)) (fun _ _ _ h => h) (Or.inl ⟨by rfl, ?_⟩) ?_ ?_
                          rotate_left
                          · intro w'
                            go_simp
                            with_reducible rfl
                          rotate_left
                          · simp only [Act.put, List.setIfInBounds_toArray, List.set_cons_zero, List.set_cons_succ, i64_w, i32_w]
                            rfl
                          refine take_ (i := 5) (N := some 70) (v := ?_) (a' := ?_) #[true, true, true, true, true, true, false, false, false, false, false, false] rfl rfl (take_ofW HT_.out HW_.out (by kernel_rfl)) (fun _ _ _ h => h) (Or.inl ⟨by rfl, ?_⟩) hHeld ?_ ?_
                          rotate_left
                          · rintro w' ⟨s0, s1, s2, s3⟩
                            go_simp
                            with_reducible rfl
                          rotate_left
                          · simp only [Act.put, List.setIfInBounds_toArray, List.set_cons_zero, List.set_cons_succ, i64_w, i32_w]
                            rfl
                          refine one_ (i := 6) (N := some 71) #[true, true, true, true, true, true, true, false, false, false, false, false] rfl rfl (one_of HT_.out (by kernel_rfl)) (by decide) (fun K hK => ?_)
                          refine goes_ Try.func48 (by kernel_rfl) rfl #[.agg #[.slice (some ad1145) t1127.length co9, .slice Ao11 t1130.length co11, .slice Ao12 t1133.length co12], .int .i64 (rd t1127 t1136)] (by rfl) rfl rfl (by (try simp only [List.map_toArray, List.map_cons, List.map_nil]); first | done | rfl | (simp only [List.length_drop, List.length_take]; rfl)) ?_
                          with_reducible refine (impl_DistanceOf.calls kj5 _ _ t1127 _ _ t1130 _ _ t1133 (rd t1127 t1136) t1149 true _ ?side1 ?side2 ?side3 ?side4 ?side5 ?side6 A35.out).mono ?_
                          (case side1 => repeat (first | exact (Kd.R_reads' HO_1138000.out).2.2 | (with_reducible refine Kd.C_alloc ?_ _) | (with_reducible refine Kd.C_drewN ?_ _) | (with_reducible refine Kd.C_drew ?_)))
                          (case side2 => exact (Kd.R_reads' HO_1138000.out).2.1)
                          (case side3 => repeat (first | exact (Kd.R_reads' HO_1138001.out).2.2 | (with_reducible refine Kd.C_alloc ?_ _) | (with_reducible refine Kd.C_drewN ?_ _) | (with_reducible refine Kd.C_drew ?_)))
                          (case side4 => exact (Kd.R_reads' HO_1138001.out).2.1)
                          (case side5 => repeat (first | exact (Kd.R_reads' HO_1138002.out).2.2 | (with_reducible refine Kd.C_alloc ?_ _) | (with_reducible refine Kd.C_drewN ?_ _) | (with_reducible refine Kd.C_drew ?_)))
                          (case side6 => exact (Kd.R_reads' HO_1138002.out).2.1)
                          rintro e w47 ⟨rfl, hb⟩
                          have HS3_ := (hb.cell (World.block_lt_of_cell? _ _ (hHeld.2.2.2))).trans (hHeld.2.2.2)
                          refine ⟨_, rfl, ?_⟩
                          have n0_ := am (Kd.R_below (rl HO_1138000.out) hb)
                          have n1_ := am (Kd.R_below (rl HO_1138001.out) hb)
                          have n2_ := am (Kd.R_below (rl HO_1138002.out) hb)
                          have n3_ := am (Kd.R_below (rl HO1144.out) hb)
                          have n4_ := am (blk_below (g := gb1137) (o := .cells #[.slice (some ad1145) t1127.length co9, .slice Ao11 t1130.length co11, .slice Ao12 t1133.length co12] 25 (0, 0)) (kl BK1137.out) hb)
                          have n5_ := am (below_step (by repeat (first | (with_reducible first | exact HB.out | apply below_alloc | apply pw_below_drewN | apply below_drew1 | refine below_set ?_ GE1137.out) | exact HB.out)) hb)
                          clear HO_1138000
                          clear HO_1138001
                          clear HO_1138002
                          clear HO1144
                          clear BK1137
                          clear HB
                          have HO_1138000 := n0_
                          have HO_1138001 := n1_
                          have HO_1138002 := n2_
                          have HO1144 := n3_
                          have BK1137 := n4_
                          have HB := n5_
                          clear n0_ n1_ n2_ n3_ n4_ n5_
                          (try clear hb)
                          (try clear hb2)
                          (try clear hk)
                          (try clear hi)
                          refine hK.out _ _ ⟨(blk_cell BK1137.out 0).trans rfl, (blk_cell BK1137.out 1).trans rfl, (blk_cell BK1137.out 2).trans rfl, HS3_⟩ (fun hHeld => ?_)
                          clear hK K
                          refine norm_ (a' := ?_) ?_ ?_
                          rotate_left
                          · show Act.put _ (some 71) _ = _
                            simp only [Act.put, List.setIfInBounds_toArray, List.set_cons_zero, List.set_cons_succ, i64_w, i32_w]
                            rfl
                          refine pure_ (i := 7) (N := some 64) (v := ?_) (a' := ?_) #[true, true, true, true, true, true, true, true, false, false, false, false] rfl rfl (any_of HT_.out (by kernel_rfl)) (fun _ _ _ h => h) (Or.inl ⟨by rfl, ?_⟩) ?_ ?_
                          rotate_left
                          · intro w'
                            go_simp
                            with_reducible rfl
                          rotate_left
                          · simp only [Act.put, List.setIfInBounds_toArray, List.set_cons_zero, List.set_cons_succ, i64_w, i32_w]
                            rfl
                          refine pure_ (i := 8) (N := some 72) (v := ?_) (a' := ?_) #[true, true, true, true, true, true, true, true, true, false, false, false] rfl rfl (any_of HT_.out (by kernel_rfl)) (fun _ _ _ h => h) (Or.inl ⟨by rfl, ?_⟩) ?_ ?_
                          rotate_left
                          · intro w'
                            go_simp
                            with_reducible rfl
                          rotate_left
                          · simp only [Act.put, List.setIfInBounds_toArray, List.set_cons_zero, List.set_cons_succ, i64_w, i32_w]
                            rfl
                          refine pure_ (i := 9) (N := some 73) (v := ?_) (a' := ?_) #[true, true, true, true, true, true, true, true, true, true, false, false] rfl rfl (any_of HT_.out (by kernel_rfl)) (fun _ _ _ h => h) (Or.inl ⟨by rfl, ?_⟩) ?_ ?_
                          rotate_left
                          · intro w'
                            go_simp
                            with_reducible rfl
                          rotate_left
                          · simp only [Act.put, List.setIfInBounds_toArray, List.set_cons_zero, List.set_cons_succ, i64_w, i32_w]
                            rfl
                          refine pure_ (i := 10) (N := some 10) (v := ?_) (a' := ?_) #[true, true, true, true, true, true, true, true, true, true, true, false] rfl rfl (any_of HT_.out (by kernel_rfl)) (fun _ _ _ h => h) (Or.inl ⟨by rfl, ?_⟩) ?_ ?_
                          rotate_left
                          · intro w'
                            go_simp
                            with_reducible rfl
                          rotate_left
                          · simp only [Act.put, List.setIfInBounds_toArray, List.set_cons_zero, List.set_cons_succ, i64_w, i32_w]
                            rfl
                          refine pure_ (i := 11) (N := some 11) (v := ?_) (a' := ?_) #[true, true, true, true, true, true, true, true, true, true, true, true] rfl rfl (any_of HT_.out (by kernel_rfl)) (fun _ _ _ h => h) (Or.inl ⟨by rfl, ?_⟩) ?_ ?_
                          rotate_left
                          · intro w'
                            go_simp
                            with_reducible rfl
                          rotate_left
                          · simp only [Act.put, List.setIfInBounds_toArray, List.set_cons_zero, List.set_cons_succ, i64_w, i32_w]
                            rfl
                          refine done_ (done_of HT_.out (by kernel_rfl)) ?_
                          obtain ⟨Ao48, co48, eo48⟩ := Kd.R_slice HO1144.out
                          subst eo48
                          have p1151 : 0 ≤ (t1136 : Int) := of_decide_eq_true (by first | (with_reducible assumption) | assumption)
                          have q1151 : t1136 < (t1142.length : Int) := of_decide_eq_true (by first | (with_reducible assumption) | assumption)
                          obtain ⟨ad1151, e1151, hx1151_0⟩ := Kd.at_bool (Kd.R_reads' HO1144.out).2.2 t1136 p1151 q1151
                          (try rw [← Nbq39.out] at hx1151_0)
                          cases e1151
                          replace p1151 := eq_true p1151
                          replace q1151 := eq_true q1151
                          have hcz49_0 : w47.cell? ⟨gb1137, 0, none⟩ = some (.slice (some ad1145) t1127.length co9) := (blk_cell BK1137.out 0).trans rfl
                          have hcz49_1 : w47.cell? ⟨gb1137, 1, none⟩ = some (.slice Ao11 t1130.length co11) := (blk_cell BK1137.out 1).trans rfl
                          have hcz49_2 : w47.cell? ⟨gb1137, 2, none⟩ = some (.slice Ao12 t1133.length co12) := (blk_cell BK1137.out 2).trans rfl
                          have hfz49_0 := blk_frozen BK1137.out 0
                          have hfz49_1 := blk_frozen BK1137.out 1
                          have hfz49_2 := blk_frozen BK1137.out 2
                          try go_wp2_with (first | (go_at_call 28; (with_reducible refine (impl_CountLive.calls kj5 _ _ t1127 _ _ t1130 _ _ t1133 t1152 _ ?side1 ?side2 ?side3 ?side4 ?side5 ?side6 A42.out).mono ?_); (case side1 => repeat (first | exact (Kd.R_reads' HO_1138000.out).2.2 | (with_reducible refine Kd.C_alloc ?_ _) | (with_reducible refine Kd.C_drewN ?_ _) | (with_reducible refine Kd.C_drew ?_))); (case side2 => exact (Kd.R_reads' HO_1138000.out).2.1); (case side3 => repeat (first | exact (Kd.R_reads' HO_1138001.out).2.2 | (with_reducible refine Kd.C_alloc ?_ _) | (with_reducible refine Kd.C_drewN ?_ _) | (with_reducible refine Kd.C_drew ?_))); (case side4 => exact (Kd.R_reads' HO_1138001.out).2.1); (case side5 => repeat (first | exact (Kd.R_reads' HO_1138002.out).2.2 | (with_reducible refine Kd.C_alloc ?_ _) | (with_reducible refine Kd.C_drewN ?_ _) | (with_reducible refine Kd.C_drew ?_))); (case side6 => exact (Kd.R_reads' HO_1138002.out).2.1); rintro e w50 ⟨rfl, hb⟩; have n0_ := am (Kd.R_below (rl HO_1138000.out) hb); have n1_ := am (Kd.R_below (rl HO_1138001.out) hb); have n2_ := am (Kd.R_below (rl HO_1138002.out) hb); have n3_ := am (Kd.R_below (rl HO1144.out) hb); have n4_ := am (blk_below (g := gb1137) (o := .cells #[.slice (some ad1145) t1127.length co9, .slice Ao11 t1130.length co11, .slice Ao12 t1133.length co12] 25 (0, 0)) (kl BK1137.out) hb); have n5_ := am (below_step (by repeat (first | (with_reducible first | exact HB.out | apply below_alloc | apply pw_below_drewN | apply below_drew1 | refine below_set ?_ GE1137.out) | exact HB.out)) hb); clear HO_1138000; clear HO_1138001; clear HO_1138002; clear HO1144; clear BK1137; clear HB; have HO_1138000 := n0_; have HO_1138001 := n1_; have HO_1138002 := n2_; have HO1144 := n3_; have BK1137 := n4_; have HB := n5_; clear n0_ n1_ n2_ n3_ n4_ n5_; (try clear hb); (try clear hb2); (try clear hk); (try clear hi)))
                          go_ret
                          exact ⟨by first | rfl | (simp [errW_none, errW_some] <;> rfl) | (simp [*, errW_none, errW_some] <;> rfl), by repeat (first | (with_reducible first | exact HB.out | apply below_alloc | apply pw_below_drewN | apply below_drew1 | refine below_set ?_ GE1137.out) | exact HB.out)⟩
                        · rw [if_neg c41] at H
                          exact absurd H (by simp)
                      · replace c40 := Bool.eq_false_iff.mpr c40
                        subst c40
                        have H1 : (none) = some r := by rw [if_neg (show ¬ (false = true) by decide)] at H; exact H
                        clear H
                        have H := H1
                        clear H1
                        exact absurd H (by simp)
                    · rw [if_neg c38] at H
                      exact absurd H (by simp)
                · replace c36 := Bool.eq_false_iff.mpr c36
                  subst c36
                  have H1 : (none) = some r := by rw [if_neg (show ¬ (false = true) by decide)] at H; exact H
                  clear H
                  have H := H1
                  clear H1
                  exact absurd H (by simp)
            · rw [if_neg c23] at H
              exact absurd H (by simp)
          · rw [if_neg c22] at H
            exact absurd H (by simp)

/-- THE ONE PURE STATEMENT of laws_FnDistanceOf: yours. -/
def laws_FnDistanceOf.Pure : Prop := ∀ (l0 : List Int), l0.length ≤ maxLen → l0.length * 1 ≤ 140737488351232 → (∀ x ∈ l0, (Lit.int .u8 x).wf = true) → ∃ k, laws_FnDistanceOf.f k l0 = some true
theorem laws_FnDistanceOf.walk (P : laws_FnDistanceOf.Pure) (a0 : Option Addr) (len0 cap0 : Nat) (z0 : List Int) (w : World) (w0 : (a0 = none ∧ len0 = 0 ∧ cap0 = 0 ∧ z0 = []) ∨ ∃ x, a0 = some x ∧ len0 ≤ cap0 ∧ cap0 ≤ maxLen ∧ z0.length = cap0 ∧ (∀ i, i < z0.length → w.cell? (x.add i) = some (.int .u8 (z0.getD i 0))) ∧ ∀ n ∈ z0, (Lit.int .u8 n).wf = true) (y0 : len0 * 1 ≤ 140737488351232) :
    Calls Try.prog 13 #[.slice a0 len0 cap0] w fun e w' => e = .returned (.bool true) ∧ Below w.heap.size w w' := by
  obtain ⟨l0, rfl, hr0, hm0, hw0, hc0⟩ := ReadsInt.ofRowC w0
  obtain ⟨k, h⟩ := P l0 hm0 y0 hw0
  refine (laws_FnDistanceOf.calls k _ _ l0 true w (Kd.C_of_reads (d := (0 : Int)) (h1 := fun _ => rfl) hr0) hc0 h).mono ?_
  rintro e w' ⟨rfl, hd⟩
  exact ⟨rfl, hd⟩

end Go.Proofs.Ytcofdgeelojebab.A
