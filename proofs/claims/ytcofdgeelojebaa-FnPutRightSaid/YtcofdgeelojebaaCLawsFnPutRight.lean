/- Contracts of functions of the given program (CLawsFnPutRight). No conditions beyond those stated. -/
import Derived.Test.YtcofdgeelojebaaA0
import Derived.Test.YtcofdgeelojebaaAImplHeapSame
import Derived.Test.YtcofdgeelojebaaAImplHeapValid
import Derived.Test.YtcofdgeelojebaaAImplPutRight
import Derived.Test.YtcofdgeelojebaaASpecDrawPutRight
import Derived.Test.YtcofdgeelojebaaASpecPutRight
import Derived.Test.YtcofdgeelojebaaA0
namespace Go.Proofs.Ytcofdgeelojebaa.A
open Go.RowKit Go.Proofs.YtcofdgeelojebaaW.PrintWords Go.Proofs.YtcofdgeelojebaaW.PrintLast Go.Proofs.YtcofdgeelojebaaW.PrintMore
attribute [local go_sem] max2_int min2_int max_two min_two max_three min_three max_four min_four   -- for this text's walks alone
set_option linter.unusedVariables false
set_option linter.unusedSimpArgs false

/-! ### laws_FnPutRight -/
def laws_FnPutRight.j0 : Nat → Int → Int → Bool → Bool → Bool → List Int → List Int → List Int → List Int → List Int → List Int → List Int → List Int → List Int → Option (Bool)
  | 0, _, _, _, _, _, _, _, _, _, _, _, _, _, _ => none
  | k + 1, x4, x5, x7, x9, x47, x346000, x346001, x346002, x357000, x357001, x357002, x368000, x368001, x368002 => if x47 = true then ((impl_HeapSame.f k x357000 x357001 x357002 x368000 x368001 x368002).bind fun t369 => (if t369 = true then (some (x7 == x9)) else (none))) else (if 0 ≤ x4 then (if x4 < (x346001.length : Int) then ((impl_PutRight.f k x357000 x357001 x357002 x4 (rd x346001 x4)).bind fun bt371 => ((impl_HeapValid.f k x357000 x357001 x357002).bind fun t382 => (if t382 = true then (if x4 < (x357001.length : Int) then (if (rd x357001 x4) = x5 then (if bt371.2.2.2 = true then ((impl_HeapSame.f k bt371.1 bt371.2.1 bt371.2.2.1 x346000 x346001 x346002).bind fun t384 => (some t384)) else (none)) else (none)) else (none)) else (none)))) else (none)) else (none))
def laws_FnPutRight.f (k : Nat) (l0 : List Int) : Option (Bool) := if (l0.length : Int) > 1048576 then (some true) else ((spec_DrawPutRight.f k l0).bind fun bt334 => ((impl_PutRight.f k bt334.1 bt334.2.1 bt334.2.2.1 bt334.2.2.2.1 bt334.2.2.2.2).bind fun bt346 => ((spec_PutRight.f k bt334.1 bt334.2.1 bt334.2.2.1 bt334.2.2.2.1 bt334.2.2.2.2).bind fun bt357 => ((impl_HeapSame.f k bt346.1 bt346.2.1 bt346.2.2.1 bt357.1 bt357.2.1 bt357.2.2.1).bind fun t368 => (if t368 = true then (if (bt346.2.2.2 != bt357.2.2.2) = true then (laws_FnPutRight.j0 k bt334.2.2.2.1 bt334.2.2.2.2 bt346.2.2.2 bt357.2.2.2 true bt334.1 bt334.2.1 bt334.2.2.1 bt346.1 bt346.2.1 bt346.2.2.1 bt357.1 bt357.2.1 bt357.2.2.1) else (laws_FnPutRight.j0 k bt334.2.2.2.1 bt334.2.2.2.2 bt346.2.2.2 bt357.2.2.2 (!bt346.2.2.2) bt334.1 bt334.2.1 bt334.2.2.1 bt346.1 bt346.2.1 bt346.2.2.1 bt357.1 bt357.2.1 bt357.2.2.1)) else (laws_FnPutRight.j0 k bt334.2.2.2.1 bt334.2.2.2.2 bt346.2.2.2 bt357.2.2.2 true bt334.1 bt334.2.1 bt334.2.2.1 bt346.1 bt346.2.1 bt346.2.2.1 bt357.1 bt357.2.1 bt357.2.2.1))))))
theorem laws_FnPutRight.mono_l : ∀ k, (∀ y0 y1 y2 y3 y4 y5 y6 y7 y8 y9 y10 y11 y12 y13, LeO (laws_FnPutRight.j0 k y0 y1 y2 y3 y4 y5 y6 y7 y8 y9 y10 y11 y12 y13) (laws_FnPutRight.j0 (k + 1) y0 y1 y2 y3 y4 y5 y6 y7 y8 y9 y10 y11 y12 y13))
  | 0 => fun _ _ _ _ _ _ _ _ _ _ _ _ _ _ r h => by simp [laws_FnPutRight.j0] at h
  | k + 1 => by
    have ih0 := laws_FnPutRight.mono_l k
    · intro y0 y1 y2 y3 y4 y5 y6 y7 y8 y9 y10 y11 y12 y13
      unfold laws_FnPutRight.j0
      repeat' first
      | (with_reducible exact ih0 _ _ _ _ _ _ _ _ _ _ _ _ _ _)
      | (with_reducible exact impl_HeapSame.mono _ _ _ _ _ _ _)
      | (with_reducible exact impl_HeapValid.mono _ _ _ _)
      | (with_reducible exact impl_PutRight.mono _ _ _ _ _ _)
      | (with_reducible exact spec_DrawPutRight.mono _ _)
      | (with_reducible exact spec_PutRight.mono _ _ _ _ _ _)
      | (with_reducible exact LeO.refl _)
      | (with_reducible exact LeO.none _)
      | (with_reducible refine LeO.ite ?_ ?_)
      | (with_reducible refine LeO.bind ?_ (fun _ => ?_))
      | exact ih0 _ _ _ _ _ _ _ _ _ _ _ _ _ _
      | exact impl_HeapSame.mono _ _ _ _ _ _ _
      | exact impl_HeapValid.mono _ _ _ _
      | exact impl_PutRight.mono _ _ _ _ _ _
      | exact spec_DrawPutRight.mono _ _
      | exact spec_PutRight.mono _ _ _ _ _ _
      | exact LeO.none _
      | refine LeO.ite ?_ ?_
      | refine LeO.bind ?_ (fun _ => ?_)
theorem laws_FnPutRight.mono : ∀ a0 k, LeO (laws_FnPutRight.f k a0) (laws_FnPutRight.f (k + 1) a0) := by
  intro a0 k
  have ih0 := laws_FnPutRight.mono_l k
  unfold laws_FnPutRight.f
  repeat' first
      | (with_reducible exact ih0 _ _ _ _ _ _ _ _ _ _ _ _ _ _)
      | (with_reducible exact impl_HeapSame.mono _ _ _ _ _ _ _)
      | (with_reducible exact impl_HeapValid.mono _ _ _ _)
      | (with_reducible exact impl_PutRight.mono _ _ _ _ _ _)
      | (with_reducible exact spec_DrawPutRight.mono _ _)
      | (with_reducible exact spec_PutRight.mono _ _ _ _ _ _)
      | (with_reducible exact LeO.refl _)
      | (with_reducible exact LeO.none _)
      | (with_reducible refine LeO.ite ?_ ?_)
      | (with_reducible refine LeO.bind ?_ (fun _ => ?_))
      | exact ih0 _ _ _ _ _ _ _ _ _ _ _ _ _ _
      | exact impl_HeapSame.mono _ _ _ _ _ _ _
      | exact impl_HeapValid.mono _ _ _ _
      | exact impl_PutRight.mono _ _ _ _ _ _
      | exact spec_DrawPutRight.mono _ _
      | exact spec_PutRight.mono _ _ _ _ _ _
      | exact LeO.none _
      | refine LeO.ite ?_ ?_
      | refine LeO.bind ?_ (fun _ => ?_)
def laws_FnPutRight.T8 : Bool × List (List Nat × List Nat) := (true, [([], []), ([], []), ([], []), ([2], [2]), ([], []), ([3, 4], [3, 4]), ([5], [5]), ([0, 1, 6], [0, 1, 6]), ([7], [7]), ([8], [8]), ([8], [8]), ([], []), ([11, 9, 7, 0, 1, 2, 3, 4, 5, 6, 7, 8, 9, 11], [9, 11]), ([10, 12, 0, 1, 2, 3, 4, 5, 6, 7, 8, 9, 10, 11, 12], [10])])
def laws_FnPutRight.B8 : List Nat := [0, 0, 0, 4, 0, 28, 60, 127, 255, 511, 511, 0, 3071, 8191]
theorem laws_FnPutRight.tab8 : rtab .any (opsOf Try.f3 8) = laws_FnPutRight.T8 := by kernel_rfl
theorem laws_FnPutRight.bits8 : waitsOk laws_FnPutRight.T8.2 laws_FnPutRight.B8 = true := by kernel_rfl
set_option maxHeartbeats 8000000 in
set_option maxRecDepth 100000 in
theorem laws_FnPutRight.calls (k : Nat) (A0 : Option Addr) (c0 : Nat) (l0 : List Int) (r : Bool) (w : World) (hr0 : Kd.C (Kd.int .u8) w A0 l0.length l0) (hc0 : l0.length ≤ c0) (h : laws_FnPutRight.f k l0 = some r) :
    Calls Try.prog 3 #[.slice A0 l0.length c0] w fun e w' => e = .returned (.bool r) ∧ Below w.heap.size w w' := by
  have hu25 := Try.underlying25
  have HR0 := am hr0
  have HC0 := am hc0
  clear hr0 hc0
  have HB := am (Below.refl w.heap.size w)
  have H : (if (l0.length : Int) > 1048576 then (some true) else ((spec_DrawPutRight.f k l0).bind fun bt334 => ((impl_PutRight.f k bt334.1 bt334.2.1 bt334.2.2.1 bt334.2.2.2.1 bt334.2.2.2.2).bind fun bt346 => ((spec_PutRight.f k bt334.1 bt334.2.1 bt334.2.2.1 bt334.2.2.2.1 bt334.2.2.2.2).bind fun bt357 => ((impl_HeapSame.f k bt346.1 bt346.2.1 bt346.2.2.1 bt357.1 bt357.2.1 bt357.2.2.1).bind fun t368 => (if t368 = true then (if (bt346.2.2.2 != bt357.2.2.2) = true then (laws_FnPutRight.j0 k bt334.2.2.2.1 bt334.2.2.2.2 bt346.2.2.2 bt357.2.2.2 true bt334.1 bt334.2.1 bt334.2.2.1 bt346.1 bt346.2.1 bt346.2.2.1 bt357.1 bt357.2.1 bt357.2.2.1) else (laws_FnPutRight.j0 k bt334.2.2.2.1 bt334.2.2.2.2 bt346.2.2.2 bt357.2.2.2 (!bt346.2.2.2) bt334.1 bt334.2.1 bt334.2.2.1 bt346.1 bt346.2.1 bt346.2.2.1 bt357.1 bt357.2.1 bt357.2.2.1)) else (laws_FnPutRight.j0 k bt334.2.2.2.1 bt334.2.2.2.2 bt346.2.2.2 bt357.2.2.2 true bt334.1 bt334.2.1 bt334.2.2.1 bt346.1 bt346.2.1 bt346.2.2.1 bt357.1 bt357.2.1 bt357.2.2.1))))))) = some r := h
  clear h
  by_cases c2 : (l0.length : Int) > 1048576
  · rw [if_pos c2] at H
    have c2b0 : decide (1048576 < (l0.length : Int)) = true := decide_eq_true c2
    have c2b1 : decide (1048576 < l0.length) = true := decide_eq_true (by omega)
    clear c2
    obtain rfl := Option.some.inj H
    go_enter Try.func3, Try.ntmps3
    go_wp2
    go_ret
    exact ⟨by first | rfl | (simp [errW_none, errW_some] <;> rfl) | (simp [*, errW_none, errW_some] <;> rfl), by repeat (first | (with_reducible first | exact HB.out | apply below_alloc | apply pw_below_drewN | apply below_drew1) | exact HB.out)⟩
  · rw [if_neg c2] at H
    have c2b0 : decide (1048576 < (l0.length : Int)) = false := decide_eq_false c2
    have c2b1 : decide (1048576 < l0.length) = false := decide_eq_false (by omega)
    clear c2
    replace H := Option.bind_eq_some_iff.mp H
    obtain ⟨⟨t334, t337, t340, t343, t344⟩, A30, H⟩ := H
    replace H : ((impl_PutRight.f k t334 t337 t340 t343 t344).bind fun bt346 => ((spec_PutRight.f k t334 t337 t340 t343 t344).bind fun bt357 => ((impl_HeapSame.f k bt346.1 bt346.2.1 bt346.2.2.1 bt357.1 bt357.2.1 bt357.2.2.1).bind fun t368 => (if t368 = true then (if (bt346.2.2.2 != bt357.2.2.2) = true then (laws_FnPutRight.j0 k t343 t344 bt346.2.2.2 bt357.2.2.2 true t334 t337 t340 bt346.1 bt346.2.1 bt346.2.2.1 bt357.1 bt357.2.1 bt357.2.2.1) else (laws_FnPutRight.j0 k t343 t344 bt346.2.2.2 bt357.2.2.2 (!bt346.2.2.2) t334 t337 t340 bt346.1 bt346.2.1 bt346.2.2.1 bt357.1 bt357.2.1 bt357.2.2.1)) else (laws_FnPutRight.j0 k t343 t344 bt346.2.2.2 bt357.2.2.2 true t334 t337 t340 bt346.1 bt346.2.1 bt346.2.2.1 bt357.1 bt357.2.1 bt357.2.2.1))))) = some r := H
    have A3 := am A30
    clear A30
    replace H := Option.bind_eq_some_iff.mp H
    obtain ⟨⟨t346, t349, t352, t355⟩, A40, H⟩ := H
    replace H : ((spec_PutRight.f k t334 t337 t340 t343 t344).bind fun bt357 => ((impl_HeapSame.f k t346 t349 t352 bt357.1 bt357.2.1 bt357.2.2.1).bind fun t368 => (if t368 = true then (if (t355 != bt357.2.2.2) = true then (laws_FnPutRight.j0 k t343 t344 t355 bt357.2.2.2 true t334 t337 t340 t346 t349 t352 bt357.1 bt357.2.1 bt357.2.2.1) else (laws_FnPutRight.j0 k t343 t344 t355 bt357.2.2.2 (!t355) t334 t337 t340 t346 t349 t352 bt357.1 bt357.2.1 bt357.2.2.1)) else (laws_FnPutRight.j0 k t343 t344 t355 bt357.2.2.2 true t334 t337 t340 t346 t349 t352 bt357.1 bt357.2.1 bt357.2.2.1)))) = some r := H
    have A4 := am A40
    clear A40
    replace H := Option.bind_eq_some_iff.mp H
    obtain ⟨⟨t357, t360, t363, t366⟩, A50, H⟩ := H
    replace H : ((impl_HeapSame.f k t346 t349 t352 t357 t360 t363).bind fun t368 => (if t368 = true then (if (t355 != t366) = true then (laws_FnPutRight.j0 k t343 t344 t355 t366 true t334 t337 t340 t346 t349 t352 t357 t360 t363) else (laws_FnPutRight.j0 k t343 t344 t355 t366 (!t355) t334 t337 t340 t346 t349 t352 t357 t360 t363)) else (laws_FnPutRight.j0 k t343 t344 t355 t366 true t334 t337 t340 t346 t349 t352 t357 t360 t363))) = some r := H
    have A5 := am A50
    clear A50
    have HC6 := am H
    clear H
    go_enter Try.func3, Try.ntmps3
    go_upto_region 6 with (first | ((with_reducible refine gate_callee (f := 13) rfl ?_); refine goesL_ (some 17) rfl rfl Try.func13 (by kernel_rfl) rfl #[.slice A0 l0.length c0] rfl (by (try simp only [List.map_toArray, List.map_cons, List.map_nil]); first | done | rfl | (simp only [List.length_drop, List.length_take]; rfl)) ?_; (with_reducible refine (spec_DrawPutRight.calls k _ _ l0 t334 t337 t340 t343 t344 _ ?side1 ?side2 A3.out).mono ?_); (case side1 => repeat (first | exact HR0.out | (with_reducible refine Kd.C_alloc ?_ _) | (with_reducible refine Kd.C_drewN ?_ _) | (with_reducible refine Kd.C_drew ?_))); (case side2 => exact HC0.out); rintro e w7 ⟨v335, v338, v341, rfl, ho0, ho1, ho2, hb⟩; refine ⟨_, rfl, ?_⟩; have n0_ := am (Kd.R_lower ho0 (below_size (bl HB.out))); have n1_ := am (Kd.R_lower ho1 (below_size (bl HB.out))); have n2_ := am (Kd.R_lower ho2 (below_size (bl HB.out))); have n3_ := am (below_step (bl HB.out) hb); clear HB; have HO336 := n0_; have HO339 := n1_; have HO342 := n2_; have HB := n3_; clear n0_ n1_ n2_ n3_; (try clear hb); (try clear hb2); (try clear hk); (try clear hi); (try clear ho0); (try clear ho1); (try clear ho2)) | ((with_reducible refine gate_dst (N := 3) rfl ?_); refine box_event ?hg (N := 3) ?hd (cs := #[.slice none 0 0, .slice none 0 0, .slice none 0 0]) (t := 25) ?hr ?_; (case hd => rfl); (case hg => rfl); (case hr => first | (go_simp; done) | (go_simp; rfl)); intro gb345 hg w8 hbox hb; have n0_ := am (Kd.R_below (rl HO336.out) hb); have n1_ := am (Kd.R_below (rl HO339.out) hb); have n2_ := am (Kd.R_below (rl HO342.out) hb); have n3_ := am (below_step (bl HB.out) hb); have n4_ := am (hbox); have n5_ := am ((by rw [hg]; exact (below_size (bl HB.out)) : w.heap.size ≤ gb345)); have n6_ := am ((by rw [hg]; exact (below_size (bl HB.out)) : w.heap.size ≤ gb345)); clear HO336; clear HO339; clear HO342; clear HB; have HO336 := n0_; have HO339 := n1_; have HO342 := n2_; have HB := n3_; have BK345 := n4_; have GW345 := n5_; have GE345 := n6_; clear n0_ n1_ n2_ n3_ n4_ n5_ n6_; clear hb hbox hg; obtain ⟨Ao9, co9, eo9⟩ := Kd.R_slice HO336.out; subst eo9; have hcz10_0 : w8.cell? ⟨gb345, 0, none⟩ = some (.slice none 0 0) := (blk_cell BK345.out 0).trans rfl; have hcz10_1 : w8.cell? ⟨gb345, 1, none⟩ = some (.slice none 0 0) := (blk_cell BK345.out 1).trans rfl; have hcz10_2 : w8.cell? ⟨gb345, 2, none⟩ = some (.slice none 0 0) := (blk_cell BK345.out 2).trans rfl; have hfz10_0 := blk_frozen BK345.out 0; have hfz10_1 := blk_frozen BK345.out 1; have hfz10_2 := blk_frozen BK345.out 2; obtain ⟨Ao11, co11, eo11⟩ := Kd.R_slice HO339.out; subst eo11; obtain ⟨Ao12, co12, eo12⟩ := Kd.R_slice HO342.out; subst eo12) | ((with_reducible refine gate_callee (f := 14) rfl ?_); refine goesL_ (some 25) rfl rfl Try.func14 (by kernel_rfl) rfl #[.agg #[.slice Ao9 t334.length co9, .slice Ao11 t337.length co11, .slice Ao12 t340.length co12], .int .i64 t343, .int .i64 t344] rfl (by (try simp only [List.map_toArray, List.map_cons, List.map_nil]); first | done | rfl | (simp only [List.length_drop, List.length_take]; rfl)) ?_; (with_reducible refine (impl_PutRight.calls k _ _ t334 _ _ t337 _ _ t340 t343 t344 t346 t349 t352 t355 _ ?side1 ?side2 ?side3 ?side4 ?side5 ?side6 A4.out).mono ?_); (case side1 => exact (Kd.R_reads' (rl ((far3 HO336.out BK345.out (by decide) (.slice Ao9 t334.length co9) (.slice Ao11 t337.length co11) (.slice Ao12 t340.length co12))))).2.2); (case side2 => exact (Kd.R_reads' HO336.out).2.1); (case side3 => exact (Kd.R_reads' (rl ((far3 HO339.out BK345.out (by decide) (.slice Ao9 t334.length co9) (.slice Ao11 t337.length co11) (.slice Ao12 t340.length co12))))).2.2); (case side4 => exact (Kd.R_reads' HO339.out).2.1); (case side5 => exact (Kd.R_reads' (rl ((far3 HO342.out BK345.out (by decide) (.slice Ao9 t334.length co9) (.slice Ao11 t337.length co11) (.slice Ao12 t340.length co12))))).2.2); (case side6 => exact (Kd.R_reads' HO342.out).2.1); rintro e w13 ⟨v347, v350, v353, rfl, ho0, ho1, ho2, hb⟩; refine ⟨_, rfl, ?_⟩; have n0_ := am (Kd.R_mono (Kd.R_told (Kd.R_told (Kd.R_told (Kd.R_old (rl ((far3 HO336.out BK345.out (by decide) (.slice Ao9 t334.length co9) (.slice Ao11 t337.length co11) (.slice Ao12 t340.length co12)))) hb) (Kd.R_base ho0)) (Kd.R_base ho1)) (Kd.R_base ho2)) (fun _ h_ => h_.1)); have n1_ := am (Kd.R_mono (Kd.R_told (Kd.R_told (Kd.R_told (Kd.R_old (rl ((far3 HO339.out BK345.out (by decide) (.slice Ao9 t334.length co9) (.slice Ao11 t337.length co11) (.slice Ao12 t340.length co12)))) hb) (Kd.R_base ho0)) (Kd.R_base ho1)) (Kd.R_base ho2)) (fun _ h_ => h_.1)); have n2_ := am (Kd.R_mono (Kd.R_told (Kd.R_told (Kd.R_told (Kd.R_old (rl ((far3 HO342.out BK345.out (by decide) (.slice Ao9 t334.length co9) (.slice Ao11 t337.length co11) (.slice Ao12 t340.length co12)))) hb) (Kd.R_base ho0)) (Kd.R_base ho1)) (Kd.R_base ho2)) (fun _ h_ => h_.1)); have n3_ := am (Kd.R_lower (Kd.R_new' (Kd.R_new' (Kd.R_new' ho0 (Kd.R_lt (rl ((far3 HO336.out BK345.out (by decide) (.slice Ao9 t334.length co9) (.slice Ao11 t337.length co11) (.slice Ao12 t340.length co12)))))) (Kd.R_lt (rl ((far3 HO339.out BK345.out (by decide) (.slice Ao9 t334.length co9) (.slice Ao11 t337.length co11) (.slice Ao12 t340.length co12)))))) (Kd.R_lt (rl ((far3 HO342.out BK345.out (by decide) (.slice Ao9 t334.length co9) (.slice Ao11 t337.length co11) (.slice Ao12 t340.length co12)))))) (below_size (by repeat (first | (with_reducible first | exact HB.out | apply below_alloc | apply pw_below_drewN | apply below_drew1 | refine below_set ?_ GE345.out) | exact HB.out)))); have n4_ := am (Kd.R_lower (Kd.R_new' (Kd.R_new' (Kd.R_new' ho1 (Kd.R_lt (rl ((far3 HO336.out BK345.out (by decide) (.slice Ao9 t334.length co9) (.slice Ao11 t337.length co11) (.slice Ao12 t340.length co12)))))) (Kd.R_lt (rl ((far3 HO339.out BK345.out (by decide) (.slice Ao9 t334.length co9) (.slice Ao11 t337.length co11) (.slice Ao12 t340.length co12)))))) (Kd.R_lt (rl ((far3 HO342.out BK345.out (by decide) (.slice Ao9 t334.length co9) (.slice Ao11 t337.length co11) (.slice Ao12 t340.length co12)))))) (below_size (by repeat (first | (with_reducible first | exact HB.out | apply below_alloc | apply pw_below_drewN | apply below_drew1 | refine below_set ?_ GE345.out) | exact HB.out)))); have n5_ := am (Kd.R_lower (Kd.R_new' (Kd.R_new' (Kd.R_new' ho2 (Kd.R_lt (rl ((far3 HO336.out BK345.out (by decide) (.slice Ao9 t334.length co9) (.slice Ao11 t337.length co11) (.slice Ao12 t340.length co12)))))) (Kd.R_lt (rl ((far3 HO339.out BK345.out (by decide) (.slice Ao9 t334.length co9) (.slice Ao11 t337.length co11) (.slice Ao12 t340.length co12)))))) (Kd.R_lt (rl ((far3 HO342.out BK345.out (by decide) (.slice Ao9 t334.length co9) (.slice Ao11 t337.length co11) (.slice Ao12 t340.length co12)))))) (below_size (by repeat (first | (with_reducible first | exact HB.out | apply below_alloc | apply pw_below_drewN | apply below_drew1 | refine below_set ?_ GE345.out) | exact HB.out)))); have n6_ := am (blk_below (g := gb345) (o := .cells #[.slice Ao9 t334.length co9, .slice Ao11 t337.length co11, .slice Ao12 t340.length co12] 25 (0, 0)) (by (with_reducible repeat (first | refine blk_drewN ?_ _ | refine blk_drew ?_ | refine blk_alloc ?_ _)); refine blk_put (cs := #[.slice Ao9 t334.length co9, .slice Ao11 t337.length co11, .slice none 0 0]) ?_ 2 _ rfl; (with_reducible repeat (first | refine blk_drewN ?_ _ | refine blk_drew ?_ | refine blk_alloc ?_ _)); refine blk_put (cs := #[.slice Ao9 t334.length co9, .slice none 0 0, .slice none 0 0]) ?_ 1 _ rfl; (with_reducible repeat (first | refine blk_drewN ?_ _ | refine blk_drew ?_ | refine blk_alloc ?_ _)); refine blk_put (cs := #[.slice none 0 0, .slice none 0 0, .slice none 0 0]) ?_ 0 _ rfl; (with_reducible repeat (first | refine blk_drewN ?_ _ | refine blk_drew ?_ | refine blk_alloc ?_ _)); exact BK345.out) hb); have n7_ := am (below_step (by repeat (first | (with_reducible first | exact HB.out | apply below_alloc | apply pw_below_drewN | apply below_drew1 | refine below_set ?_ GE345.out) | exact HB.out)) hb); clear HO336; clear HO339; clear HO342; clear BK345; clear HB; have HO336 := n0_; have HO339 := n1_; have HO342 := n2_; have HO348 := n3_; have HO351 := n4_; have HO354 := n5_; have BK345 := n6_; have HB := n7_; clear n0_ n1_ n2_ n3_ n4_ n5_ n6_ n7_; (try clear hb); (try clear hb2); (try clear hk); (try clear hi); (try clear ho0); (try clear ho1); (try clear ho2)) | ((with_reducible refine gate_dst (N := 6) rfl ?_); refine box_event ?hg (N := 6) ?hd (cs := #[.slice none 0 0, .slice none 0 0, .slice none 0 0]) (t := 25) ?hr ?_; (case hd => rfl); (case hg => rfl); (case hr => first | (go_simp; done) | (go_simp; rfl)); intro gb356 hg w14 hbox hb; have n0_ := am (Kd.R_below (rl HO336.out) hb); have n1_ := am (Kd.R_below (rl HO339.out) hb); have n2_ := am (Kd.R_below (rl HO342.out) hb); have n3_ := am (Kd.R_below (rl HO348.out) hb); have n4_ := am (Kd.R_below (rl HO351.out) hb); have n5_ := am (Kd.R_below (rl HO354.out) hb); have n6_ := am (blk_below (g := gb345) (o := .cells #[.slice Ao9 t334.length co9, .slice Ao11 t337.length co11, .slice Ao12 t340.length co12] 25 (0, 0)) (kl BK345.out) hb); have n7_ := am (below_step (by repeat (first | (with_reducible first | exact HB.out | apply below_alloc | apply pw_below_drewN | apply below_drew1 | refine below_set ?_ GE345.out) | exact HB.out)) hb); have n8_ := am (hbox); have n9_ := am ((by rw [hg]; exact (below_size (by repeat (first | (with_reducible first | exact HB.out | apply below_alloc | apply pw_below_drewN | apply below_drew1 | refine below_set ?_ GE345.out) | exact HB.out))) : w.heap.size ≤ gb356)); have n10_ := am ((by rw [hg]; exact (below_size (by repeat (first | (with_reducible first | exact HB.out | apply below_alloc | apply pw_below_drewN | apply below_drew1 | refine below_set ?_ GE345.out) | exact HB.out))) : w.heap.size ≤ gb356)); have n11_ := am ((by rw [hg]; exact Nat.ne_of_lt (blk_lt (g := gb345) (o := .cells #[.slice Ao9 t334.length co9, .slice Ao11 t337.length co11, .slice Ao12 t340.length co12] 25 (0, 0)) (kl BK345.out)) : gb345 ≠ gb356)); have n12_ := am ((by rw [hg]; exact Nat.ne_of_gt (blk_lt (g := gb345) (o := .cells #[.slice Ao9 t334.length co9, .slice Ao11 t337.length co11, .slice Ao12 t340.length co12] 25 (0, 0)) (kl BK345.out)) : gb356 ≠ gb345)); clear HO336; clear HO339; clear HO342; clear HO348; clear HO351; clear HO354; clear BK345; clear HB; have HO336 := n0_; have HO339 := n1_; have HO342 := n2_; have HO348 := n3_; have HO351 := n4_; have HO354 := n5_; have BK345 := n6_; have HB := n7_; have BK356 := n8_; have GW356 := n9_; have GE356 := n10_; have NB345_356 := n11_; have NB356_345 := n12_; clear n0_ n1_ n2_ n3_ n4_ n5_ n6_ n7_ n8_ n9_ n10_ n11_ n12_; clear hb hbox hg; obtain ⟨Ao15, co15, eo15⟩ := Kd.R_slice HO348.out; subst eo15; have hnb16 := NB356_345.out; have hnc16 := NB345_356.out; have hcz17_0 : w14.cell? ⟨gb356, 0, none⟩ = some (.slice none 0 0) := (blk_cell BK356.out 0).trans rfl; have hcz17_1 : w14.cell? ⟨gb356, 1, none⟩ = some (.slice none 0 0) := (blk_cell BK356.out 1).trans rfl; have hcz17_2 : w14.cell? ⟨gb356, 2, none⟩ = some (.slice none 0 0) := (blk_cell BK356.out 2).trans rfl; have hfz17_0 := blk_frozen BK356.out 0; have hfz17_1 := blk_frozen BK356.out 1; have hfz17_2 := blk_frozen BK356.out 2; obtain ⟨Ao18, co18, eo18⟩ := Kd.R_slice HO351.out; subst eo18; obtain ⟨Ao19, co19, eo19⟩ := Kd.R_slice HO354.out; subst eo19; have hcz20_0 : w14.cell? ⟨gb345, 0, none⟩ = some (.slice Ao9 t334.length co9) := (blk_cell BK345.out 0).trans rfl; have hcz20_1 : w14.cell? ⟨gb345, 1, none⟩ = some (.slice Ao11 t337.length co11) := (blk_cell BK345.out 1).trans rfl; have hcz20_2 : w14.cell? ⟨gb345, 2, none⟩ = some (.slice Ao12 t340.length co12) := (blk_cell BK345.out 2).trans rfl; have hfz20_0 := blk_frozen BK345.out 0; have hfz20_1 := blk_frozen BK345.out 1; have hfz20_2 := blk_frozen BK345.out 2) | ((with_reducible refine gate_callee (f := 15) rfl ?_); refine goesL_ (some 32) rfl rfl Try.func15 (by kernel_rfl) rfl #[.agg #[.slice Ao9 t334.length co9, .slice Ao11 t337.length co11, .slice Ao12 t340.length co12], .int .i64 t343, .int .i64 t344] rfl (by (try simp only [List.map_toArray, List.map_cons, List.map_nil]); first | done | rfl | (simp only [List.length_drop, List.length_take]; rfl)) ?_; (with_reducible refine (spec_PutRight.calls k _ _ t334 _ _ t337 _ _ t340 t343 t344 t357 t360 t363 t366 _ ?side1 ?side2 ?side3 ?side4 ?side5 ?side6 A5.out).mono ?_); (case side1 => exact (Kd.R_reads' (rl ((far3 HO336.out BK356.out (by decide) (.slice Ao15 t346.length co15) (.slice Ao18 t349.length co18) (.slice Ao19 t352.length co19))))).2.2); (case side2 => exact (Kd.R_reads' HO336.out).2.1); (case side3 => exact (Kd.R_reads' (rl ((far3 HO339.out BK356.out (by decide) (.slice Ao15 t346.length co15) (.slice Ao18 t349.length co18) (.slice Ao19 t352.length co19))))).2.2); (case side4 => exact (Kd.R_reads' HO339.out).2.1); (case side5 => exact (Kd.R_reads' (rl ((far3 HO342.out BK356.out (by decide) (.slice Ao15 t346.length co15) (.slice Ao18 t349.length co18) (.slice Ao19 t352.length co19))))).2.2); (case side6 => exact (Kd.R_reads' HO342.out).2.1); rintro e w21 ⟨v358, v361, v364, rfl, ho0, ho1, ho2, hb⟩; refine ⟨_, rfl, ?_⟩; have n0_ := am (Kd.R_mono (Kd.R_told (Kd.R_told (Kd.R_told (Kd.R_old (rl ((far3 HO336.out BK356.out (by decide) (.slice Ao15 t346.length co15) (.slice Ao18 t349.length co18) (.slice Ao19 t352.length co19)))) hb) (Kd.R_base ho0)) (Kd.R_base ho1)) (Kd.R_base ho2)) (fun _ h_ => h_.1)); have n1_ := am (Kd.R_mono (Kd.R_told (Kd.R_told (Kd.R_told (Kd.R_old (rl ((far3 HO339.out BK356.out (by decide) (.slice Ao15 t346.length co15) (.slice Ao18 t349.length co18) (.slice Ao19 t352.length co19)))) hb) (Kd.R_base ho0)) (Kd.R_base ho1)) (Kd.R_base ho2)) (fun _ h_ => h_.1)); have n2_ := am (Kd.R_mono (Kd.R_told (Kd.R_told (Kd.R_told (Kd.R_old (rl ((far3 HO342.out BK356.out (by decide) (.slice Ao15 t346.length co15) (.slice Ao18 t349.length co18) (.slice Ao19 t352.length co19)))) hb) (Kd.R_base ho0)) (Kd.R_base ho1)) (Kd.R_base ho2)) (fun _ h_ => h_.1)); have n3_ := am (Kd.R_mono (Kd.R_told (Kd.R_told (Kd.R_told (Kd.R_old (rl ((far3 HO348.out BK356.out (by decide) (.slice Ao15 t346.length co15) (.slice Ao18 t349.length co18) (.slice Ao19 t352.length co19)))) hb) (Kd.R_base ho0)) (Kd.R_base ho1)) (Kd.R_base ho2)) (fun _ h_ => h_.1)); have n4_ := am (Kd.R_mono (Kd.R_told (Kd.R_told (Kd.R_told (Kd.R_old (rl ((far3 HO351.out BK356.out (by decide) (.slice Ao15 t346.length co15) (.slice Ao18 t349.length co18) (.slice Ao19 t352.length co19)))) hb) (Kd.R_base ho0)) (Kd.R_base ho1)) (Kd.R_base ho2)) (fun _ h_ => h_.1)); have n5_ := am (Kd.R_mono (Kd.R_told (Kd.R_told (Kd.R_told (Kd.R_old (rl ((far3 HO354.out BK356.out (by decide) (.slice Ao15 t346.length co15) (.slice Ao18 t349.length co18) (.slice Ao19 t352.length co19)))) hb) (Kd.R_base ho0)) (Kd.R_base ho1)) (Kd.R_base ho2)) (fun _ h_ => h_.1)); have n6_ := am (Kd.R_lower (Kd.R_new' (Kd.R_new' (Kd.R_new' (Kd.R_new' (Kd.R_new' (Kd.R_new' ho0 (Kd.R_lt (rl ((far3 HO336.out BK356.out (by decide) (.slice Ao15 t346.length co15) (.slice Ao18 t349.length co18) (.slice Ao19 t352.length co19)))))) (Kd.R_lt (rl ((far3 HO339.out BK356.out (by decide) (.slice Ao15 t346.length co15) (.slice Ao18 t349.length co18) (.slice Ao19 t352.length co19)))))) (Kd.R_lt (rl ((far3 HO342.out BK356.out (by decide) (.slice Ao15 t346.length co15) (.slice Ao18 t349.length co18) (.slice Ao19 t352.length co19)))))) (Kd.R_lt (rl ((far3 HO348.out BK356.out (by decide) (.slice Ao15 t346.length co15) (.slice Ao18 t349.length co18) (.slice Ao19 t352.length co19)))))) (Kd.R_lt (rl ((far3 HO351.out BK356.out (by decide) (.slice Ao15 t346.length co15) (.slice Ao18 t349.length co18) (.slice Ao19 t352.length co19)))))) (Kd.R_lt (rl ((far3 HO354.out BK356.out (by decide) (.slice Ao15 t346.length co15) (.slice Ao18 t349.length co18) (.slice Ao19 t352.length co19)))))) (below_size (by repeat (first | (with_reducible first | exact HB.out | apply below_alloc | apply pw_below_drewN | apply below_drew1 | refine below_set ?_ GE345.out | refine below_set ?_ GE356.out) | exact HB.out)))); have n7_ := am (Kd.R_lower (Kd.R_new' (Kd.R_new' (Kd.R_new' (Kd.R_new' (Kd.R_new' (Kd.R_new' ho1 (Kd.R_lt (rl ((far3 HO336.out BK356.out (by decide) (.slice Ao15 t346.length co15) (.slice Ao18 t349.length co18) (.slice Ao19 t352.length co19)))))) (Kd.R_lt (rl ((far3 HO339.out BK356.out (by decide) (.slice Ao15 t346.length co15) (.slice Ao18 t349.length co18) (.slice Ao19 t352.length co19)))))) (Kd.R_lt (rl ((far3 HO342.out BK356.out (by decide) (.slice Ao15 t346.length co15) (.slice Ao18 t349.length co18) (.slice Ao19 t352.length co19)))))) (Kd.R_lt (rl ((far3 HO348.out BK356.out (by decide) (.slice Ao15 t346.length co15) (.slice Ao18 t349.length co18) (.slice Ao19 t352.length co19)))))) (Kd.R_lt (rl ((far3 HO351.out BK356.out (by decide) (.slice Ao15 t346.length co15) (.slice Ao18 t349.length co18) (.slice Ao19 t352.length co19)))))) (Kd.R_lt (rl ((far3 HO354.out BK356.out (by decide) (.slice Ao15 t346.length co15) (.slice Ao18 t349.length co18) (.slice Ao19 t352.length co19)))))) (below_size (by repeat (first | (with_reducible first | exact HB.out | apply below_alloc | apply pw_below_drewN | apply below_drew1 | refine below_set ?_ GE345.out | refine below_set ?_ GE356.out) | exact HB.out)))); have n8_ := am (Kd.R_lower (Kd.R_new' (Kd.R_new' (Kd.R_new' (Kd.R_new' (Kd.R_new' (Kd.R_new' ho2 (Kd.R_lt (rl ((far3 HO336.out BK356.out (by decide) (.slice Ao15 t346.length co15) (.slice Ao18 t349.length co18) (.slice Ao19 t352.length co19)))))) (Kd.R_lt (rl ((far3 HO339.out BK356.out (by decide) (.slice Ao15 t346.length co15) (.slice Ao18 t349.length co18) (.slice Ao19 t352.length co19)))))) (Kd.R_lt (rl ((far3 HO342.out BK356.out (by decide) (.slice Ao15 t346.length co15) (.slice Ao18 t349.length co18) (.slice Ao19 t352.length co19)))))) (Kd.R_lt (rl ((far3 HO348.out BK356.out (by decide) (.slice Ao15 t346.length co15) (.slice Ao18 t349.length co18) (.slice Ao19 t352.length co19)))))) (Kd.R_lt (rl ((far3 HO351.out BK356.out (by decide) (.slice Ao15 t346.length co15) (.slice Ao18 t349.length co18) (.slice Ao19 t352.length co19)))))) (Kd.R_lt (rl ((far3 HO354.out BK356.out (by decide) (.slice Ao15 t346.length co15) (.slice Ao18 t349.length co18) (.slice Ao19 t352.length co19)))))) (below_size (by repeat (first | (with_reducible first | exact HB.out | apply below_alloc | apply pw_below_drewN | apply below_drew1 | refine below_set ?_ GE345.out | refine below_set ?_ GE356.out) | exact HB.out)))); have n9_ := am (blk_below (g := gb345) (o := .cells #[.slice Ao9 t334.length co9, .slice Ao11 t337.length co11, .slice Ao12 t340.length co12] 25 (0, 0)) (by (with_reducible repeat (first | refine blk_drewN ?_ _ | refine blk_drew ?_ | refine blk_alloc ?_ _)); refine blk_far ?_ NB345_356.out _; (with_reducible repeat (first | refine blk_drewN ?_ _ | refine blk_drew ?_ | refine blk_alloc ?_ _)); refine blk_far ?_ NB345_356.out _; (with_reducible repeat (first | refine blk_drewN ?_ _ | refine blk_drew ?_ | refine blk_alloc ?_ _)); refine blk_far ?_ NB345_356.out _; (with_reducible repeat (first | refine blk_drewN ?_ _ | refine blk_drew ?_ | refine blk_alloc ?_ _)); exact BK345.out) hb); have n10_ := am (blk_below (g := gb356) (o := .cells #[.slice Ao15 t346.length co15, .slice Ao18 t349.length co18, .slice Ao19 t352.length co19] 25 (0, 0)) (by (with_reducible repeat (first | refine blk_drewN ?_ _ | refine blk_drew ?_ | refine blk_alloc ?_ _)); refine blk_put (cs := #[.slice Ao15 t346.length co15, .slice Ao18 t349.length co18, .slice none 0 0]) ?_ 2 _ rfl; (with_reducible repeat (first | refine blk_drewN ?_ _ | refine blk_drew ?_ | refine blk_alloc ?_ _)); refine blk_put (cs := #[.slice Ao15 t346.length co15, .slice none 0 0, .slice none 0 0]) ?_ 1 _ rfl; (with_reducible repeat (first | refine blk_drewN ?_ _ | refine blk_drew ?_ | refine blk_alloc ?_ _)); refine blk_put (cs := #[.slice none 0 0, .slice none 0 0, .slice none 0 0]) ?_ 0 _ rfl; (with_reducible repeat (first | refine blk_drewN ?_ _ | refine blk_drew ?_ | refine blk_alloc ?_ _)); exact BK356.out) hb); have n11_ := am (below_step (by repeat (first | (with_reducible first | exact HB.out | apply below_alloc | apply pw_below_drewN | apply below_drew1 | refine below_set ?_ GE345.out | refine below_set ?_ GE356.out) | exact HB.out)) hb); clear HO336; clear HO339; clear HO342; clear HO348; clear HO351; clear HO354; clear BK345; clear BK356; clear HB; have HO336 := n0_; have HO339 := n1_; have HO342 := n2_; have HO348 := n3_; have HO351 := n4_; have HO354 := n5_; have HO359 := n6_; have HO362 := n7_; have HO365 := n8_; have BK345 := n9_; have BK356 := n10_; have HB := n11_; clear n0_ n1_ n2_ n3_ n4_ n5_ n6_ n7_ n8_ n9_ n10_ n11_; (try clear hb); (try clear hb2); (try clear hk); (try clear hi); (try clear ho0); (try clear ho1); (try clear ho2)) | ((with_reducible refine gate_dst (N := 8) rfl ?_); refine box_event ?hg (N := 8) ?hd (cs := #[.slice none 0 0, .slice none 0 0, .slice none 0 0]) (t := 25) ?hr ?_; (case hd => rfl); (case hg => rfl); (case hr => first | (go_simp; done) | (go_simp; rfl)); intro gb367 hg w22 hbox hb; have n0_ := am (Kd.R_below (rl HO336.out) hb); have n1_ := am (Kd.R_below (rl HO339.out) hb); have n2_ := am (Kd.R_below (rl HO342.out) hb); have n3_ := am (Kd.R_below (rl HO348.out) hb); have n4_ := am (Kd.R_below (rl HO351.out) hb); have n5_ := am (Kd.R_below (rl HO354.out) hb); have n6_ := am (Kd.R_below (rl HO359.out) hb); have n7_ := am (Kd.R_below (rl HO362.out) hb); have n8_ := am (Kd.R_below (rl HO365.out) hb); have n9_ := am (blk_below (g := gb345) (o := .cells #[.slice Ao9 t334.length co9, .slice Ao11 t337.length co11, .slice Ao12 t340.length co12] 25 (0, 0)) (kl BK345.out) hb); have n10_ := am (blk_below (g := gb356) (o := .cells #[.slice Ao15 t346.length co15, .slice Ao18 t349.length co18, .slice Ao19 t352.length co19] 25 (0, 0)) (kl BK356.out) hb); have n11_ := am (below_step (by repeat (first | (with_reducible first | exact HB.out | apply below_alloc | apply pw_below_drewN | apply below_drew1 | refine below_set ?_ GE345.out | refine below_set ?_ GE356.out) | exact HB.out)) hb); have n12_ := am (hbox); have n13_ := am ((by rw [hg]; exact (below_size (by repeat (first | (with_reducible first | exact HB.out | apply below_alloc | apply pw_below_drewN | apply below_drew1 | refine below_set ?_ GE345.out | refine below_set ?_ GE356.out) | exact HB.out))) : w.heap.size ≤ gb367)); have n14_ := am ((by rw [hg]; exact (below_size (by repeat (first | (with_reducible first | exact HB.out | apply below_alloc | apply pw_below_drewN | apply below_drew1 | refine below_set ?_ GE345.out | refine below_set ?_ GE356.out) | exact HB.out))) : w.heap.size ≤ gb367)); have n15_ := am ((by rw [hg]; exact Nat.ne_of_lt (blk_lt (g := gb345) (o := .cells #[.slice Ao9 t334.length co9, .slice Ao11 t337.length co11, .slice Ao12 t340.length co12] 25 (0, 0)) (kl BK345.out)) : gb345 ≠ gb367)); have n16_ := am ((by rw [hg]; exact Nat.ne_of_gt (blk_lt (g := gb345) (o := .cells #[.slice Ao9 t334.length co9, .slice Ao11 t337.length co11, .slice Ao12 t340.length co12] 25 (0, 0)) (kl BK345.out)) : gb367 ≠ gb345)); have n17_ := am ((by rw [hg]; exact Nat.ne_of_lt (blk_lt (g := gb356) (o := .cells #[.slice Ao15 t346.length co15, .slice Ao18 t349.length co18, .slice Ao19 t352.length co19] 25 (0, 0)) (kl BK356.out)) : gb356 ≠ gb367)); have n18_ := am ((by rw [hg]; exact Nat.ne_of_gt (blk_lt (g := gb356) (o := .cells #[.slice Ao15 t346.length co15, .slice Ao18 t349.length co18, .slice Ao19 t352.length co19] 25 (0, 0)) (kl BK356.out)) : gb367 ≠ gb356)); clear HO336; clear HO339; clear HO342; clear HO348; clear HO351; clear HO354; clear HO359; clear HO362; clear HO365; clear BK345; clear BK356; clear HB; have HO336 := n0_; have HO339 := n1_; have HO342 := n2_; have HO348 := n3_; have HO351 := n4_; have HO354 := n5_; have HO359 := n6_; have HO362 := n7_; have HO365 := n8_; have BK345 := n9_; have BK356 := n10_; have HB := n11_; have BK367 := n12_; have GW367 := n13_; have GE367 := n14_; have NB345_367 := n15_; have NB367_345 := n16_; have NB356_367 := n17_; have NB367_356 := n18_; clear n0_ n1_ n2_ n3_ n4_ n5_ n6_ n7_ n8_ n9_ n10_ n11_ n12_ n13_ n14_ n15_ n16_ n17_ n18_; clear hb hbox hg; obtain ⟨Ao23, co23, eo23⟩ := Kd.R_slice HO359.out; subst eo23; have hnb24 := NB367_345.out; have hnc24 := NB345_367.out; have hnb25 := NB367_356.out; have hnc25 := NB356_367.out; have hcz26_0 : w22.cell? ⟨gb367, 0, none⟩ = some (.slice none 0 0) := (blk_cell BK367.out 0).trans rfl; have hcz26_1 : w22.cell? ⟨gb367, 1, none⟩ = some (.slice none 0 0) := (blk_cell BK367.out 1).trans rfl; have hcz26_2 : w22.cell? ⟨gb367, 2, none⟩ = some (.slice none 0 0) := (blk_cell BK367.out 2).trans rfl; have hfz26_0 := blk_frozen BK367.out 0; have hfz26_1 := blk_frozen BK367.out 1; have hfz26_2 := blk_frozen BK367.out 2; obtain ⟨Ao27, co27, eo27⟩ := Kd.R_slice HO362.out; subst eo27; obtain ⟨Ao28, co28, eo28⟩ := Kd.R_slice HO365.out; subst eo28))
    (try simp only [Act.put, List.setIfInBounds_toArray, List.set_cons_zero, List.set_cons_succ])
    go_cut [47] (fun v47 wc => ∃ (kq : Nat) (x47_5 : Bool), v47 = .bool x47_5 ∧ Aside0 (laws_FnPutRight.j0 kq t343 t344 t355 t366 x47_5 t334 t337 t340 t346 t349 t352 t357 t360 t363 = some r) ∧ Aside0 (kq ≤ k) ∧ Aside0 (Kd.R (Kd.int .i64) 3 wc w.heap.size (fun k_ => some k_ ≠ ((.slice Ao11 t337.length co11) : Value).ownBlock ∧ some k_ ≠ ((.slice Ao12 t340.length co12) : Value).ownBlock ∧ some k_ ≠ ((.slice Ao15 t346.length co15) : Value).ownBlock ∧ some k_ ≠ ((.slice Ao18 t349.length co18) : Value).ownBlock ∧ some k_ ≠ ((.slice Ao19 t352.length co19) : Value).ownBlock ∧ some k_ ≠ ((.slice Ao23 t357.length co23) : Value).ownBlock ∧ some k_ ≠ ((.slice Ao27 t360.length co27) : Value).ownBlock ∧ some k_ ≠ ((.slice Ao28 t363.length co28) : Value).ownBlock) (.slice Ao9 t334.length co9) t334) ∧ Aside0 (Kd.R (Kd.int .i64) 3 wc w.heap.size (fun k_ => some k_ ≠ ((.slice Ao9 t334.length co9) : Value).ownBlock ∧ some k_ ≠ ((.slice Ao12 t340.length co12) : Value).ownBlock ∧ some k_ ≠ ((.slice Ao15 t346.length co15) : Value).ownBlock ∧ some k_ ≠ ((.slice Ao18 t349.length co18) : Value).ownBlock ∧ some k_ ≠ ((.slice Ao19 t352.length co19) : Value).ownBlock ∧ some k_ ≠ ((.slice Ao23 t357.length co23) : Value).ownBlock ∧ some k_ ≠ ((.slice Ao27 t360.length co27) : Value).ownBlock ∧ some k_ ≠ ((.slice Ao28 t363.length co28) : Value).ownBlock) (.slice Ao11 t337.length co11) t337) ∧ Aside0 (Kd.R (Kd.int .i64) 3 wc w.heap.size (fun k_ => some k_ ≠ ((.slice Ao9 t334.length co9) : Value).ownBlock ∧ some k_ ≠ ((.slice Ao11 t337.length co11) : Value).ownBlock ∧ some k_ ≠ ((.slice Ao15 t346.length co15) : Value).ownBlock ∧ some k_ ≠ ((.slice Ao18 t349.length co18) : Value).ownBlock ∧ some k_ ≠ ((.slice Ao19 t352.length co19) : Value).ownBlock ∧ some k_ ≠ ((.slice Ao23 t357.length co23) : Value).ownBlock ∧ some k_ ≠ ((.slice Ao27 t360.length co27) : Value).ownBlock ∧ some k_ ≠ ((.slice Ao28 t363.length co28) : Value).ownBlock) (.slice Ao12 t340.length co12) t340) ∧ Aside0 (Kd.R (Kd.int .i64) 3 wc w.heap.size (fun k_ => some k_ ≠ ((.slice Ao9 t334.length co9) : Value).ownBlock ∧ some k_ ≠ ((.slice Ao11 t337.length co11) : Value).ownBlock ∧ some k_ ≠ ((.slice Ao12 t340.length co12) : Value).ownBlock ∧ some k_ ≠ ((.slice Ao18 t349.length co18) : Value).ownBlock ∧ some k_ ≠ ((.slice Ao19 t352.length co19) : Value).ownBlock ∧ some k_ ≠ ((.slice Ao23 t357.length co23) : Value).ownBlock ∧ some k_ ≠ ((.slice Ao27 t360.length co27) : Value).ownBlock ∧ some k_ ≠ ((.slice Ao28 t363.length co28) : Value).ownBlock) (.slice Ao15 t346.length co15) t346) ∧ Aside0 (Kd.R (Kd.int .i64) 3 wc w.heap.size (fun k_ => some k_ ≠ ((.slice Ao9 t334.length co9) : Value).ownBlock ∧ some k_ ≠ ((.slice Ao11 t337.length co11) : Value).ownBlock ∧ some k_ ≠ ((.slice Ao12 t340.length co12) : Value).ownBlock ∧ some k_ ≠ ((.slice Ao15 t346.length co15) : Value).ownBlock ∧ some k_ ≠ ((.slice Ao19 t352.length co19) : Value).ownBlock ∧ some k_ ≠ ((.slice Ao23 t357.length co23) : Value).ownBlock ∧ some k_ ≠ ((.slice Ao27 t360.length co27) : Value).ownBlock ∧ some k_ ≠ ((.slice Ao28 t363.length co28) : Value).ownBlock) (.slice Ao18 t349.length co18) t349) ∧ Aside0 (Kd.R (Kd.int .i64) 3 wc w.heap.size (fun k_ => some k_ ≠ ((.slice Ao9 t334.length co9) : Value).ownBlock ∧ some k_ ≠ ((.slice Ao11 t337.length co11) : Value).ownBlock ∧ some k_ ≠ ((.slice Ao12 t340.length co12) : Value).ownBlock ∧ some k_ ≠ ((.slice Ao15 t346.length co15) : Value).ownBlock ∧ some k_ ≠ ((.slice Ao18 t349.length co18) : Value).ownBlock ∧ some k_ ≠ ((.slice Ao23 t357.length co23) : Value).ownBlock ∧ some k_ ≠ ((.slice Ao27 t360.length co27) : Value).ownBlock ∧ some k_ ≠ ((.slice Ao28 t363.length co28) : Value).ownBlock) (.slice Ao19 t352.length co19) t352) ∧ Aside0 (Kd.R (Kd.int .i64) 3 wc w.heap.size (fun k_ => some k_ ≠ ((.slice Ao9 t334.length co9) : Value).ownBlock ∧ some k_ ≠ ((.slice Ao11 t337.length co11) : Value).ownBlock ∧ some k_ ≠ ((.slice Ao12 t340.length co12) : Value).ownBlock ∧ some k_ ≠ ((.slice Ao15 t346.length co15) : Value).ownBlock ∧ some k_ ≠ ((.slice Ao18 t349.length co18) : Value).ownBlock ∧ some k_ ≠ ((.slice Ao19 t352.length co19) : Value).ownBlock ∧ some k_ ≠ ((.slice Ao27 t360.length co27) : Value).ownBlock ∧ some k_ ≠ ((.slice Ao28 t363.length co28) : Value).ownBlock) (.slice Ao23 t357.length co23) t357) ∧ Aside0 (Kd.R (Kd.int .i64) 3 wc w.heap.size (fun k_ => some k_ ≠ ((.slice Ao9 t334.length co9) : Value).ownBlock ∧ some k_ ≠ ((.slice Ao11 t337.length co11) : Value).ownBlock ∧ some k_ ≠ ((.slice Ao12 t340.length co12) : Value).ownBlock ∧ some k_ ≠ ((.slice Ao15 t346.length co15) : Value).ownBlock ∧ some k_ ≠ ((.slice Ao18 t349.length co18) : Value).ownBlock ∧ some k_ ≠ ((.slice Ao19 t352.length co19) : Value).ownBlock ∧ some k_ ≠ ((.slice Ao23 t357.length co23) : Value).ownBlock ∧ some k_ ≠ ((.slice Ao28 t363.length co28) : Value).ownBlock) (.slice Ao27 t360.length co27) t360) ∧ Aside0 (Kd.R (Kd.int .i64) 3 wc w.heap.size (fun k_ => some k_ ≠ ((.slice Ao9 t334.length co9) : Value).ownBlock ∧ some k_ ≠ ((.slice Ao11 t337.length co11) : Value).ownBlock ∧ some k_ ≠ ((.slice Ao12 t340.length co12) : Value).ownBlock ∧ some k_ ≠ ((.slice Ao15 t346.length co15) : Value).ownBlock ∧ some k_ ≠ ((.slice Ao18 t349.length co18) : Value).ownBlock ∧ some k_ ≠ ((.slice Ao19 t352.length co19) : Value).ownBlock ∧ some k_ ≠ ((.slice Ao23 t357.length co23) : Value).ownBlock ∧ some k_ ≠ ((.slice Ao27 t360.length co27) : Value).ownBlock) (.slice Ao28 t363.length co28) t363) ∧ Aside0 (wc.heap[gb345]? = some (.cells #[(.slice Ao9 t334.length co9), (.slice Ao11 t337.length co11), (.slice Ao12 t340.length co12)] 25 (0, 0))) ∧ Aside0 (wc.heap[gb356]? = some (.cells #[(.slice Ao15 t346.length co15), (.slice Ao18 t349.length co18), (.slice Ao19 t352.length co19)] 25 (0, 0))) ∧ Aside0 (wc.heap[gb367]? = some (.cells #[(.slice Ao23 t357.length co23), (.slice Ao27 t360.length co27), (.slice Ao28 t363.length co28)] 25 (0, 0))) ∧ Aside0 (Below w.heap.size w wc))
    case first =>
      have H := HC6.out
      clear HC6
      replace H := Option.bind_eq_some_iff.mp H
      obtain ⟨t368, A290, H⟩ := H
      replace H : (if t368 = true then (if (t355 != t366) = true then (laws_FnPutRight.j0 k t343 t344 t355 t366 true t334 t337 t340 t346 t349 t352 t357 t360 t363) else (laws_FnPutRight.j0 k t343 t344 t355 t366 (!t355) t334 t337 t340 t346 t349 t352 t357 t360 t363)) else (laws_FnPutRight.j0 k t343 t344 t355 t366 true t334 t337 t340 t346 t349 t352 t357 t360 t363)) = some r := H
      have A29 := am A290
      clear A290
      by_cases c30 : t368 = true
      · subst c30
        have H1 : (if (t355 != t366) = true then (laws_FnPutRight.j0 k t343 t344 t355 t366 true t334 t337 t340 t346 t349 t352 t357 t360 t363) else (laws_FnPutRight.j0 k t343 t344 t355 t366 (!t355) t334 t337 t340 t346 t349 t352 t357 t360 t363)) = some r := by rw [if_pos rfl] at H; exact H
        clear H
        have H := H1
        clear H1
        by_cases c31 : (t355 != t366) = true
        · rw [if_pos c31] at H
          have c31b0 : (t355 != t366) = true := c31
          (try (have c31b1 : decide (t355 = t366) = false := by simpa using c31))
          (try (have c31b2 : (t355 == t366) = false := by simpa using c31))
          (try (have c31b3 : ¬ (t355 = t366) := by simpa using c31))
          clear c31
          (first | rw [c31b0] | (simp only [i64_w, i32_w]; rw [c31b0]) | skip)
          have H' := am H
          clear H
          have hnb32 := NB356_345.out
          have hnc32 := NB345_356.out
          have hnb33 := NB356_367.out
          have hnc33 := NB367_356.out
          have hcz34_0 : w22.cell? ⟨gb356, 0, none⟩ = some (.slice Ao15 t346.length co15) := (blk_cell BK356.out 0).trans rfl
          have hcz34_1 : w22.cell? ⟨gb356, 1, none⟩ = some (.slice Ao18 t349.length co18) := (blk_cell BK356.out 1).trans rfl
          have hcz34_2 : w22.cell? ⟨gb356, 2, none⟩ = some (.slice Ao19 t352.length co19) := (blk_cell BK356.out 2).trans rfl
          have hfz34_0 := blk_frozen BK356.out 0
          have hfz34_1 := blk_frozen BK356.out 1
          have hfz34_2 := blk_frozen BK356.out 2
          have hnb35 := NB367_345.out
          have hnc35 := NB345_367.out
          have hcz36_0 : w22.cell? ⟨gb367, 0, none⟩ = some (.slice none 0 0) := (blk_cell BK367.out 0).trans rfl
          have hcz36_1 : w22.cell? ⟨gb367, 1, none⟩ = some (.slice none 0 0) := (blk_cell BK367.out 1).trans rfl
          have hcz36_2 : w22.cell? ⟨gb367, 2, none⟩ = some (.slice none 0 0) := (blk_cell BK367.out 2).trans rfl
          have hfz36_0 := blk_frozen BK367.out 0
          have hfz36_1 := blk_frozen BK367.out 1
          have hfz36_2 := blk_frozen BK367.out 2
          go_wp2_with (first | ((with_reducible refine gate_callee (f := 16) rfl ?_); refine goesL_ (some 37) rfl rfl Try.func16 (by kernel_rfl) rfl #[.agg #[.slice Ao15 t346.length co15, .slice Ao18 t349.length co18, .slice Ao19 t352.length co19], .agg #[.slice Ao23 t357.length co23, .slice Ao27 t360.length co27, .slice Ao28 t363.length co28]] rfl (by (try simp only [List.map_toArray, List.map_cons, List.map_nil]); first | done | rfl | (simp only [List.length_drop, List.length_take]; rfl)) ?_; (with_reducible refine (impl_HeapSame.calls k _ _ t346 _ _ t349 _ _ t352 _ _ t357 _ _ t360 _ _ t363 true _ ?side1 ?side2 ?side3 ?side4 ?side5 ?side6 ?side7 ?side8 ?side9 ?side10 ?side11 ?side12 A29.out).mono ?_); (case side1 => exact (Kd.R_reads' (rl ((far3 HO348.out BK367.out (by decide) (.slice Ao23 t357.length co23) (.slice Ao27 t360.length co27) (.slice Ao28 t363.length co28))))).2.2); (case side2 => exact (Kd.R_reads' HO348.out).2.1); (case side3 => exact (Kd.R_reads' (rl ((far3 HO351.out BK367.out (by decide) (.slice Ao23 t357.length co23) (.slice Ao27 t360.length co27) (.slice Ao28 t363.length co28))))).2.2); (case side4 => exact (Kd.R_reads' HO351.out).2.1); (case side5 => exact (Kd.R_reads' (rl ((far3 HO354.out BK367.out (by decide) (.slice Ao23 t357.length co23) (.slice Ao27 t360.length co27) (.slice Ao28 t363.length co28))))).2.2); (case side6 => exact (Kd.R_reads' HO354.out).2.1); (case side7 => exact (Kd.R_reads' (rl ((far3 HO359.out BK367.out (by decide) (.slice Ao23 t357.length co23) (.slice Ao27 t360.length co27) (.slice Ao28 t363.length co28))))).2.2); (case side8 => exact (Kd.R_reads' HO359.out).2.1); (case side9 => exact (Kd.R_reads' (rl ((far3 HO362.out BK367.out (by decide) (.slice Ao23 t357.length co23) (.slice Ao27 t360.length co27) (.slice Ao28 t363.length co28))))).2.2); (case side10 => exact (Kd.R_reads' HO362.out).2.1); (case side11 => exact (Kd.R_reads' (rl ((far3 HO365.out BK367.out (by decide) (.slice Ao23 t357.length co23) (.slice Ao27 t360.length co27) (.slice Ao28 t363.length co28))))).2.2); (case side12 => exact (Kd.R_reads' HO365.out).2.1); rintro e w37 ⟨rfl, hb⟩; refine ⟨_, rfl, ?_⟩; have n0_ := am (Kd.R_below (rl ((far3 HO336.out BK367.out (by decide) (.slice Ao23 t357.length co23) (.slice Ao27 t360.length co27) (.slice Ao28 t363.length co28)))) hb); have n1_ := am (Kd.R_below (rl ((far3 HO339.out BK367.out (by decide) (.slice Ao23 t357.length co23) (.slice Ao27 t360.length co27) (.slice Ao28 t363.length co28)))) hb); have n2_ := am (Kd.R_below (rl ((far3 HO342.out BK367.out (by decide) (.slice Ao23 t357.length co23) (.slice Ao27 t360.length co27) (.slice Ao28 t363.length co28)))) hb); have n3_ := am (Kd.R_below (rl ((far3 HO348.out BK367.out (by decide) (.slice Ao23 t357.length co23) (.slice Ao27 t360.length co27) (.slice Ao28 t363.length co28)))) hb); have n4_ := am (Kd.R_below (rl ((far3 HO351.out BK367.out (by decide) (.slice Ao23 t357.length co23) (.slice Ao27 t360.length co27) (.slice Ao28 t363.length co28)))) hb); have n5_ := am (Kd.R_below (rl ((far3 HO354.out BK367.out (by decide) (.slice Ao23 t357.length co23) (.slice Ao27 t360.length co27) (.slice Ao28 t363.length co28)))) hb); have n6_ := am (Kd.R_below (rl ((far3 HO359.out BK367.out (by decide) (.slice Ao23 t357.length co23) (.slice Ao27 t360.length co27) (.slice Ao28 t363.length co28)))) hb); have n7_ := am (Kd.R_below (rl ((far3 HO362.out BK367.out (by decide) (.slice Ao23 t357.length co23) (.slice Ao27 t360.length co27) (.slice Ao28 t363.length co28)))) hb); have n8_ := am (Kd.R_below (rl ((far3 HO365.out BK367.out (by decide) (.slice Ao23 t357.length co23) (.slice Ao27 t360.length co27) (.slice Ao28 t363.length co28)))) hb); have n9_ := am (blk_below (g := gb345) (o := .cells #[.slice Ao9 t334.length co9, .slice Ao11 t337.length co11, .slice Ao12 t340.length co12] 25 (0, 0)) (by (with_reducible repeat (first | refine blk_drewN ?_ _ | refine blk_drew ?_ | refine blk_alloc ?_ _)); refine blk_far ?_ NB345_367.out _; (with_reducible repeat (first | refine blk_drewN ?_ _ | refine blk_drew ?_ | refine blk_alloc ?_ _)); refine blk_far ?_ NB345_367.out _; (with_reducible repeat (first | refine blk_drewN ?_ _ | refine blk_drew ?_ | refine blk_alloc ?_ _)); refine blk_far ?_ NB345_367.out _; (with_reducible repeat (first | refine blk_drewN ?_ _ | refine blk_drew ?_ | refine blk_alloc ?_ _)); exact BK345.out) hb); have n10_ := am (blk_below (g := gb356) (o := .cells #[.slice Ao15 t346.length co15, .slice Ao18 t349.length co18, .slice Ao19 t352.length co19] 25 (0, 0)) (by (with_reducible repeat (first | refine blk_drewN ?_ _ | refine blk_drew ?_ | refine blk_alloc ?_ _)); refine blk_far ?_ NB356_367.out _; (with_reducible repeat (first | refine blk_drewN ?_ _ | refine blk_drew ?_ | refine blk_alloc ?_ _)); refine blk_far ?_ NB356_367.out _; (with_reducible repeat (first | refine blk_drewN ?_ _ | refine blk_drew ?_ | refine blk_alloc ?_ _)); refine blk_far ?_ NB356_367.out _; (with_reducible repeat (first | refine blk_drewN ?_ _ | refine blk_drew ?_ | refine blk_alloc ?_ _)); exact BK356.out) hb); have n11_ := am (blk_below (g := gb367) (o := .cells #[.slice Ao23 t357.length co23, .slice Ao27 t360.length co27, .slice Ao28 t363.length co28] 25 (0, 0)) (by (with_reducible repeat (first | refine blk_drewN ?_ _ | refine blk_drew ?_ | refine blk_alloc ?_ _)); refine blk_put (cs := #[.slice Ao23 t357.length co23, .slice Ao27 t360.length co27, .slice none 0 0]) ?_ 2 _ rfl; (with_reducible repeat (first | refine blk_drewN ?_ _ | refine blk_drew ?_ | refine blk_alloc ?_ _)); refine blk_put (cs := #[.slice Ao23 t357.length co23, .slice none 0 0, .slice none 0 0]) ?_ 1 _ rfl; (with_reducible repeat (first | refine blk_drewN ?_ _ | refine blk_drew ?_ | refine blk_alloc ?_ _)); refine blk_put (cs := #[.slice none 0 0, .slice none 0 0, .slice none 0 0]) ?_ 0 _ rfl; (with_reducible repeat (first | refine blk_drewN ?_ _ | refine blk_drew ?_ | refine blk_alloc ?_ _)); exact BK367.out) hb); have n12_ := am (below_step (by repeat (first | (with_reducible first | exact HB.out | apply below_alloc | apply pw_below_drewN | apply below_drew1 | refine below_set ?_ GE345.out | refine below_set ?_ GE356.out | refine below_set ?_ GE367.out) | exact HB.out)) hb); clear HO336; clear HO339; clear HO342; clear HO348; clear HO351; clear HO354; clear HO359; clear HO362; clear HO365; clear BK345; clear BK356; clear BK367; clear HB; have HO336 := n0_; have HO339 := n1_; have HO342 := n2_; have HO348 := n3_; have HO351 := n4_; have HO354 := n5_; have HO359 := n6_; have HO362 := n7_; have HO365 := n8_; have BK345 := n9_; have BK356 := n10_; have BK367 := n11_; have HB := n12_; clear n0_ n1_ n2_ n3_ n4_ n5_ n6_ n7_ n8_ n9_ n10_ n11_ n12_; (try clear hb); (try clear hb2); (try clear hk); (try clear hi)))
          go_meet
          case rel => exact ⟨_, (true), (by first | rfl | (simp; done) | (simp [*]; done)), H', ⟨by first | omega | exact Nat.le_refl _⟩, ⟨rl (Kd.R_mono HO336.out (fun _ hk => by simp only [ne_eq] at hk ⊢; simp only [hk, not_false_eq_true, and_self]))⟩, ⟨rl (Kd.R_mono HO339.out (fun _ hk => by simp only [ne_eq] at hk ⊢; simp only [hk, not_false_eq_true, and_self]))⟩, ⟨rl (Kd.R_mono HO342.out (fun _ hk => by simp only [ne_eq] at hk ⊢; simp only [hk, not_false_eq_true, and_self]))⟩, ⟨rl (Kd.R_mono HO348.out (fun _ hk => by simp only [ne_eq] at hk ⊢; simp only [hk, not_false_eq_true, and_self]))⟩, ⟨rl (Kd.R_mono HO351.out (fun _ hk => by simp only [ne_eq] at hk ⊢; simp only [hk, not_false_eq_true, and_self]))⟩, ⟨rl (Kd.R_mono HO354.out (fun _ hk => by simp only [ne_eq] at hk ⊢; simp only [hk, not_false_eq_true, and_self]))⟩, ⟨rl (Kd.R_mono HO359.out (fun _ hk => by simp only [ne_eq] at hk ⊢; simp only [hk, not_false_eq_true, and_self]))⟩, ⟨rl (Kd.R_mono HO362.out (fun _ hk => by simp only [ne_eq] at hk ⊢; simp only [hk, not_false_eq_true, and_self]))⟩, ⟨rl (Kd.R_mono HO365.out (fun _ hk => by simp only [ne_eq] at hk ⊢; simp only [hk, not_false_eq_true, and_self]))⟩, ⟨kl BK345.out⟩, ⟨kl BK356.out⟩, ⟨kl BK367.out⟩, ⟨by repeat (first | (with_reducible first | exact HB.out | apply below_alloc | apply pw_below_drewN | apply below_drew1 | refine below_set ?_ GE345.out | refine below_set ?_ GE356.out | refine below_set ?_ GE367.out) | exact HB.out)⟩⟩
        · rw [if_neg c31] at H
          have c31b0 : (t355 != t366) = false := by simpa using c31
          (try (have c31b1 : decide (t355 = t366) = true := by simpa using c31))
          (try (have c31b2 : (t355 == t366) = true := by simpa using c31))
          clear c31
          (first | rw [c31b0] | (simp only [i64_w, i32_w]; rw [c31b0]) | skip)
          have H' := am H
          clear H
          have hnb38 := NB356_345.out
          have hnc38 := NB345_356.out
          have hnb39 := NB356_367.out
          have hnc39 := NB367_356.out
          have hcz40_0 : w22.cell? ⟨gb356, 0, none⟩ = some (.slice Ao15 t346.length co15) := (blk_cell BK356.out 0).trans rfl
          have hcz40_1 : w22.cell? ⟨gb356, 1, none⟩ = some (.slice Ao18 t349.length co18) := (blk_cell BK356.out 1).trans rfl
          have hcz40_2 : w22.cell? ⟨gb356, 2, none⟩ = some (.slice Ao19 t352.length co19) := (blk_cell BK356.out 2).trans rfl
          have hfz40_0 := blk_frozen BK356.out 0
          have hfz40_1 := blk_frozen BK356.out 1
          have hfz40_2 := blk_frozen BK356.out 2
          have hnb41 := NB367_345.out
          have hnc41 := NB345_367.out
          have hcz42_0 : w22.cell? ⟨gb367, 0, none⟩ = some (.slice none 0 0) := (blk_cell BK367.out 0).trans rfl
          have hcz42_1 : w22.cell? ⟨gb367, 1, none⟩ = some (.slice none 0 0) := (blk_cell BK367.out 1).trans rfl
          have hcz42_2 : w22.cell? ⟨gb367, 2, none⟩ = some (.slice none 0 0) := (blk_cell BK367.out 2).trans rfl
          have hfz42_0 := blk_frozen BK367.out 0
          have hfz42_1 := blk_frozen BK367.out 1
          have hfz42_2 := blk_frozen BK367.out 2
          go_wp2_with (first | ((with_reducible refine gate_callee (f := 16) rfl ?_); refine goesL_ (some 37) rfl rfl Try.func16 (by kernel_rfl) rfl #[.agg #[.slice Ao15 t346.length co15, .slice Ao18 t349.length co18, .slice Ao19 t352.length co19], .agg #[.slice Ao23 t357.length co23, .slice Ao27 t360.length co27, .slice Ao28 t363.length co28]] rfl (by (try simp only [List.map_toArray, List.map_cons, List.map_nil]); first | done | rfl | (simp only [List.length_drop, List.length_take]; rfl)) ?_; (with_reducible refine (impl_HeapSame.calls k _ _ t346 _ _ t349 _ _ t352 _ _ t357 _ _ t360 _ _ t363 true _ ?side1 ?side2 ?side3 ?side4 ?side5 ?side6 ?side7 ?side8 ?side9 ?side10 ?side11 ?side12 A29.out).mono ?_); (case side1 => exact (Kd.R_reads' (rl ((far3 HO348.out BK367.out (by decide) (.slice Ao23 t357.length co23) (.slice Ao27 t360.length co27) (.slice Ao28 t363.length co28))))).2.2); (case side2 => exact (Kd.R_reads' HO348.out).2.1); (case side3 => exact (Kd.R_reads' (rl ((far3 HO351.out BK367.out (by decide) (.slice Ao23 t357.length co23) (.slice Ao27 t360.length co27) (.slice Ao28 t363.length co28))))).2.2); (case side4 => exact (Kd.R_reads' HO351.out).2.1); (case side5 => exact (Kd.R_reads' (rl ((far3 HO354.out BK367.out (by decide) (.slice Ao23 t357.length co23) (.slice Ao27 t360.length co27) (.slice Ao28 t363.length co28))))).2.2); (case side6 => exact (Kd.R_reads' HO354.out).2.1); (case side7 => exact (Kd.R_reads' (rl ((far3 HO359.out BK367.out (by decide) (.slice Ao23 t357.length co23) (.slice Ao27 t360.length co27) (.slice Ao28 t363.length co28))))).2.2); (case side8 => exact (Kd.R_reads' HO359.out).2.1); (case side9 => exact (Kd.R_reads' (rl ((far3 HO362.out BK367.out (by decide) (.slice Ao23 t357.length co23) (.slice Ao27 t360.length co27) (.slice Ao28 t363.length co28))))).2.2); (case side10 => exact (Kd.R_reads' HO362.out).2.1); (case side11 => exact (Kd.R_reads' (rl ((far3 HO365.out BK367.out (by decide) (.slice Ao23 t357.length co23) (.slice Ao27 t360.length co27) (.slice Ao28 t363.length co28))))).2.2); (case side12 => exact (Kd.R_reads' HO365.out).2.1); rintro e w43 ⟨rfl, hb⟩; refine ⟨_, rfl, ?_⟩; have n0_ := am (Kd.R_below (rl ((far3 HO336.out BK367.out (by decide) (.slice Ao23 t357.length co23) (.slice Ao27 t360.length co27) (.slice Ao28 t363.length co28)))) hb); have n1_ := am (Kd.R_below (rl ((far3 HO339.out BK367.out (by decide) (.slice Ao23 t357.length co23) (.slice Ao27 t360.length co27) (.slice Ao28 t363.length co28)))) hb); have n2_ := am (Kd.R_below (rl ((far3 HO342.out BK367.out (by decide) (.slice Ao23 t357.length co23) (.slice Ao27 t360.length co27) (.slice Ao28 t363.length co28)))) hb); have n3_ := am (Kd.R_below (rl ((far3 HO348.out BK367.out (by decide) (.slice Ao23 t357.length co23) (.slice Ao27 t360.length co27) (.slice Ao28 t363.length co28)))) hb); have n4_ := am (Kd.R_below (rl ((far3 HO351.out BK367.out (by decide) (.slice Ao23 t357.length co23) (.slice Ao27 t360.length co27) (.slice Ao28 t363.length co28)))) hb); have n5_ := am (Kd.R_below (rl ((far3 HO354.out BK367.out (by decide) (.slice Ao23 t357.length co23) (.slice Ao27 t360.length co27) (.slice Ao28 t363.length co28)))) hb); have n6_ := am (Kd.R_below (rl ((far3 HO359.out BK367.out (by decide) (.slice Ao23 t357.length co23) (.slice Ao27 t360.length co27) (.slice Ao28 t363.length co28)))) hb); have n7_ := am (Kd.R_below (rl ((far3 HO362.out BK367.out (by decide) (.slice Ao23 t357.length co23) (.slice Ao27 t360.length co27) (.slice Ao28 t363.length co28)))) hb); have n8_ := am (Kd.R_below (rl ((far3 HO365.out BK367.out (by decide) (.slice Ao23 t357.length co23) (.slice Ao27 t360.length co27) (.slice Ao28 t363.length co28)))) hb); have n9_ := am (blk_below (g := gb345) (o := .cells #[.slice Ao9 t334.length co9, .slice Ao11 t337.length co11, .slice Ao12 t340.length co12] 25 (0, 0)) (by (with_reducible repeat (first | refine blk_drewN ?_ _ | refine blk_drew ?_ | refine blk_alloc ?_ _)); refine blk_far ?_ NB345_367.out _; (with_reducible repeat (first | refine blk_drewN ?_ _ | refine blk_drew ?_ | refine blk_alloc ?_ _)); refine blk_far ?_ NB345_367.out _; (with_reducible repeat (first | refine blk_drewN ?_ _ | refine blk_drew ?_ | refine blk_alloc ?_ _)); refine blk_far ?_ NB345_367.out _; (with_reducible repeat (first | refine blk_drewN ?_ _ | refine blk_drew ?_ | refine blk_alloc ?_ _)); exact BK345.out) hb); have n10_ := am (blk_below (g := gb356) (o := .cells #[.slice Ao15 t346.length co15, .slice Ao18 t349.length co18, .slice Ao19 t352.length co19] 25 (0, 0)) (by (with_reducible repeat (first | refine blk_drewN ?_ _ | refine blk_drew ?_ | refine blk_alloc ?_ _)); refine blk_far ?_ NB356_367.out _; (with_reducible repeat (first | refine blk_drewN ?_ _ | refine blk_drew ?_ | refine blk_alloc ?_ _)); refine blk_far ?_ NB356_367.out _; (with_reducible repeat (first | refine blk_drewN ?_ _ | refine blk_drew ?_ | refine blk_alloc ?_ _)); refine blk_far ?_ NB356_367.out _; (with_reducible repeat (first | refine blk_drewN ?_ _ | refine blk_drew ?_ | refine blk_alloc ?_ _)); exact BK356.out) hb); have n11_ := am (blk_below (g := gb367) (o := .cells #[.slice Ao23 t357.length co23, .slice Ao27 t360.length co27, .slice Ao28 t363.length co28] 25 (0, 0)) (by (with_reducible repeat (first | refine blk_drewN ?_ _ | refine blk_drew ?_ | refine blk_alloc ?_ _)); refine blk_put (cs := #[.slice Ao23 t357.length co23, .slice Ao27 t360.length co27, .slice none 0 0]) ?_ 2 _ rfl; (with_reducible repeat (first | refine blk_drewN ?_ _ | refine blk_drew ?_ | refine blk_alloc ?_ _)); refine blk_put (cs := #[.slice Ao23 t357.length co23, .slice none 0 0, .slice none 0 0]) ?_ 1 _ rfl; (with_reducible repeat (first | refine blk_drewN ?_ _ | refine blk_drew ?_ | refine blk_alloc ?_ _)); refine blk_put (cs := #[.slice none 0 0, .slice none 0 0, .slice none 0 0]) ?_ 0 _ rfl; (with_reducible repeat (first | refine blk_drewN ?_ _ | refine blk_drew ?_ | refine blk_alloc ?_ _)); exact BK367.out) hb); have n12_ := am (below_step (by repeat (first | (with_reducible first | exact HB.out | apply below_alloc | apply pw_below_drewN | apply below_drew1 | refine below_set ?_ GE345.out | refine below_set ?_ GE356.out | refine below_set ?_ GE367.out) | exact HB.out)) hb); clear HO336; clear HO339; clear HO342; clear HO348; clear HO351; clear HO354; clear HO359; clear HO362; clear HO365; clear BK345; clear BK356; clear BK367; clear HB; have HO336 := n0_; have HO339 := n1_; have HO342 := n2_; have HO348 := n3_; have HO351 := n4_; have HO354 := n5_; have HO359 := n6_; have HO362 := n7_; have HO365 := n8_; have BK345 := n9_; have BK356 := n10_; have BK367 := n11_; have HB := n12_; clear n0_ n1_ n2_ n3_ n4_ n5_ n6_ n7_ n8_ n9_ n10_ n11_ n12_; (try clear hb); (try clear hb2); (try clear hk); (try clear hi)))
          go_meet
          case rel => exact ⟨_, (!t355), (by first | rfl | (simp; done) | (simp [*]; done)), H', ⟨by first | omega | exact Nat.le_refl _⟩, ⟨rl (Kd.R_mono HO336.out (fun _ hk => by simp only [ne_eq] at hk ⊢; simp only [hk, not_false_eq_true, and_self]))⟩, ⟨rl (Kd.R_mono HO339.out (fun _ hk => by simp only [ne_eq] at hk ⊢; simp only [hk, not_false_eq_true, and_self]))⟩, ⟨rl (Kd.R_mono HO342.out (fun _ hk => by simp only [ne_eq] at hk ⊢; simp only [hk, not_false_eq_true, and_self]))⟩, ⟨rl (Kd.R_mono HO348.out (fun _ hk => by simp only [ne_eq] at hk ⊢; simp only [hk, not_false_eq_true, and_self]))⟩, ⟨rl (Kd.R_mono HO351.out (fun _ hk => by simp only [ne_eq] at hk ⊢; simp only [hk, not_false_eq_true, and_self]))⟩, ⟨rl (Kd.R_mono HO354.out (fun _ hk => by simp only [ne_eq] at hk ⊢; simp only [hk, not_false_eq_true, and_self]))⟩, ⟨rl (Kd.R_mono HO359.out (fun _ hk => by simp only [ne_eq] at hk ⊢; simp only [hk, not_false_eq_true, and_self]))⟩, ⟨rl (Kd.R_mono HO362.out (fun _ hk => by simp only [ne_eq] at hk ⊢; simp only [hk, not_false_eq_true, and_self]))⟩, ⟨rl (Kd.R_mono HO365.out (fun _ hk => by simp only [ne_eq] at hk ⊢; simp only [hk, not_false_eq_true, and_self]))⟩, ⟨kl BK345.out⟩, ⟨kl BK356.out⟩, ⟨kl BK367.out⟩, ⟨by repeat (first | (with_reducible first | exact HB.out | apply below_alloc | apply pw_below_drewN | apply below_drew1 | refine below_set ?_ GE345.out | refine below_set ?_ GE356.out | refine below_set ?_ GE367.out) | exact HB.out)⟩⟩
      · replace c30 := Bool.eq_false_iff.mpr c30
        subst c30
        have H1 : (laws_FnPutRight.j0 k t343 t344 t355 t366 true t334 t337 t340 t346 t349 t352 t357 t360 t363) = some r := by rw [if_neg (show ¬ (false = true) by decide)] at H; exact H
        clear H
        have H := H1
        clear H1
        have H' := am H
        clear H
        have hnb44 := NB356_345.out
        have hnc44 := NB345_356.out
        have hnb45 := NB356_367.out
        have hnc45 := NB367_356.out
        have hcz46_0 : w22.cell? ⟨gb356, 0, none⟩ = some (.slice Ao15 t346.length co15) := (blk_cell BK356.out 0).trans rfl
        have hcz46_1 : w22.cell? ⟨gb356, 1, none⟩ = some (.slice Ao18 t349.length co18) := (blk_cell BK356.out 1).trans rfl
        have hcz46_2 : w22.cell? ⟨gb356, 2, none⟩ = some (.slice Ao19 t352.length co19) := (blk_cell BK356.out 2).trans rfl
        have hfz46_0 := blk_frozen BK356.out 0
        have hfz46_1 := blk_frozen BK356.out 1
        have hfz46_2 := blk_frozen BK356.out 2
        have hnb47 := NB367_345.out
        have hnc47 := NB345_367.out
        have hcz48_0 : w22.cell? ⟨gb367, 0, none⟩ = some (.slice none 0 0) := (blk_cell BK367.out 0).trans rfl
        have hcz48_1 : w22.cell? ⟨gb367, 1, none⟩ = some (.slice none 0 0) := (blk_cell BK367.out 1).trans rfl
        have hcz48_2 : w22.cell? ⟨gb367, 2, none⟩ = some (.slice none 0 0) := (blk_cell BK367.out 2).trans rfl
        have hfz48_0 := blk_frozen BK367.out 0
        have hfz48_1 := blk_frozen BK367.out 1
        have hfz48_2 := blk_frozen BK367.out 2
        go_wp2_with (first | ((with_reducible refine gate_callee (f := 16) rfl ?_); refine goesL_ (some 37) rfl rfl Try.func16 (by kernel_rfl) rfl #[.agg #[.slice Ao15 t346.length co15, .slice Ao18 t349.length co18, .slice Ao19 t352.length co19], .agg #[.slice Ao23 t357.length co23, .slice Ao27 t360.length co27, .slice Ao28 t363.length co28]] rfl (by (try simp only [List.map_toArray, List.map_cons, List.map_nil]); first | done | rfl | (simp only [List.length_drop, List.length_take]; rfl)) ?_; (with_reducible refine (impl_HeapSame.calls k _ _ t346 _ _ t349 _ _ t352 _ _ t357 _ _ t360 _ _ t363 false _ ?side1 ?side2 ?side3 ?side4 ?side5 ?side6 ?side7 ?side8 ?side9 ?side10 ?side11 ?side12 A29.out).mono ?_); (case side1 => exact (Kd.R_reads' (rl ((far3 HO348.out BK367.out (by decide) (.slice Ao23 t357.length co23) (.slice Ao27 t360.length co27) (.slice Ao28 t363.length co28))))).2.2); (case side2 => exact (Kd.R_reads' HO348.out).2.1); (case side3 => exact (Kd.R_reads' (rl ((far3 HO351.out BK367.out (by decide) (.slice Ao23 t357.length co23) (.slice Ao27 t360.length co27) (.slice Ao28 t363.length co28))))).2.2); (case side4 => exact (Kd.R_reads' HO351.out).2.1); (case side5 => exact (Kd.R_reads' (rl ((far3 HO354.out BK367.out (by decide) (.slice Ao23 t357.length co23) (.slice Ao27 t360.length co27) (.slice Ao28 t363.length co28))))).2.2); (case side6 => exact (Kd.R_reads' HO354.out).2.1); (case side7 => exact (Kd.R_reads' (rl ((far3 HO359.out BK367.out (by decide) (.slice Ao23 t357.length co23) (.slice Ao27 t360.length co27) (.slice Ao28 t363.length co28))))).2.2); (case side8 => exact (Kd.R_reads' HO359.out).2.1); (case side9 => exact (Kd.R_reads' (rl ((far3 HO362.out BK367.out (by decide) (.slice Ao23 t357.length co23) (.slice Ao27 t360.length co27) (.slice Ao28 t363.length co28))))).2.2); (case side10 => exact (Kd.R_reads' HO362.out).2.1); (case side11 => exact (Kd.R_reads' (rl ((far3 HO365.out BK367.out (by decide) (.slice Ao23 t357.length co23) (.slice Ao27 t360.length co27) (.slice Ao28 t363.length co28))))).2.2); (case side12 => exact (Kd.R_reads' HO365.out).2.1); rintro e w49 ⟨rfl, hb⟩; refine ⟨_, rfl, ?_⟩; have n0_ := am (Kd.R_below (rl ((far3 HO336.out BK367.out (by decide) (.slice Ao23 t357.length co23) (.slice Ao27 t360.length co27) (.slice Ao28 t363.length co28)))) hb); have n1_ := am (Kd.R_below (rl ((far3 HO339.out BK367.out (by decide) (.slice Ao23 t357.length co23) (.slice Ao27 t360.length co27) (.slice Ao28 t363.length co28)))) hb); have n2_ := am (Kd.R_below (rl ((far3 HO342.out BK367.out (by decide) (.slice Ao23 t357.length co23) (.slice Ao27 t360.length co27) (.slice Ao28 t363.length co28)))) hb); have n3_ := am (Kd.R_below (rl ((far3 HO348.out BK367.out (by decide) (.slice Ao23 t357.length co23) (.slice Ao27 t360.length co27) (.slice Ao28 t363.length co28)))) hb); have n4_ := am (Kd.R_below (rl ((far3 HO351.out BK367.out (by decide) (.slice Ao23 t357.length co23) (.slice Ao27 t360.length co27) (.slice Ao28 t363.length co28)))) hb); have n5_ := am (Kd.R_below (rl ((far3 HO354.out BK367.out (by decide) (.slice Ao23 t357.length co23) (.slice Ao27 t360.length co27) (.slice Ao28 t363.length co28)))) hb); have n6_ := am (Kd.R_below (rl ((far3 HO359.out BK367.out (by decide) (.slice Ao23 t357.length co23) (.slice Ao27 t360.length co27) (.slice Ao28 t363.length co28)))) hb); have n7_ := am (Kd.R_below (rl ((far3 HO362.out BK367.out (by decide) (.slice Ao23 t357.length co23) (.slice Ao27 t360.length co27) (.slice Ao28 t363.length co28)))) hb); have n8_ := am (Kd.R_below (rl ((far3 HO365.out BK367.out (by decide) (.slice Ao23 t357.length co23) (.slice Ao27 t360.length co27) (.slice Ao28 t363.length co28)))) hb); have n9_ := am (blk_below (g := gb345) (o := .cells #[.slice Ao9 t334.length co9, .slice Ao11 t337.length co11, .slice Ao12 t340.length co12] 25 (0, 0)) (by (with_reducible repeat (first | refine blk_drewN ?_ _ | refine blk_drew ?_ | refine blk_alloc ?_ _)); refine blk_far ?_ NB345_367.out _; (with_reducible repeat (first | refine blk_drewN ?_ _ | refine blk_drew ?_ | refine blk_alloc ?_ _)); refine blk_far ?_ NB345_367.out _; (with_reducible repeat (first | refine blk_drewN ?_ _ | refine blk_drew ?_ | refine blk_alloc ?_ _)); refine blk_far ?_ NB345_367.out _; (with_reducible repeat (first | refine blk_drewN ?_ _ | refine blk_drew ?_ | refine blk_alloc ?_ _)); exact BK345.out) hb); have n10_ := am (blk_below (g := gb356) (o := .cells #[.slice Ao15 t346.length co15, .slice Ao18 t349.length co18, .slice Ao19 t352.length co19] 25 (0, 0)) (by (with_reducible repeat (first | refine blk_drewN ?_ _ | refine blk_drew ?_ | refine blk_alloc ?_ _)); refine blk_far ?_ NB356_367.out _; (with_reducible repeat (first | refine blk_drewN ?_ _ | refine blk_drew ?_ | refine blk_alloc ?_ _)); refine blk_far ?_ NB356_367.out _; (with_reducible repeat (first | refine blk_drewN ?_ _ | refine blk_drew ?_ | refine blk_alloc ?_ _)); refine blk_far ?_ NB356_367.out _; (with_reducible repeat (first | refine blk_drewN ?_ _ | refine blk_drew ?_ | refine blk_alloc ?_ _)); exact BK356.out) hb); have n11_ := am (blk_below (g := gb367) (o := .cells #[.slice Ao23 t357.length co23, .slice Ao27 t360.length co27, .slice Ao28 t363.length co28] 25 (0, 0)) (by (with_reducible repeat (first | refine blk_drewN ?_ _ | refine blk_drew ?_ | refine blk_alloc ?_ _)); refine blk_put (cs := #[.slice Ao23 t357.length co23, .slice Ao27 t360.length co27, .slice none 0 0]) ?_ 2 _ rfl; (with_reducible repeat (first | refine blk_drewN ?_ _ | refine blk_drew ?_ | refine blk_alloc ?_ _)); refine blk_put (cs := #[.slice Ao23 t357.length co23, .slice none 0 0, .slice none 0 0]) ?_ 1 _ rfl; (with_reducible repeat (first | refine blk_drewN ?_ _ | refine blk_drew ?_ | refine blk_alloc ?_ _)); refine blk_put (cs := #[.slice none 0 0, .slice none 0 0, .slice none 0 0]) ?_ 0 _ rfl; (with_reducible repeat (first | refine blk_drewN ?_ _ | refine blk_drew ?_ | refine blk_alloc ?_ _)); exact BK367.out) hb); have n12_ := am (below_step (by repeat (first | (with_reducible first | exact HB.out | apply below_alloc | apply pw_below_drewN | apply below_drew1 | refine below_set ?_ GE345.out | refine below_set ?_ GE356.out | refine below_set ?_ GE367.out) | exact HB.out)) hb); clear HO336; clear HO339; clear HO342; clear HO348; clear HO351; clear HO354; clear HO359; clear HO362; clear HO365; clear BK345; clear BK356; clear BK367; clear HB; have HO336 := n0_; have HO339 := n1_; have HO342 := n2_; have HO348 := n3_; have HO351 := n4_; have HO354 := n5_; have HO359 := n6_; have HO362 := n7_; have HO365 := n8_; have BK345 := n9_; have BK356 := n10_; have BK367 := n11_; have HB := n12_; clear n0_ n1_ n2_ n3_ n4_ n5_ n6_ n7_ n8_ n9_ n10_ n11_ n12_; (try clear hb); (try clear hb2); (try clear hk); (try clear hi)))
        go_meet
        case rel => exact ⟨_, (true), (by first | rfl | (simp; done) | (simp [*]; done)), H', ⟨by first | omega | exact Nat.le_refl _⟩, ⟨rl (Kd.R_mono HO336.out (fun _ hk => by simp only [ne_eq] at hk ⊢; simp only [hk, not_false_eq_true, and_self]))⟩, ⟨rl (Kd.R_mono HO339.out (fun _ hk => by simp only [ne_eq] at hk ⊢; simp only [hk, not_false_eq_true, and_self]))⟩, ⟨rl (Kd.R_mono HO342.out (fun _ hk => by simp only [ne_eq] at hk ⊢; simp only [hk, not_false_eq_true, and_self]))⟩, ⟨rl (Kd.R_mono HO348.out (fun _ hk => by simp only [ne_eq] at hk ⊢; simp only [hk, not_false_eq_true, and_self]))⟩, ⟨rl (Kd.R_mono HO351.out (fun _ hk => by simp only [ne_eq] at hk ⊢; simp only [hk, not_false_eq_true, and_self]))⟩, ⟨rl (Kd.R_mono HO354.out (fun _ hk => by simp only [ne_eq] at hk ⊢; simp only [hk, not_false_eq_true, and_self]))⟩, ⟨rl (Kd.R_mono HO359.out (fun _ hk => by simp only [ne_eq] at hk ⊢; simp only [hk, not_false_eq_true, and_self]))⟩, ⟨rl (Kd.R_mono HO362.out (fun _ hk => by simp only [ne_eq] at hk ⊢; simp only [hk, not_false_eq_true, and_self]))⟩, ⟨rl (Kd.R_mono HO365.out (fun _ hk => by simp only [ne_eq] at hk ⊢; simp only [hk, not_false_eq_true, and_self]))⟩, ⟨kl BK345.out⟩, ⟨kl BK356.out⟩, ⟨kl BK367.out⟩, ⟨by repeat (first | (with_reducible first | exact HB.out | apply below_alloc | apply pw_below_drewN | apply below_drew1 | refine below_set ?_ GE345.out | refine below_set ?_ GE356.out | refine below_set ?_ GE367.out) | exact HB.out)⟩⟩
    case rest =>
      clear HC6
      try clear c1
      try clear c2
      try clear c2b0
      try clear c2b1
      try clear p2
      try clear c3
      try clear c4
      try clear c13
      try clear c14
      try clear c15
      try clear c16
      try clear c24
      try clear c25
      try clear c30
      try clear c31
      try clear c31b0
      try clear c31b1
      try clear c31b2
      try clear c32
      try clear c33
      try clear c35
      try clear c38
      try clear c39
      try clear c41
      try clear c44
      try clear c45
      try clear c47
      try clear hcz10_0
      try clear hcz10_1
      try clear hcz10_2
      try clear hcz17_0
      try clear hcz17_1
      try clear hcz17_2
      try clear hcz20_0
      try clear hcz20_1
      try clear hcz20_2
      try clear hcz26_0
      try clear hcz26_1
      try clear hcz26_2
      try clear hcz34_0
      try clear hcz34_1
      try clear hcz34_2
      try clear hcz36_0
      try clear hcz36_1
      try clear hcz36_2
      try clear hcz40_0
      try clear hcz40_1
      try clear hcz40_2
      try clear hcz42_0
      try clear hcz42_1
      try clear hcz42_2
      try clear hcz46_0
      try clear hcz46_1
      try clear hcz46_2
      try clear hcz48_0
      try clear hcz48_1
      try clear hcz48_2
      try clear hfz10_0
      try clear hfz10_1
      try clear hfz10_2
      try clear hfz17_0
      try clear hfz17_1
      try clear hfz17_2
      try clear hfz20_0
      try clear hfz20_1
      try clear hfz20_2
      try clear hfz26_0
      try clear hfz26_1
      try clear hfz26_2
      try clear hfz34_0
      try clear hfz34_1
      try clear hfz34_2
      try clear hfz36_0
      try clear hfz36_1
      try clear hfz36_2
      try clear hfz40_0
      try clear hfz40_1
      try clear hfz40_2
      try clear hfz42_0
      try clear hfz42_1
      try clear hfz42_2
      try clear hfz46_0
      try clear hfz46_1
      try clear hfz46_2
      try clear hfz48_0
      try clear hfz48_1
      try clear hfz48_2
      obtain ⟨kq, x47_5, rfl, HA, HJ5, HO_346000, HO_346001, HO_346002, HO_357000, HO_357001, HO_357002, HO_368000, HO_368001, HO_368002, BK345, BK356, BK367, HB⟩ := hcut
      cases kq with
      | zero => exact absurd HA.out (by simp [laws_FnPutRight.j0])
      | succ kj5 =>
        have H := HA.out
        clear HA
        simp only [laws_FnPutRight.j0] at H
        by_cases c50 : x47_5 = true
        · subst c50
          have H1 : ((impl_HeapSame.f kj5 t346 t349 t352 t357 t360 t363).bind fun t369 => (if t369 = true then (some (t355 == t366)) else (none))) = some r := by rw [if_pos rfl] at H; exact H
          clear H
          have H := H1
          clear H1
          replace H := Option.bind_eq_some_iff.mp H
          obtain ⟨t369, A510, H⟩ := H
          replace H : (if t369 = true then (some (t355 == t366)) else (none)) = some r := H
          have A51 := am A510
          clear A510
          by_cases c52 : t369 = true
          · subst c52
            have H1 : (some (t355 == t366)) = some r := by rw [if_pos rfl] at H; exact H
            clear H
            have H := H1
            clear H1
            obtain rfl := Option.some.inj H
            have hnb53 := NB356_345.out
            have hnc53 := NB345_356.out
            have hnb54 := NB356_367.out
            have hnc54 := NB367_356.out
            have hcz55_0 : wc.cell? ⟨gb356, 0, none⟩ = some (.slice Ao15 t346.length co15) := (blk_cell BK356.out 0).trans rfl
            have hcz55_1 : wc.cell? ⟨gb356, 1, none⟩ = some (.slice Ao18 t349.length co18) := (blk_cell BK356.out 1).trans rfl
            have hcz55_2 : wc.cell? ⟨gb356, 2, none⟩ = some (.slice Ao19 t352.length co19) := (blk_cell BK356.out 2).trans rfl
            have hfz55_0 := blk_frozen BK356.out 0
            have hfz55_1 := blk_frozen BK356.out 1
            have hfz55_2 := blk_frozen BK356.out 2
            have hnb56 := NB367_345.out
            have hnc56 := NB345_367.out
            have hcz57_0 : wc.cell? ⟨gb367, 0, none⟩ = some (.slice Ao23 t357.length co23) := (blk_cell BK367.out 0).trans rfl
            have hcz57_1 : wc.cell? ⟨gb367, 1, none⟩ = some (.slice Ao27 t360.length co27) := (blk_cell BK367.out 1).trans rfl
            have hcz57_2 : wc.cell? ⟨gb367, 2, none⟩ = some (.slice Ao28 t363.length co28) := (blk_cell BK367.out 2).trans rfl
            have hfz57_0 := blk_frozen BK367.out 0
            have hfz57_1 := blk_frozen BK367.out 1
            have hfz57_2 := blk_frozen BK367.out 2
            go_wp2_with (first | ((with_reducible refine gate_callee (f := 16) rfl ?_); refine goesL_ (some 50) rfl rfl Try.func16 (by kernel_rfl) rfl #[.agg #[.slice Ao15 t346.length co15, .slice Ao18 t349.length co18, .slice Ao19 t352.length co19], .agg #[.slice Ao23 t357.length co23, .slice Ao27 t360.length co27, .slice Ao28 t363.length co28]] rfl (by (try simp only [List.map_toArray, List.map_cons, List.map_nil]); first | done | rfl | (simp only [List.length_drop, List.length_take]; rfl)) ?_; (with_reducible refine (impl_HeapSame.calls kj5 _ _ t346 _ _ t349 _ _ t352 _ _ t357 _ _ t360 _ _ t363 true _ ?side1 ?side2 ?side3 ?side4 ?side5 ?side6 ?side7 ?side8 ?side9 ?side10 ?side11 ?side12 A51.out).mono ?_); (case side1 => repeat (first | exact (Kd.R_reads' HO_357000.out).2.2 | (with_reducible refine Kd.C_alloc ?_ _) | (with_reducible refine Kd.C_drewN ?_ _) | (with_reducible refine Kd.C_drew ?_))); (case side2 => exact (Kd.R_reads' HO_357000.out).2.1); (case side3 => repeat (first | exact (Kd.R_reads' HO_357001.out).2.2 | (with_reducible refine Kd.C_alloc ?_ _) | (with_reducible refine Kd.C_drewN ?_ _) | (with_reducible refine Kd.C_drew ?_))); (case side4 => exact (Kd.R_reads' HO_357001.out).2.1); (case side5 => repeat (first | exact (Kd.R_reads' HO_357002.out).2.2 | (with_reducible refine Kd.C_alloc ?_ _) | (with_reducible refine Kd.C_drewN ?_ _) | (with_reducible refine Kd.C_drew ?_))); (case side6 => exact (Kd.R_reads' HO_357002.out).2.1); (case side7 => repeat (first | exact (Kd.R_reads' HO_368000.out).2.2 | (with_reducible refine Kd.C_alloc ?_ _) | (with_reducible refine Kd.C_drewN ?_ _) | (with_reducible refine Kd.C_drew ?_))); (case side8 => exact (Kd.R_reads' HO_368000.out).2.1); (case side9 => repeat (first | exact (Kd.R_reads' HO_368001.out).2.2 | (with_reducible refine Kd.C_alloc ?_ _) | (with_reducible refine Kd.C_drewN ?_ _) | (with_reducible refine Kd.C_drew ?_))); (case side10 => exact (Kd.R_reads' HO_368001.out).2.1); (case side11 => repeat (first | exact (Kd.R_reads' HO_368002.out).2.2 | (with_reducible refine Kd.C_alloc ?_ _) | (with_reducible refine Kd.C_drewN ?_ _) | (with_reducible refine Kd.C_drew ?_))); (case side12 => exact (Kd.R_reads' HO_368002.out).2.1); rintro e w58 ⟨rfl, hb⟩; refine ⟨_, rfl, ?_⟩; have n0_ := am (Kd.R_below (rl HO_346000.out) hb); have n1_ := am (Kd.R_below (rl HO_346001.out) hb); have n2_ := am (Kd.R_below (rl HO_346002.out) hb); have n3_ := am (Kd.R_below (rl HO_357000.out) hb); have n4_ := am (Kd.R_below (rl HO_357001.out) hb); have n5_ := am (Kd.R_below (rl HO_357002.out) hb); have n6_ := am (Kd.R_below (rl HO_368000.out) hb); have n7_ := am (Kd.R_below (rl HO_368001.out) hb); have n8_ := am (Kd.R_below (rl HO_368002.out) hb); have n9_ := am (blk_below (g := gb345) (o := .cells #[.slice Ao9 t334.length co9, .slice Ao11 t337.length co11, .slice Ao12 t340.length co12] 25 (0, 0)) (kl BK345.out) hb); have n10_ := am (blk_below (g := gb356) (o := .cells #[.slice Ao15 t346.length co15, .slice Ao18 t349.length co18, .slice Ao19 t352.length co19] 25 (0, 0)) (kl BK356.out) hb); have n11_ := am (blk_below (g := gb367) (o := .cells #[.slice Ao23 t357.length co23, .slice Ao27 t360.length co27, .slice Ao28 t363.length co28] 25 (0, 0)) (kl BK367.out) hb); have n12_ := am (below_step (by repeat (first | (with_reducible first | exact HB.out | apply below_alloc | apply pw_below_drewN | apply below_drew1 | refine below_set ?_ GE345.out | refine below_set ?_ GE356.out | refine below_set ?_ GE367.out) | exact HB.out)) hb); clear HO_346000; clear HO_346001; clear HO_346002; clear HO_357000; clear HO_357001; clear HO_357002; clear HO_368000; clear HO_368001; clear HO_368002; clear BK345; clear BK356; clear BK367; clear HB; have HO_346000 := n0_; have HO_346001 := n1_; have HO_346002 := n2_; have HO_357000 := n3_; have HO_357001 := n4_; have HO_357002 := n5_; have HO_368000 := n6_; have HO_368001 := n7_; have HO_368002 := n8_; have BK345 := n9_; have BK356 := n10_; have BK367 := n11_; have HB := n12_; clear n0_ n1_ n2_ n3_ n4_ n5_ n6_ n7_ n8_ n9_ n10_ n11_ n12_; (try clear hb); (try clear hb2); (try clear hk); (try clear hi)))
            go_ret
            exact ⟨by first | rfl | (simp [errW_none, errW_some] <;> rfl) | (simp [*, errW_none, errW_some] <;> rfl), by repeat (first | (with_reducible first | exact HB.out | apply below_alloc | apply pw_below_drewN | apply below_drew1 | refine below_set ?_ GE345.out | refine below_set ?_ GE356.out | refine below_set ?_ GE367.out) | exact HB.out)⟩
          · replace c52 := Bool.eq_false_iff.mpr c52
            subst c52
            have H1 : (none) = some r := by rw [if_neg (show ¬ (false = true) by decide)] at H; exact H
            clear H
            have H := H1
            clear H1
            exact absurd H (by simp)
        · replace c50 := Bool.eq_false_iff.mpr c50
          subst c50
          have H1 : (if 0 ≤ t343 then (if t343 < (t337.length : Int) then ((impl_PutRight.f kj5 t346 t349 t352 t343 (rd t337 t343)).bind fun bt371 => ((impl_HeapValid.f kj5 t346 t349 t352).bind fun t382 => (if t382 = true then (if t343 < (t349.length : Int) then (if (rd t349 t343) = t344 then (if bt371.2.2.2 = true then ((impl_HeapSame.f kj5 bt371.1 bt371.2.1 bt371.2.2.1 t334 t337 t340).bind fun t384 => (some t384)) else (none)) else (none)) else (none)) else (none)))) else (none)) else (none)) = some r := by rw [if_neg (show ¬ (false = true) by decide)] at H; exact H
          clear H
          have H := H1
          clear H1
          by_cases c59 : 0 ≤ t343
          · rw [if_pos c59] at H
            have c59b0 : decide (0 ≤ t343) = true := decide_eq_true c59
            clear c59
            by_cases c60 : t343 < (t337.length : Int)
            · rw [if_pos c60] at H
              have c60b0 : decide (t343 < (t337.length : Int)) = true := decide_eq_true c60
              clear c60
              replace H := Option.bind_eq_some_iff.mp H
              obtain ⟨⟨t371, t374, t377, t380⟩, A610, H⟩ := H
              replace H : ((impl_HeapValid.f kj5 t346 t349 t352).bind fun t382 => (if t382 = true then (if t343 < (t349.length : Int) then (if (rd t349 t343) = t344 then (if t380 = true then ((impl_HeapSame.f kj5 t371 t374 t377 t334 t337 t340).bind fun t384 => (some t384)) else (none)) else (none)) else (none)) else (none))) = some r := H
              have A61 := am A610
              clear A610
              replace H := Option.bind_eq_some_iff.mp H
              obtain ⟨t382, A620, H⟩ := H
              replace H : (if t382 = true then (if t343 < (t349.length : Int) then (if (rd t349 t343) = t344 then (if t380 = true then ((impl_HeapSame.f kj5 t371 t374 t377 t334 t337 t340).bind fun t384 => (some t384)) else (none)) else (none)) else (none)) else (none)) = some r := H
              have A62 := am A620
              clear A620
              by_cases c63 : t382 = true
              · subst c63
                have H1 : (if t343 < (t349.length : Int) then (if (rd t349 t343) = t344 then (if t380 = true then ((impl_HeapSame.f kj5 t371 t374 t377 t334 t337 t340).bind fun t384 => (some t384)) else (none)) else (none)) else (none)) = some r := by rw [if_pos rfl] at H; exact H
                clear H
                have H := H1
                clear H1
                by_cases c64 : t343 < (t349.length : Int)
                · rw [if_pos c64] at H
                  have c64b0 : decide (t343 < (t349.length : Int)) = true := decide_eq_true c64
                  clear c64
                  by_cases c65 : (rd t349 t343) = t344
                  · rw [if_pos c65] at H
                    have c65b0 : ((rd t349 t343) == t344) = true := beq_iff_eq.mpr c65
                    have c65b1 : ((rd t349 t343) != t344) = false := bne_eq_false_iff_eq.mpr c65
                    clear c65
                    by_cases c66 : t380 = true
                    · subst c66
                      have H1 : ((impl_HeapSame.f kj5 t371 t374 t377 t334 t337 t340).bind fun t384 => (some t384)) = some r := by rw [if_pos rfl] at H; exact H
                      clear H
                      have H := H1
                      clear H1
                      replace H := Option.bind_eq_some_iff.mp H
                      obtain ⟨t384, A670, H⟩ := H
                      replace H : (some t384) = some r := H
                      have A67 := am A670
                      clear A670
                      obtain rfl := Option.some.inj H
                      try go_wp2
                      have n0_ := am (Kd.R_drew HO_346000.out)
                      have n1_ := am (Kd.R_drew HO_346001.out)
                      have n2_ := am (Kd.R_drew HO_346002.out)
                      have n3_ := am (Kd.R_drew HO_357000.out)
                      have n4_ := am (Kd.R_drew HO_357001.out)
                      have n5_ := am (Kd.R_drew HO_357002.out)
                      have n6_ := am (Kd.R_drew HO_368000.out)
                      have n7_ := am (Kd.R_drew HO_368001.out)
                      have n8_ := am (Kd.R_drew HO_368002.out)
                      have n9_ := am (blk_drew BK345.out)
                      have n10_ := am (blk_drew BK356.out)
                      have n11_ := am (blk_drew BK367.out)
                      have n12_ := am (below_drew1 HB.out)
                      clear HO_346000
                      clear HO_346001
                      clear HO_346002
                      clear HO_357000
                      clear HO_357001
                      clear HO_357002
                      clear HO_368000
                      clear HO_368001
                      clear HO_368002
                      clear BK345
                      clear BK356
                      clear BK367
                      clear HB
                      have HO_346000 := n0_
                      have HO_346001 := n1_
                      have HO_346002 := n2_
                      have HO_357000 := n3_
                      have HO_357001 := n4_
                      have HO_357002 := n5_
                      have HO_368000 := n6_
                      have HO_368001 := n7_
                      have HO_368002 := n8_
                      have BK345 := n9_
                      have BK356 := n10_
                      have BK367 := n11_
                      have HB := n12_
                      clear n0_ n1_ n2_ n3_ n4_ n5_ n6_ n7_ n8_ n9_ n10_ n11_ n12_
                      have p370 : 0 ≤ (t343 : Int) := of_decide_eq_true (by first | (with_reducible assumption) | assumption)
                      have q370 : t343 < (t337.length : Int) := of_decide_eq_true (by first | (with_reducible assumption) | assumption)
                      obtain ⟨ad370, e370, hx370_0⟩ := Kd.at_int (Kd.R_reads' HO_346001.out).2.2 t343 p370 q370
                      cases e370
                      replace p370 := eq_true p370
                      replace q370 := eq_true q370
                      refine start_ (n := 14) (S := fun w' => w'.cell? ⟨gb356, 0, none⟩ = some (.slice Ao15 t346.length co15) ∧ w'.cell? ⟨gb356, 1, none⟩ = some (.slice Ao18 t349.length co18) ∧ w'.cell? ⟨gb356, 2, none⟩ = some (.slice Ao19 t352.length co19) ∧ w'.cell? ⟨gb345, 0, none⟩ = some (.slice Ao9 t334.length co9) ∧ w'.cell? ⟨gb345, 1, none⟩ = some (.slice (some ad370) t337.length co11) ∧ w'.cell? ⟨gb345, 2, none⟩ = some (.slice Ao12 t340.length co12) ∧ w'.cell? (ad370.add (t343).toNat) = some (.int .i64 (rd t337 t343))) (ds := []) #[false, false, false, false, false, false, false, false, false, false, false, false, false, false] (by kernel_rfl) rfl rfl ⟨(blk_cell BK356.out 0).trans rfl, (blk_cell BK356.out 1).trans rfl, (blk_cell BK356.out 2).trans rfl, (blk_cell BK345.out 0).trans rfl, (blk_cell BK345.out 1).trans rfl, (blk_cell BK345.out 2).trans rfl, hx370_0⟩ (fun hHeld => ?_); refine with_tabW laws_FnPutRight.tab8 laws_FnPutRight.bits8 (fun HT_ HW_ => ?_)
                      generalize wc.drew = w68 at HO_346000 HO_346001 HO_346002 HO_357000 HO_357001 HO_357002 HO_368000 HO_368001 HO_368002 BK345 BK356 BK367 HB hx370_0 hHeld ⊢
                      refine pure_ (i := 1) (N := some 58) (v := ?_) (a' := ?_) #[false, true, false, false, false, false, false, false, false, false, false, false, false, false] rfl rfl (any_of HT_.out (by kernel_rfl)) (fun _ _ _ h => h) (Or.inl ⟨by rfl, ?_⟩) ?_ ?_
                      rotate_left
                      · intro w'
                        go_simp
                        with_reducible rfl
                      rotate_left
                      · simp only [Act.put, List.setIfInBounds_toArray, List.set_cons_zero, List.set_cons_succ, i64_w, i32_w]
                        rfl
                      refine pure_ (i := 2) (N := some 59) (v := ?_) (a' := ?_) #[false, true, true, false, false, false, false, false, false, false, false, false, false, false] rfl rfl (any_of HT_.out (by kernel_rfl)) (fun _ _ _ h => h) (Or.inl ⟨by rfl, ?_⟩) ?_ ?_
                      rotate_left
                      · intro w'
                        go_simp
                        with_reducible rfl
                      rotate_left
                      · simp only [Act.put, List.setIfInBounds_toArray, List.set_cons_zero, List.set_cons_succ, i64_w, i32_w]
                        rfl
                      refine pure_ (i := 4) (N := some 61) (v := ?_) (a' := ?_) #[false, true, true, false, true, false, false, false, false, false, false, false, false, false] rfl rfl (any_of HT_.out (by kernel_rfl)) (fun _ _ _ h => h) (Or.inl ⟨by rfl, ?_⟩) ?_ ?_
                      rotate_left
                      · intro w'
                        go_simp
                        with_reducible rfl
                      rotate_left
                      · simp only [Act.put, List.setIfInBounds_toArray, List.set_cons_zero, List.set_cons_succ, i64_w, i32_w]
                        rfl
                      refine take_ (i := 0) (N := some 57) (v := ?_) (a' := ?_) #[true, true, true, false, true, false, false, false, false, false, false, false, false, false] rfl rfl (take_ofW HT_.out HW_.out (by kernel_rfl)) (fun _ _ _ h => h) (Or.inl ⟨by rfl, ?_⟩) hHeld ?_ ?_
                      rotate_left
                      · rintro w' ⟨s0, s1, s2, s3, s4, s5, s6⟩
                        go_simp
                        with_reducible rfl
                      rotate_left
                      · simp only [Act.put, List.setIfInBounds_toArray, List.set_cons_zero, List.set_cons_succ, i64_w, i32_w]
                        rfl
                      refine take_ (i := 3) (N := some 60) (v := ?_) (a' := ?_) #[true, true, true, true, true, false, false, false, false, false, false, false, false, false] rfl rfl (take_ofW HT_.out HW_.out (by kernel_rfl)) (fun _ _ _ h => h) (Or.inl ⟨by rfl, ?_⟩) hHeld ?_ ?_
                      rotate_left
                      · rintro w' ⟨s0, s1, s2, s3, s4, s5, s6⟩
                        go_simp
                        with_reducible rfl
                      rotate_left
                      · simp only [Act.put, List.setIfInBounds_toArray, List.set_cons_zero, List.set_cons_succ, i64_w, i32_w]
                        rfl
                      refine pure_ (i := 5) (N := some 62) (v := ?_) (a' := ?_) #[true, true, true, true, true, true, false, false, false, false, false, false, false, false] rfl rfl (any_of HT_.out (by kernel_rfl)) (fun _ _ _ h => h) (Or.inl ⟨by rfl, ?_⟩) ?_ ?_
                      rotate_left
                      · intro w'
                        go_simp
                        with_reducible rfl
                      rotate_left
                      · simp only [Act.put, List.setIfInBounds_toArray, List.set_cons_zero, List.set_cons_succ, i64_w, i32_w]
                        rfl
                      refine take_ (i := 6) (N := some 63) (v := ?_) (a' := ?_) #[true, true, true, true, true, true, true, false, false, false, false, false, false, false] rfl rfl (take_ofW HT_.out HW_.out (by kernel_rfl)) (fun _ _ _ h => h) (Or.inl ⟨by rfl, ?_⟩) hHeld ?_ ?_
                      rotate_left
                      · rintro w' ⟨s0, s1, s2, s3, s4, s5, s6⟩
                        go_simp
                        with_reducible rfl
                      rotate_left
                      · simp only [Act.put, List.setIfInBounds_toArray, List.set_cons_zero, List.set_cons_succ, i64_w, i32_w]
                        rfl
                      refine join_ (σ := Value × Value × Value × Nat) 2 #[true, true, true, true, true, true, true, true, true, true, true, true, false, false] (fun s_ => [(64, .tuple #[.agg #[s_.1, s_.2.1, s_.2.2.1], .bool true]), (10, .pointer (some ⟨s_.2.2.2, 0, none⟩)), (56, .tuple #[.agg #[s_.1, s_.2.1, s_.2.2.1], .bool true]), (65, .agg #[s_.1, s_.2.1, s_.2.2.1]), (66, .bool true)]) (fun s_ w' => (w'.cell? ⟨gb356, 0, none⟩ = some (.slice Ao15 t346.length co15) ∧ w'.cell? ⟨gb356, 1, none⟩ = some (.slice Ao18 t349.length co18) ∧ w'.cell? ⟨gb356, 2, none⟩ = some (.slice Ao19 t352.length co19) ∧ w'.cell? ⟨gb345, 0, none⟩ = some (.slice Ao9 t334.length co9) ∧ w'.cell? ⟨gb345, 1, none⟩ = some (.slice (some ad370) t337.length co11) ∧ w'.cell? ⟨gb345, 2, none⟩ = some (.slice Ao12 t340.length co12) ∧ w'.cell? (ad370.add (t343).toNat) = some (.int .i64 (rd t337 t343))) ∧ (Kd.R (Kd.int .i64) 3 w' w.heap.size (fun k_ => some k_ ≠ (s_.2.1 : Value).ownBlock ∧ some k_ ≠ (s_.2.2.1 : Value).ownBlock ∧ some k_ ≠ (.slice Ao9 t334.length co9 : Value).ownBlock ∧ some k_ ≠ (.slice (some ad370) t337.length co11 : Value).ownBlock ∧ some k_ ≠ (.slice Ao12 t340.length co12 : Value).ownBlock ∧ some k_ ≠ (.slice Ao15 t346.length co15 : Value).ownBlock ∧ some k_ ≠ (.slice Ao18 t349.length co18 : Value).ownBlock ∧ some k_ ≠ (.slice Ao19 t352.length co19 : Value).ownBlock ∧ some k_ ≠ (.slice Ao23 t357.length co23 : Value).ownBlock ∧ some k_ ≠ (.slice Ao27 t360.length co27 : Value).ownBlock ∧ some k_ ≠ (.slice Ao28 t363.length co28 : Value).ownBlock) s_.1 t371) ∧ (Kd.R (Kd.int .i64) 3 w' w.heap.size (fun k_ => some k_ ≠ (s_.1 : Value).ownBlock ∧ some k_ ≠ (s_.2.2.1 : Value).ownBlock ∧ some k_ ≠ (.slice Ao9 t334.length co9 : Value).ownBlock ∧ some k_ ≠ (.slice (some ad370) t337.length co11 : Value).ownBlock ∧ some k_ ≠ (.slice Ao12 t340.length co12 : Value).ownBlock ∧ some k_ ≠ (.slice Ao15 t346.length co15 : Value).ownBlock ∧ some k_ ≠ (.slice Ao18 t349.length co18 : Value).ownBlock ∧ some k_ ≠ (.slice Ao19 t352.length co19 : Value).ownBlock ∧ some k_ ≠ (.slice Ao23 t357.length co23 : Value).ownBlock ∧ some k_ ≠ (.slice Ao27 t360.length co27 : Value).ownBlock ∧ some k_ ≠ (.slice Ao28 t363.length co28 : Value).ownBlock) s_.2.1 t374) ∧ (Kd.R (Kd.int .i64) 3 w' w.heap.size (fun k_ => some k_ ≠ (s_.1 : Value).ownBlock ∧ some k_ ≠ (s_.2.1 : Value).ownBlock ∧ some k_ ≠ (.slice Ao9 t334.length co9 : Value).ownBlock ∧ some k_ ≠ (.slice (some ad370) t337.length co11 : Value).ownBlock ∧ some k_ ≠ (.slice Ao12 t340.length co12 : Value).ownBlock ∧ some k_ ≠ (.slice Ao15 t346.length co15 : Value).ownBlock ∧ some k_ ≠ (.slice Ao18 t349.length co18 : Value).ownBlock ∧ some k_ ≠ (.slice Ao19 t352.length co19 : Value).ownBlock ∧ some k_ ≠ (.slice Ao23 t357.length co23 : Value).ownBlock ∧ some k_ ≠ (.slice Ao27 t360.length co27 : Value).ownBlock ∧ some k_ ≠ (.slice Ao28 t363.length co28 : Value).ownBlock) s_.2.2.1 t377) ∧ (Kd.R (Kd.int .i64) 3 w' w.heap.size (fun k_ => some k_ ≠ (s_.1 : Value).ownBlock ∧ some k_ ≠ (s_.2.1 : Value).ownBlock ∧ some k_ ≠ (s_.2.2.1 : Value).ownBlock ∧ some k_ ≠ (.slice (some ad370) t337.length co11 : Value).ownBlock ∧ some k_ ≠ (.slice Ao12 t340.length co12 : Value).ownBlock ∧ some k_ ≠ (.slice Ao15 t346.length co15 : Value).ownBlock ∧ some k_ ≠ (.slice Ao18 t349.length co18 : Value).ownBlock ∧ some k_ ≠ (.slice Ao19 t352.length co19 : Value).ownBlock ∧ some k_ ≠ (.slice Ao23 t357.length co23 : Value).ownBlock ∧ some k_ ≠ (.slice Ao27 t360.length co27 : Value).ownBlock ∧ some k_ ≠ (.slice Ao28 t363.length co28 : Value).ownBlock) (.slice Ao9 t334.length co9) t334) ∧ (Kd.R (Kd.int .i64) 3 w' w.heap.size (fun k_ => some k_ ≠ (s_.1 : Value).ownBlock ∧ some k_ ≠ (s_.2.1 : Value).ownBlock ∧ some k_ ≠ (s_.2.2.1 : Value).ownBlock ∧ some k_ ≠ (.slice Ao9 t334.length co9 : Value).ownBlock ∧ some k_ ≠ (.slice Ao12 t340.length co12 : Value).ownBlock ∧ some k_ ≠ (.slice Ao15 t346.length co15 : Value).ownBlock ∧ some k_ ≠ (.slice Ao18 t349.length co18 : Value).ownBlock ∧ some k_ ≠ (.slice Ao19 t352.length co19 : Value).ownBlock ∧ some k_ ≠ (.slice Ao23 t357.length co23 : Value).ownBlock ∧ some k_ ≠ (.slice Ao27 t360.length co27 : Value).ownBlock ∧ some k_ ≠ (.slice Ao28 t363.length co28 : Value).ownBlock) (.slice (some ad370) t337.length co11) t337) ∧ (Kd.R (Kd.int .i64) 3 w' w.heap.size (fun k_ => some k_ ≠ (s_.1 : Value).ownBlock ∧ some k_ ≠ (s_.2.1 : Value).ownBlock ∧ some k_ ≠ (s_.2.2.1 : Value).ownBlock ∧ some k_ ≠ (.slice Ao9 t334.length co9 : Value).ownBlock ∧ some k_ ≠ (.slice (some ad370) t337.length co11 : Value).ownBlock ∧ some k_ ≠ (.slice Ao15 t346.length co15 : Value).ownBlock ∧ some k_ ≠ (.slice Ao18 t349.length co18 : Value).ownBlock ∧ some k_ ≠ (.slice Ao19 t352.length co19 : Value).ownBlock ∧ some k_ ≠ (.slice Ao23 t357.length co23 : Value).ownBlock ∧ some k_ ≠ (.slice Ao27 t360.length co27 : Value).ownBlock ∧ some k_ ≠ (.slice Ao28 t363.length co28 : Value).ownBlock) (.slice Ao12 t340.length co12) t340) ∧ (Kd.R (Kd.int .i64) 3 w' w.heap.size (fun k_ => some k_ ≠ (s_.1 : Value).ownBlock ∧ some k_ ≠ (s_.2.1 : Value).ownBlock ∧ some k_ ≠ (s_.2.2.1 : Value).ownBlock ∧ some k_ ≠ (.slice Ao9 t334.length co9 : Value).ownBlock ∧ some k_ ≠ (.slice (some ad370) t337.length co11 : Value).ownBlock ∧ some k_ ≠ (.slice Ao12 t340.length co12 : Value).ownBlock ∧ some k_ ≠ (.slice Ao18 t349.length co18 : Value).ownBlock ∧ some k_ ≠ (.slice Ao19 t352.length co19 : Value).ownBlock ∧ some k_ ≠ (.slice Ao23 t357.length co23 : Value).ownBlock ∧ some k_ ≠ (.slice Ao27 t360.length co27 : Value).ownBlock ∧ some k_ ≠ (.slice Ao28 t363.length co28 : Value).ownBlock) (.slice Ao15 t346.length co15) t346) ∧ (Kd.R (Kd.int .i64) 3 w' w.heap.size (fun k_ => some k_ ≠ (s_.1 : Value).ownBlock ∧ some k_ ≠ (s_.2.1 : Value).ownBlock ∧ some k_ ≠ (s_.2.2.1 : Value).ownBlock ∧ some k_ ≠ (.slice Ao9 t334.length co9 : Value).ownBlock ∧ some k_ ≠ (.slice (some ad370) t337.length co11 : Value).ownBlock ∧ some k_ ≠ (.slice Ao12 t340.length co12 : Value).ownBlock ∧ some k_ ≠ (.slice Ao15 t346.length co15 : Value).ownBlock ∧ some k_ ≠ (.slice Ao19 t352.length co19 : Value).ownBlock ∧ some k_ ≠ (.slice Ao23 t357.length co23 : Value).ownBlock ∧ some k_ ≠ (.slice Ao27 t360.length co27 : Value).ownBlock ∧ some k_ ≠ (.slice Ao28 t363.length co28 : Value).ownBlock) (.slice Ao18 t349.length co18) t349) ∧ (Kd.R (Kd.int .i64) 3 w' w.heap.size (fun k_ => some k_ ≠ (s_.1 : Value).ownBlock ∧ some k_ ≠ (s_.2.1 : Value).ownBlock ∧ some k_ ≠ (s_.2.2.1 : Value).ownBlock ∧ some k_ ≠ (.slice Ao9 t334.length co9 : Value).ownBlock ∧ some k_ ≠ (.slice (some ad370) t337.length co11 : Value).ownBlock ∧ some k_ ≠ (.slice Ao12 t340.length co12 : Value).ownBlock ∧ some k_ ≠ (.slice Ao15 t346.length co15 : Value).ownBlock ∧ some k_ ≠ (.slice Ao18 t349.length co18 : Value).ownBlock ∧ some k_ ≠ (.slice Ao23 t357.length co23 : Value).ownBlock ∧ some k_ ≠ (.slice Ao27 t360.length co27 : Value).ownBlock ∧ some k_ ≠ (.slice Ao28 t363.length co28 : Value).ownBlock) (.slice Ao19 t352.length co19) t352) ∧ (Kd.R (Kd.int .i64) 3 w' w.heap.size (fun k_ => some k_ ≠ (s_.1 : Value).ownBlock ∧ some k_ ≠ (s_.2.1 : Value).ownBlock ∧ some k_ ≠ (s_.2.2.1 : Value).ownBlock ∧ some k_ ≠ (.slice Ao9 t334.length co9 : Value).ownBlock ∧ some k_ ≠ (.slice (some ad370) t337.length co11 : Value).ownBlock ∧ some k_ ≠ (.slice Ao12 t340.length co12 : Value).ownBlock ∧ some k_ ≠ (.slice Ao15 t346.length co15 : Value).ownBlock ∧ some k_ ≠ (.slice Ao18 t349.length co18 : Value).ownBlock ∧ some k_ ≠ (.slice Ao19 t352.length co19 : Value).ownBlock ∧ some k_ ≠ (.slice Ao27 t360.length co27 : Value).ownBlock ∧ some k_ ≠ (.slice Ao28 t363.length co28 : Value).ownBlock) (.slice Ao23 t357.length co23) t357) ∧ (Kd.R (Kd.int .i64) 3 w' w.heap.size (fun k_ => some k_ ≠ (s_.1 : Value).ownBlock ∧ some k_ ≠ (s_.2.1 : Value).ownBlock ∧ some k_ ≠ (s_.2.2.1 : Value).ownBlock ∧ some k_ ≠ (.slice Ao9 t334.length co9 : Value).ownBlock ∧ some k_ ≠ (.slice (some ad370) t337.length co11 : Value).ownBlock ∧ some k_ ≠ (.slice Ao12 t340.length co12 : Value).ownBlock ∧ some k_ ≠ (.slice Ao15 t346.length co15 : Value).ownBlock ∧ some k_ ≠ (.slice Ao18 t349.length co18 : Value).ownBlock ∧ some k_ ≠ (.slice Ao19 t352.length co19 : Value).ownBlock ∧ some k_ ≠ (.slice Ao23 t357.length co23 : Value).ownBlock ∧ some k_ ≠ (.slice Ao28 t363.length co28 : Value).ownBlock) (.slice Ao27 t360.length co27) t360) ∧ (Kd.R (Kd.int .i64) 3 w' w.heap.size (fun k_ => some k_ ≠ (s_.1 : Value).ownBlock ∧ some k_ ≠ (s_.2.1 : Value).ownBlock ∧ some k_ ≠ (s_.2.2.1 : Value).ownBlock ∧ some k_ ≠ (.slice Ao9 t334.length co9 : Value).ownBlock ∧ some k_ ≠ (.slice (some ad370) t337.length co11 : Value).ownBlock ∧ some k_ ≠ (.slice Ao12 t340.length co12 : Value).ownBlock ∧ some k_ ≠ (.slice Ao15 t346.length co15 : Value).ownBlock ∧ some k_ ≠ (.slice Ao18 t349.length co18 : Value).ownBlock ∧ some k_ ≠ (.slice Ao19 t352.length co19 : Value).ownBlock ∧ some k_ ≠ (.slice Ao23 t357.length co23 : Value).ownBlock ∧ some k_ ≠ (.slice Ao27 t360.length co27 : Value).ownBlock) (.slice Ao28 t363.length co28) t363) ∧ (w'.heap[gb345]? = some (.cells #[.slice Ao9 t334.length co9, .slice (some ad370) t337.length co11, .slice Ao12 t340.length co12] 25 (0, 0))) ∧ (w'.heap[gb356]? = some (.cells #[.slice Ao15 t346.length co15, .slice Ao18 t349.length co18, .slice Ao19 t352.length co19] 25 (0, 0))) ∧ (w'.heap[gb367]? = some (.cells #[.slice Ao23 t357.length co23, .slice Ao27 t360.length co27, .slice Ao28 t363.length co28] 25 (0, 0))) ∧ (w'.heap[s_.2.2.2]? = some (.cells #[.slice none 0 0, .slice none 0 0, .slice none 0 0] 25 (0, 0))) ∧ (w.heap.size ≤ s_.2.2.2) ∧ (w.heap.size ≤ s_.2.2.2) ∧ (gb345 ≠ s_.2.2.2) ∧ (s_.2.2.2 ≠ gb345) ∧ (gb356 ≠ s_.2.2.2) ∧ (s_.2.2.2 ≠ gb356) ∧ (gb367 ≠ s_.2.2.2) ∧ (s_.2.2.2 ≠ gb367) ∧ (Below w.heap.size w w')) ?_ ?_
                      rotate_left
                      · intro hCont
                        refine two_ (i := 7) (j := 11) (Ni := some 64) (Nj := some 10) #[true, true, true, true, true, true, true, true, false, false, false, false, false, false] #[true, true, true, true, true, true, true, false, false, false, false, true, false, false] rfl rfl rfl rfl (two_of HT_.out (by kernel_rfl)) (by decide) (by decide) (fun K hK => ?_) (fun K hK => ?_)
                        · skip
                          refine goes_ Try.func14 (by kernel_rfl) rfl #[.agg #[.slice Ao15 t346.length co15, .slice Ao18 t349.length co18, .slice Ao19 t352.length co19], .int .i64 t343, .int .i64 (rd t337 t343)] (by rfl) rfl rfl (by (try simp only [List.map_toArray, List.map_cons, List.map_nil]); first | done | rfl | (simp only [List.length_drop, List.length_take]; rfl)) ?_
                          with_reducible refine (impl_PutRight.calls kj5 _ _ t346 _ _ t349 _ _ t352 t343 (rd t337 t343) t371 t374 t377 true _ ?side1 ?side2 ?side3 ?side4 ?side5 ?side6 A61.out).mono ?_
                          (case side1 => repeat (first | exact (Kd.R_reads' HO_357000.out).2.2 | (with_reducible refine Kd.C_alloc ?_ _) | (with_reducible refine Kd.C_drewN ?_ _) | (with_reducible refine Kd.C_drew ?_)))
                          (case side2 => exact (Kd.R_reads' HO_357000.out).2.1)
                          (case side3 => repeat (first | exact (Kd.R_reads' HO_357001.out).2.2 | (with_reducible refine Kd.C_alloc ?_ _) | (with_reducible refine Kd.C_drewN ?_ _) | (with_reducible refine Kd.C_drew ?_)))
                          (case side4 => exact (Kd.R_reads' HO_357001.out).2.1)
                          (case side5 => repeat (first | exact (Kd.R_reads' HO_357002.out).2.2 | (with_reducible refine Kd.C_alloc ?_ _) | (with_reducible refine Kd.C_drewN ?_ _) | (with_reducible refine Kd.C_drew ?_)))
                          (case side6 => exact (Kd.R_reads' HO_357002.out).2.1)
                          rintro e w69 ⟨v372, v375, v378, rfl, ho0, ho1, ho2, hb⟩
                          have HS6_ := (hb.cell (World.block_lt_of_cell? _ _ (hHeld.2.2.2.2.2.2))).trans (hHeld.2.2.2.2.2.2)
                          refine ⟨_, rfl, ?_⟩
                          have n0_ := am (Kd.R_mono (Kd.R_told (Kd.R_told (Kd.R_told (Kd.R_old (rl HO_346000.out) hb) (Kd.R_base ho0)) (Kd.R_base ho1)) (Kd.R_base ho2)) (fun _ h_ => h_.1))
                          have n1_ := am (Kd.R_mono (Kd.R_told (Kd.R_told (Kd.R_told (Kd.R_old (rl HO_346001.out) hb) (Kd.R_base ho0)) (Kd.R_base ho1)) (Kd.R_base ho2)) (fun _ h_ => h_.1))
                          have n2_ := am (Kd.R_mono (Kd.R_told (Kd.R_told (Kd.R_told (Kd.R_old (rl HO_346002.out) hb) (Kd.R_base ho0)) (Kd.R_base ho1)) (Kd.R_base ho2)) (fun _ h_ => h_.1))
                          have n3_ := am (Kd.R_mono (Kd.R_told (Kd.R_told (Kd.R_told (Kd.R_old (rl HO_357000.out) hb) (Kd.R_base ho0)) (Kd.R_base ho1)) (Kd.R_base ho2)) (fun _ h_ => h_.1))
                          have n4_ := am (Kd.R_mono (Kd.R_told (Kd.R_told (Kd.R_told (Kd.R_old (rl HO_357001.out) hb) (Kd.R_base ho0)) (Kd.R_base ho1)) (Kd.R_base ho2)) (fun _ h_ => h_.1))
                          have n5_ := am (Kd.R_mono (Kd.R_told (Kd.R_told (Kd.R_told (Kd.R_old (rl HO_357002.out) hb) (Kd.R_base ho0)) (Kd.R_base ho1)) (Kd.R_base ho2)) (fun _ h_ => h_.1))
                          have n6_ := am (Kd.R_mono (Kd.R_told (Kd.R_told (Kd.R_told (Kd.R_old (rl HO_368000.out) hb) (Kd.R_base ho0)) (Kd.R_base ho1)) (Kd.R_base ho2)) (fun _ h_ => h_.1))
                          have n7_ := am (Kd.R_mono (Kd.R_told (Kd.R_told (Kd.R_told (Kd.R_old (rl HO_368001.out) hb) (Kd.R_base ho0)) (Kd.R_base ho1)) (Kd.R_base ho2)) (fun _ h_ => h_.1))
                          have n8_ := am (Kd.R_mono (Kd.R_told (Kd.R_told (Kd.R_told (Kd.R_old (rl HO_368002.out) hb) (Kd.R_base ho0)) (Kd.R_base ho1)) (Kd.R_base ho2)) (fun _ h_ => h_.1))
                          have n9_ := am (Kd.R_lower (Kd.R_new' (Kd.R_new' (Kd.R_new' (Kd.R_new' (Kd.R_new' (Kd.R_new' (Kd.R_new' (Kd.R_new' (Kd.R_new' ho0 (Kd.R_lt (rl HO_346000.out))) (Kd.R_lt (rl HO_346001.out))) (Kd.R_lt (rl HO_346002.out))) (Kd.R_lt (rl HO_357000.out))) (Kd.R_lt (rl HO_357001.out))) (Kd.R_lt (rl HO_357002.out))) (Kd.R_lt (rl HO_368000.out))) (Kd.R_lt (rl HO_368001.out))) (Kd.R_lt (rl HO_368002.out))) (below_size (by repeat (first | (with_reducible first | exact HB.out | apply below_alloc | apply pw_below_drewN | apply below_drew1 | refine below_set ?_ GE345.out | refine below_set ?_ GE356.out | refine below_set ?_ GE367.out) | exact HB.out))))
                          have n10_ := am (Kd.R_lower (Kd.R_new' (Kd.R_new' (Kd.R_new' (Kd.R_new' (Kd.R_new' (Kd.R_new' (Kd.R_new' (Kd.R_new' (Kd.R_new' ho1 (Kd.R_lt (rl HO_346000.out))) (Kd.R_lt (rl HO_346001.out))) (Kd.R_lt (rl HO_346002.out))) (Kd.R_lt (rl HO_357000.out))) (Kd.R_lt (rl HO_357001.out))) (Kd.R_lt (rl HO_357002.out))) (Kd.R_lt (rl HO_368000.out))) (Kd.R_lt (rl HO_368001.out))) (Kd.R_lt (rl HO_368002.out))) (below_size (by repeat (first | (with_reducible first | exact HB.out | apply below_alloc | apply pw_below_drewN | apply below_drew1 | refine below_set ?_ GE345.out | refine below_set ?_ GE356.out | refine below_set ?_ GE367.out) | exact HB.out))))
                          have n11_ := am (Kd.R_lower (Kd.R_new' (Kd.R_new' (Kd.R_new' (Kd.R_new' (Kd.R_new' (Kd.R_new' (Kd.R_new' (Kd.R_new' (Kd.R_new' ho2 (Kd.R_lt (rl HO_346000.out))) (Kd.R_lt (rl HO_346001.out))) (Kd.R_lt (rl HO_346002.out))) (Kd.R_lt (rl HO_357000.out))) (Kd.R_lt (rl HO_357001.out))) (Kd.R_lt (rl HO_357002.out))) (Kd.R_lt (rl HO_368000.out))) (Kd.R_lt (rl HO_368001.out))) (Kd.R_lt (rl HO_368002.out))) (below_size (by repeat (first | (with_reducible first | exact HB.out | apply below_alloc | apply pw_below_drewN | apply below_drew1 | refine below_set ?_ GE345.out | refine below_set ?_ GE356.out | refine below_set ?_ GE367.out) | exact HB.out))))
                          have n12_ := am (blk_below (g := gb345) (o := .cells #[.slice Ao9 t334.length co9, .slice (some ad370) t337.length co11, .slice Ao12 t340.length co12] 25 (0, 0)) (kl BK345.out) hb)
                          have n13_ := am (blk_below (g := gb356) (o := .cells #[.slice Ao15 t346.length co15, .slice Ao18 t349.length co18, .slice Ao19 t352.length co19] 25 (0, 0)) (kl BK356.out) hb)
                          have n14_ := am (blk_below (g := gb367) (o := .cells #[.slice Ao23 t357.length co23, .slice Ao27 t360.length co27, .slice Ao28 t363.length co28] 25 (0, 0)) (kl BK367.out) hb)
                          have n15_ := am (below_step (by repeat (first | (with_reducible first | exact HB.out | apply below_alloc | apply pw_below_drewN | apply below_drew1 | refine below_set ?_ GE345.out | refine below_set ?_ GE356.out | refine below_set ?_ GE367.out) | exact HB.out)) hb)
                          clear HO_346000
                          clear HO_346001
                          clear HO_346002
                          clear HO_357000
                          clear HO_357001
                          clear HO_357002
                          clear HO_368000
                          clear HO_368001
                          clear HO_368002
                          clear BK345
                          clear BK356
                          clear BK367
                          clear HB
                          have HO_346000 := n0_
                          have HO_346001 := n1_
                          have HO_346002 := n2_
                          have HO_357000 := n3_
                          have HO_357001 := n4_
                          have HO_357002 := n5_
                          have HO_368000 := n6_
                          have HO_368001 := n7_
                          have HO_368002 := n8_
                          have HO373 := n9_
                          have HO376 := n10_
                          have HO379 := n11_
                          have BK345 := n12_
                          have BK356 := n13_
                          have BK367 := n14_
                          have HB := n15_
                          clear n0_ n1_ n2_ n3_ n4_ n5_ n6_ n7_ n8_ n9_ n10_ n11_ n12_ n13_ n14_ n15_
                          (try clear hb)
                          (try clear hb2)
                          (try clear hk)
                          (try clear hi)
                          (try clear ho0)
                          (try clear ho1)
                          (try clear ho2)
                          refine hK.out _ _ ⟨(blk_cell BK356.out 0).trans rfl, (blk_cell BK356.out 1).trans rfl, (blk_cell BK356.out 2).trans rfl, (blk_cell BK345.out 0).trans rfl, (blk_cell BK345.out 1).trans rfl, (blk_cell BK345.out 2).trans rfl, HS6_⟩ (fun hHeld => ?_)
                          clear hK K
                          refine norm_ (a' := ?_) ?_ ?_
                          rotate_left
                          · show Act.put _ (some 64) _ = _
                            simp only [Act.put, List.setIfInBounds_toArray, List.set_cons_zero, List.set_cons_succ, i64_w, i32_w]
                            rfl
                          refine pure_ (i := 8) (N := some 56) (v := ?_) (a' := ?_) #[true, true, true, true, true, true, true, true, true, false, false, false, false, false] rfl rfl (any_of HT_.out (by kernel_rfl)) (fun _ _ _ h => h) (Or.inl ⟨by rfl, ?_⟩) ?_ ?_
                          rotate_left
                          · intro w'
                            go_simp
                            with_reducible rfl
                          rotate_left
                          · simp only [Act.put, List.setIfInBounds_toArray, List.set_cons_zero, List.set_cons_succ, i64_w, i32_w]
                            rfl
                          refine pure_ (i := 9) (N := some 65) (v := ?_) (a' := ?_) #[true, true, true, true, true, true, true, true, true, true, false, false, false, false] rfl rfl (any_of HT_.out (by kernel_rfl)) (fun _ _ _ h => h) (Or.inl ⟨by rfl, ?_⟩) ?_ ?_
                          rotate_left
                          · intro w'
                            go_simp
                            with_reducible rfl
                          rotate_left
                          · simp only [Act.put, List.setIfInBounds_toArray, List.set_cons_zero, List.set_cons_succ, i64_w, i32_w]
                            rfl
                          refine pure_ (i := 10) (N := some 66) (v := ?_) (a' := ?_) #[true, true, true, true, true, true, true, true, true, true, true, false, false, false] rfl rfl (any_of HT_.out (by kernel_rfl)) (fun _ _ _ h => h) (Or.inl ⟨by rfl, ?_⟩) ?_ ?_
                          rotate_left
                          · intro w'
                            go_simp
                            with_reducible rfl
                          rotate_left
                          · simp only [Act.put, List.setIfInBounds_toArray, List.set_cons_zero, List.set_cons_succ, i64_w, i32_w]
                            rfl
                          refine one_ (i := 11) (N := some 10) #[true, true, true, true, true, true, true, true, true, true, true, true, false, false] rfl rfl (one_of HT_.out (by kernel_rfl)) (by decide) (fun K hK => ?_)
                          refine box_step ?hg (N := 10) ?hd (cs := #[.slice none 0 0, .slice none 0 0, .slice none 0 0]) (t := 25) ?hr ?_; (case hd => rfl); (case hg => rfl); (case hr => first | (go_simp; done) | (go_simp; rfl))
                          intro gb381 hg w70 hbox hb
                          have HS6_ := (hb.cell (World.block_lt_of_cell? _ _ (hHeld.2.2.2.2.2.2))).trans (hHeld.2.2.2.2.2.2)
                          have n0_ := am (Kd.R_below (rl HO_346000.out) hb)
                          have n1_ := am (Kd.R_below (rl HO_346001.out) hb)
                          have n2_ := am (Kd.R_below (rl HO_346002.out) hb)
                          have n3_ := am (Kd.R_below (rl HO_357000.out) hb)
                          have n4_ := am (Kd.R_below (rl HO_357001.out) hb)
                          have n5_ := am (Kd.R_below (rl HO_357002.out) hb)
                          have n6_ := am (Kd.R_below (rl HO_368000.out) hb)
                          have n7_ := am (Kd.R_below (rl HO_368001.out) hb)
                          have n8_ := am (Kd.R_below (rl HO_368002.out) hb)
                          have n9_ := am (Kd.R_below (rl HO373.out) hb)
                          have n10_ := am (Kd.R_below (rl HO376.out) hb)
                          have n11_ := am (Kd.R_below (rl HO379.out) hb)
                          have n12_ := am (blk_below (g := gb345) (o := .cells #[.slice Ao9 t334.length co9, .slice (some ad370) t337.length co11, .slice Ao12 t340.length co12] 25 (0, 0)) (kl BK345.out) hb)
                          have n13_ := am (blk_below (g := gb356) (o := .cells #[.slice Ao15 t346.length co15, .slice Ao18 t349.length co18, .slice Ao19 t352.length co19] 25 (0, 0)) (kl BK356.out) hb)
                          have n14_ := am (blk_below (g := gb367) (o := .cells #[.slice Ao23 t357.length co23, .slice Ao27 t360.length co27, .slice Ao28 t363.length co28] 25 (0, 0)) (kl BK367.out) hb)
                          have n15_ := am (below_step (by repeat (first | (with_reducible first | exact HB.out | apply below_alloc | apply pw_below_drewN | apply below_drew1 | refine below_set ?_ GE345.out | refine below_set ?_ GE356.out | refine below_set ?_ GE367.out) | exact HB.out)) hb)
                          have n16_ := am (hbox)
                          have n17_ := am ((by rw [hg]; exact (below_size (by repeat (first | (with_reducible first | exact HB.out | apply below_alloc | apply pw_below_drewN | apply below_drew1 | refine below_set ?_ GE345.out | refine below_set ?_ GE356.out | refine below_set ?_ GE367.out) | exact HB.out))) : w.heap.size ≤ gb381))
                          have n18_ := am ((by rw [hg]; exact (below_size (by repeat (first | (with_reducible first | exact HB.out | apply below_alloc | apply pw_below_drewN | apply below_drew1 | refine below_set ?_ GE345.out | refine below_set ?_ GE356.out | refine below_set ?_ GE367.out) | exact HB.out))) : w.heap.size ≤ gb381))
                          have n19_ := am ((by rw [hg]; exact Nat.ne_of_lt (blk_lt (g := gb345) (o := .cells #[.slice Ao9 t334.length co9, .slice (some ad370) t337.length co11, .slice Ao12 t340.length co12] 25 (0, 0)) (kl BK345.out)) : gb345 ≠ gb381))
                          have n20_ := am ((by rw [hg]; exact Nat.ne_of_gt (blk_lt (g := gb345) (o := .cells #[.slice Ao9 t334.length co9, .slice (some ad370) t337.length co11, .slice Ao12 t340.length co12] 25 (0, 0)) (kl BK345.out)) : gb381 ≠ gb345))
                          have n21_ := am ((by rw [hg]; exact Nat.ne_of_lt (blk_lt (g := gb356) (o := .cells #[.slice Ao15 t346.length co15, .slice Ao18 t349.length co18, .slice Ao19 t352.length co19] 25 (0, 0)) (kl BK356.out)) : gb356 ≠ gb381))
                          have n22_ := am ((by rw [hg]; exact Nat.ne_of_gt (blk_lt (g := gb356) (o := .cells #[.slice Ao15 t346.length co15, .slice Ao18 t349.length co18, .slice Ao19 t352.length co19] 25 (0, 0)) (kl BK356.out)) : gb381 ≠ gb356))
                          have n23_ := am ((by rw [hg]; exact Nat.ne_of_lt (blk_lt (g := gb367) (o := .cells #[.slice Ao23 t357.length co23, .slice Ao27 t360.length co27, .slice Ao28 t363.length co28] 25 (0, 0)) (kl BK367.out)) : gb367 ≠ gb381))
                          have n24_ := am ((by rw [hg]; exact Nat.ne_of_gt (blk_lt (g := gb367) (o := .cells #[.slice Ao23 t357.length co23, .slice Ao27 t360.length co27, .slice Ao28 t363.length co28] 25 (0, 0)) (kl BK367.out)) : gb381 ≠ gb367))
                          clear HO_346000
                          clear HO_346001
                          clear HO_346002
                          clear HO_357000
                          clear HO_357001
                          clear HO_357002
                          clear HO_368000
                          clear HO_368001
                          clear HO_368002
                          clear HO373
                          clear HO376
                          clear HO379
                          clear BK345
                          clear BK356
                          clear BK367
                          clear HB
                          have HO_346000 := n0_
                          have HO_346001 := n1_
                          have HO_346002 := n2_
                          have HO_357000 := n3_
                          have HO_357001 := n4_
                          have HO_357002 := n5_
                          have HO_368000 := n6_
                          have HO_368001 := n7_
                          have HO_368002 := n8_
                          have HO373 := n9_
                          have HO376 := n10_
                          have HO379 := n11_
                          have BK345 := n12_
                          have BK356 := n13_
                          have BK367 := n14_
                          have HB := n15_
                          have BK381 := n16_
                          have GW381 := n17_
                          have GE381 := n18_
                          have NB345_381 := n19_
                          have NB381_345 := n20_
                          have NB356_381 := n21_
                          have NB381_356 := n22_
                          have NB367_381 := n23_
                          have NB381_367 := n24_
                          clear n0_ n1_ n2_ n3_ n4_ n5_ n6_ n7_ n8_ n9_ n10_ n11_ n12_ n13_ n14_ n15_ n16_ n17_ n18_ n19_ n20_ n21_ n22_ n23_ n24_
                          clear hb hbox hg
                          refine hK.out _ _ ⟨(blk_cell BK356.out 0).trans rfl, (blk_cell BK356.out 1).trans rfl, (blk_cell BK356.out 2).trans rfl, (blk_cell BK345.out 0).trans rfl, (blk_cell BK345.out 1).trans rfl, (blk_cell BK345.out 2).trans rfl, HS6_⟩ (fun hHeld => ?_)
                          clear hK K
                          refine norm_ (a' := ?_) ?_ ?_
                          rotate_left
                          · show Act.put _ (some 10) _ = _
                            simp only [Act.put, List.setIfInBounds_toArray, List.set_cons_zero, List.set_cons_succ, i64_w, i32_w]
                            rfl
                          exact norm_ (by simp only [putAll, Act.put, List.setIfInBounds_toArray, List.set_cons_zero, List.set_cons_succ]) (hCont (v372, v375, v378, gb381) _ ⟨hHeld, (rl (Kd.R_mono HO373.out (fun _ hk => by simp only [ne_eq] at hk ⊢; simp only [hk, not_false_eq_true, and_self]))), (rl (Kd.R_mono HO376.out (fun _ hk => by simp only [ne_eq] at hk ⊢; simp only [hk, not_false_eq_true, and_self]))), (rl (Kd.R_mono HO379.out (fun _ hk => by simp only [ne_eq] at hk ⊢; simp only [hk, not_false_eq_true, and_self]))), (rl (Kd.R_mono HO_346000.out (fun _ hk => by simp only [ne_eq] at hk ⊢; simp only [hk, not_false_eq_true, and_self]))), (rl (Kd.R_mono HO_346001.out (fun _ hk => by simp only [ne_eq] at hk ⊢; simp only [hk, not_false_eq_true, and_self]))), (rl (Kd.R_mono HO_346002.out (fun _ hk => by simp only [ne_eq] at hk ⊢; simp only [hk, not_false_eq_true, and_self]))), (rl (Kd.R_mono HO_357000.out (fun _ hk => by simp only [ne_eq] at hk ⊢; simp only [hk, not_false_eq_true, and_self]))), (rl (Kd.R_mono HO_357001.out (fun _ hk => by simp only [ne_eq] at hk ⊢; simp only [hk, not_false_eq_true, and_self]))), (rl (Kd.R_mono HO_357002.out (fun _ hk => by simp only [ne_eq] at hk ⊢; simp only [hk, not_false_eq_true, and_self]))), (rl (Kd.R_mono HO_368000.out (fun _ hk => by simp only [ne_eq] at hk ⊢; simp only [hk, not_false_eq_true, and_self]))), (rl (Kd.R_mono HO_368001.out (fun _ hk => by simp only [ne_eq] at hk ⊢; simp only [hk, not_false_eq_true, and_self]))), (rl (Kd.R_mono HO_368002.out (fun _ hk => by simp only [ne_eq] at hk ⊢; simp only [hk, not_false_eq_true, and_self]))), (kl BK345.out), (kl BK356.out), (kl BK367.out), (kl BK381.out), GW381.out, GE381.out, NB345_381.out, NB381_345.out, NB356_381.out, NB381_356.out, NB367_381.out, NB381_367.out, (by repeat (first | (with_reducible first | exact HB.out | apply below_alloc | apply pw_below_drewN | apply below_drew1 | refine below_set ?_ GE345.out | refine below_set ?_ GE356.out | refine below_set ?_ GE367.out | refine below_set ?_ GE381.out) | exact HB.out))⟩)
                        · skip
                          refine box_step ?hg (N := 10) ?hd (cs := #[.slice none 0 0, .slice none 0 0, .slice none 0 0]) (t := 25) ?hr ?_; (case hd => rfl); (case hg => rfl); (case hr => first | (go_simp; done) | (go_simp; rfl))
                          intro gb381 hg w69 hbox hb
                          have HS6_ := (hb.cell (World.block_lt_of_cell? _ _ (hHeld.2.2.2.2.2.2))).trans (hHeld.2.2.2.2.2.2)
                          have n0_ := am (Kd.R_below (rl HO_346000.out) hb)
                          have n1_ := am (Kd.R_below (rl HO_346001.out) hb)
                          have n2_ := am (Kd.R_below (rl HO_346002.out) hb)
                          have n3_ := am (Kd.R_below (rl HO_357000.out) hb)
                          have n4_ := am (Kd.R_below (rl HO_357001.out) hb)
                          have n5_ := am (Kd.R_below (rl HO_357002.out) hb)
                          have n6_ := am (Kd.R_below (rl HO_368000.out) hb)
                          have n7_ := am (Kd.R_below (rl HO_368001.out) hb)
                          have n8_ := am (Kd.R_below (rl HO_368002.out) hb)
                          have n9_ := am (blk_below (g := gb345) (o := .cells #[.slice Ao9 t334.length co9, .slice (some ad370) t337.length co11, .slice Ao12 t340.length co12] 25 (0, 0)) (kl BK345.out) hb)
                          have n10_ := am (blk_below (g := gb356) (o := .cells #[.slice Ao15 t346.length co15, .slice Ao18 t349.length co18, .slice Ao19 t352.length co19] 25 (0, 0)) (kl BK356.out) hb)
                          have n11_ := am (blk_below (g := gb367) (o := .cells #[.slice Ao23 t357.length co23, .slice Ao27 t360.length co27, .slice Ao28 t363.length co28] 25 (0, 0)) (kl BK367.out) hb)
                          have n12_ := am (below_step (by repeat (first | (with_reducible first | exact HB.out | apply below_alloc | apply pw_below_drewN | apply below_drew1 | refine below_set ?_ GE345.out | refine below_set ?_ GE356.out | refine below_set ?_ GE367.out) | exact HB.out)) hb)
                          have n13_ := am (hbox)
                          have n14_ := am ((by rw [hg]; exact (below_size (by repeat (first | (with_reducible first | exact HB.out | apply below_alloc | apply pw_below_drewN | apply below_drew1 | refine below_set ?_ GE345.out | refine below_set ?_ GE356.out | refine below_set ?_ GE367.out) | exact HB.out))) : w.heap.size ≤ gb381))
                          have n15_ := am ((by rw [hg]; exact (below_size (by repeat (first | (with_reducible first | exact HB.out | apply below_alloc | apply pw_below_drewN | apply below_drew1 | refine below_set ?_ GE345.out | refine below_set ?_ GE356.out | refine below_set ?_ GE367.out) | exact HB.out))) : w.heap.size ≤ gb381))
                          have n16_ := am ((by rw [hg]; exact Nat.ne_of_lt (blk_lt (g := gb345) (o := .cells #[.slice Ao9 t334.length co9, .slice (some ad370) t337.length co11, .slice Ao12 t340.length co12] 25 (0, 0)) (kl BK345.out)) : gb345 ≠ gb381))
                          have n17_ := am ((by rw [hg]; exact Nat.ne_of_gt (blk_lt (g := gb345) (o := .cells #[.slice Ao9 t334.length co9, .slice (some ad370) t337.length co11, .slice Ao12 t340.length co12] 25 (0, 0)) (kl BK345.out)) : gb381 ≠ gb345))
                          have n18_ := am ((by rw [hg]; exact Nat.ne_of_lt (blk_lt (g := gb356) (o := .cells #[.slice Ao15 t346.length co15, .slice Ao18 t349.length co18, .slice Ao19 t352.length co19] 25 (0, 0)) (kl BK356.out)) : gb356 ≠ gb381))
                          have n19_ := am ((by rw [hg]; exact Nat.ne_of_gt (blk_lt (g := gb356) (o := .cells #[.slice Ao15 t346.length co15, .slice Ao18 t349.length co18, .slice Ao19 t352.length co19] 25 (0, 0)) (kl BK356.out)) : gb381 ≠ gb356))
                          have n20_ := am ((by rw [hg]; exact Nat.ne_of_lt (blk_lt (g := gb367) (o := .cells #[.slice Ao23 t357.length co23, .slice Ao27 t360.length co27, .slice Ao28 t363.length co28] 25 (0, 0)) (kl BK367.out)) : gb367 ≠ gb381))
                          have n21_ := am ((by rw [hg]; exact Nat.ne_of_gt (blk_lt (g := gb367) (o := .cells #[.slice Ao23 t357.length co23, .slice Ao27 t360.length co27, .slice Ao28 t363.length co28] 25 (0, 0)) (kl BK367.out)) : gb381 ≠ gb367))
                          clear HO_346000
                          clear HO_346001
                          clear HO_346002
                          clear HO_357000
                          clear HO_357001
                          clear HO_357002
                          clear HO_368000
                          clear HO_368001
                          clear HO_368002
                          clear BK345
                          clear BK356
                          clear BK367
                          clear HB
                          have HO_346000 := n0_
                          have HO_346001 := n1_
                          have HO_346002 := n2_
                          have HO_357000 := n3_
                          have HO_357001 := n4_
                          have HO_357002 := n5_
                          have HO_368000 := n6_
                          have HO_368001 := n7_
                          have HO_368002 := n8_
                          have BK345 := n9_
                          have BK356 := n10_
                          have BK367 := n11_
                          have HB := n12_
                          have BK381 := n13_
                          have GW381 := n14_
                          have GE381 := n15_
                          have NB345_381 := n16_
                          have NB381_345 := n17_
                          have NB356_381 := n18_
                          have NB381_356 := n19_
                          have NB367_381 := n20_
                          have NB381_367 := n21_
                          clear n0_ n1_ n2_ n3_ n4_ n5_ n6_ n7_ n8_ n9_ n10_ n11_ n12_ n13_ n14_ n15_ n16_ n17_ n18_ n19_ n20_ n21_
                          clear hb hbox hg
                          refine hK.out _ _ ⟨(blk_cell BK356.out 0).trans rfl, (blk_cell BK356.out 1).trans rfl, (blk_cell BK356.out 2).trans rfl, (blk_cell BK345.out 0).trans rfl, (blk_cell BK345.out 1).trans rfl, (blk_cell BK345.out 2).trans rfl, HS6_⟩ (fun hHeld => ?_)
                          clear hK K
                          refine norm_ (a' := ?_) ?_ ?_
                          rotate_left
                          · show Act.put _ (some 10) _ = _
                            simp only [Act.put, List.setIfInBounds_toArray, List.set_cons_zero, List.set_cons_succ, i64_w, i32_w]
                            rfl
                          refine one_ (i := 7) (N := some 64) #[true, true, true, true, true, true, true, true, false, false, false, true, false, false] rfl rfl (one_of HT_.out (by kernel_rfl)) (by decide) (fun K hK => ?_)
                          refine goes_ Try.func14 (by kernel_rfl) rfl #[.agg #[.slice Ao15 t346.length co15, .slice Ao18 t349.length co18, .slice Ao19 t352.length co19], .int .i64 t343, .int .i64 (rd t337 t343)] (by rfl) rfl rfl (by (try simp only [List.map_toArray, List.map_cons, List.map_nil]); first | done | rfl | (simp only [List.length_drop, List.length_take]; rfl)) ?_
                          with_reducible refine (impl_PutRight.calls kj5 _ _ t346 _ _ t349 _ _ t352 t343 (rd t337 t343) t371 t374 t377 true _ ?side1 ?side2 ?side3 ?side4 ?side5 ?side6 A61.out).mono ?_
                          (case side1 => repeat (first | exact (Kd.R_reads' HO_357000.out).2.2 | (with_reducible refine Kd.C_alloc ?_ _) | (with_reducible refine Kd.C_drewN ?_ _) | (with_reducible refine Kd.C_drew ?_)))
                          (case side2 => exact (Kd.R_reads' HO_357000.out).2.1)
                          (case side3 => repeat (first | exact (Kd.R_reads' HO_357001.out).2.2 | (with_reducible refine Kd.C_alloc ?_ _) | (with_reducible refine Kd.C_drewN ?_ _) | (with_reducible refine Kd.C_drew ?_)))
                          (case side4 => exact (Kd.R_reads' HO_357001.out).2.1)
                          (case side5 => repeat (first | exact (Kd.R_reads' HO_357002.out).2.2 | (with_reducible refine Kd.C_alloc ?_ _) | (with_reducible refine Kd.C_drewN ?_ _) | (with_reducible refine Kd.C_drew ?_)))
                          (case side6 => exact (Kd.R_reads' HO_357002.out).2.1)
                          rintro e w70 ⟨v372, v375, v378, rfl, ho0, ho1, ho2, hb⟩
                          have HS6_ := (hb.cell (World.block_lt_of_cell? _ _ (hHeld.2.2.2.2.2.2))).trans (hHeld.2.2.2.2.2.2)
                          refine ⟨_, rfl, ?_⟩
                          have n0_ := am (Kd.R_mono (Kd.R_told (Kd.R_told (Kd.R_told (Kd.R_old (rl HO_346000.out) hb) (Kd.R_base ho0)) (Kd.R_base ho1)) (Kd.R_base ho2)) (fun _ h_ => h_.1))
                          have n1_ := am (Kd.R_mono (Kd.R_told (Kd.R_told (Kd.R_told (Kd.R_old (rl HO_346001.out) hb) (Kd.R_base ho0)) (Kd.R_base ho1)) (Kd.R_base ho2)) (fun _ h_ => h_.1))
                          have n2_ := am (Kd.R_mono (Kd.R_told (Kd.R_told (Kd.R_told (Kd.R_old (rl HO_346002.out) hb) (Kd.R_base ho0)) (Kd.R_base ho1)) (Kd.R_base ho2)) (fun _ h_ => h_.1))
                          have n3_ := am (Kd.R_mono (Kd.R_told (Kd.R_told (Kd.R_told (Kd.R_old (rl HO_357000.out) hb) (Kd.R_base ho0)) (Kd.R_base ho1)) (Kd.R_base ho2)) (fun _ h_ => h_.1))
                          have n4_ := am (Kd.R_mono (Kd.R_told (Kd.R_told (Kd.R_told (Kd.R_old (rl HO_357001.out) hb) (Kd.R_base ho0)) (Kd.R_base ho1)) (Kd.R_base ho2)) (fun _ h_ => h_.1))
                          have n5_ := am (Kd.R_mono (Kd.R_told (Kd.R_told (Kd.R_told (Kd.R_old (rl HO_357002.out) hb) (Kd.R_base ho0)) (Kd.R_base ho1)) (Kd.R_base ho2)) (fun _ h_ => h_.1))
                          have n6_ := am (Kd.R_mono (Kd.R_told (Kd.R_told (Kd.R_told (Kd.R_old (rl HO_368000.out) hb) (Kd.R_base ho0)) (Kd.R_base ho1)) (Kd.R_base ho2)) (fun _ h_ => h_.1))
                          have n7_ := am (Kd.R_mono (Kd.R_told (Kd.R_told (Kd.R_told (Kd.R_old (rl HO_368001.out) hb) (Kd.R_base ho0)) (Kd.R_base ho1)) (Kd.R_base ho2)) (fun _ h_ => h_.1))
                          have n8_ := am (Kd.R_mono (Kd.R_told (Kd.R_told (Kd.R_told (Kd.R_old (rl HO_368002.out) hb) (Kd.R_base ho0)) (Kd.R_base ho1)) (Kd.R_base ho2)) (fun _ h_ => h_.1))
                          have n9_ := am (Kd.R_lower (Kd.R_new' (Kd.R_new' (Kd.R_new' (Kd.R_new' (Kd.R_new' (Kd.R_new' (Kd.R_new' (Kd.R_new' (Kd.R_new' ho0 (Kd.R_lt (rl HO_346000.out))) (Kd.R_lt (rl HO_346001.out))) (Kd.R_lt (rl HO_346002.out))) (Kd.R_lt (rl HO_357000.out))) (Kd.R_lt (rl HO_357001.out))) (Kd.R_lt (rl HO_357002.out))) (Kd.R_lt (rl HO_368000.out))) (Kd.R_lt (rl HO_368001.out))) (Kd.R_lt (rl HO_368002.out))) (below_size (by repeat (first | (with_reducible first | exact HB.out | apply below_alloc | apply pw_below_drewN | apply below_drew1 | refine below_set ?_ GE345.out | refine below_set ?_ GE356.out | refine below_set ?_ GE367.out | refine below_set ?_ GE381.out) | exact HB.out))))
                          have n10_ := am (Kd.R_lower (Kd.R_new' (Kd.R_new' (Kd.R_new' (Kd.R_new' (Kd.R_new' (Kd.R_new' (Kd.R_new' (Kd.R_new' (Kd.R_new' ho1 (Kd.R_lt (rl HO_346000.out))) (Kd.R_lt (rl HO_346001.out))) (Kd.R_lt (rl HO_346002.out))) (Kd.R_lt (rl HO_357000.out))) (Kd.R_lt (rl HO_357001.out))) (Kd.R_lt (rl HO_357002.out))) (Kd.R_lt (rl HO_368000.out))) (Kd.R_lt (rl HO_368001.out))) (Kd.R_lt (rl HO_368002.out))) (below_size (by repeat (first | (with_reducible first | exact HB.out | apply below_alloc | apply pw_below_drewN | apply below_drew1 | refine below_set ?_ GE345.out | refine below_set ?_ GE356.out | refine below_set ?_ GE367.out | refine below_set ?_ GE381.out) | exact HB.out))))
                          have n11_ := am (Kd.R_lower (Kd.R_new' (Kd.R_new' (Kd.R_new' (Kd.R_new' (Kd.R_new' (Kd.R_new' (Kd.R_new' (Kd.R_new' (Kd.R_new' ho2 (Kd.R_lt (rl HO_346000.out))) (Kd.R_lt (rl HO_346001.out))) (Kd.R_lt (rl HO_346002.out))) (Kd.R_lt (rl HO_357000.out))) (Kd.R_lt (rl HO_357001.out))) (Kd.R_lt (rl HO_357002.out))) (Kd.R_lt (rl HO_368000.out))) (Kd.R_lt (rl HO_368001.out))) (Kd.R_lt (rl HO_368002.out))) (below_size (by repeat (first | (with_reducible first | exact HB.out | apply below_alloc | apply pw_below_drewN | apply below_drew1 | refine below_set ?_ GE345.out | refine below_set ?_ GE356.out | refine below_set ?_ GE367.out | refine below_set ?_ GE381.out) | exact HB.out))))
                          have n12_ := am (blk_below (g := gb345) (o := .cells #[.slice Ao9 t334.length co9, .slice (some ad370) t337.length co11, .slice Ao12 t340.length co12] 25 (0, 0)) (kl BK345.out) hb)
                          have n13_ := am (blk_below (g := gb356) (o := .cells #[.slice Ao15 t346.length co15, .slice Ao18 t349.length co18, .slice Ao19 t352.length co19] 25 (0, 0)) (kl BK356.out) hb)
                          have n14_ := am (blk_below (g := gb367) (o := .cells #[.slice Ao23 t357.length co23, .slice Ao27 t360.length co27, .slice Ao28 t363.length co28] 25 (0, 0)) (kl BK367.out) hb)
                          have n15_ := am (blk_below (g := gb381) (o := .cells #[.slice none 0 0, .slice none 0 0, .slice none 0 0] 25 (0, 0)) (kl BK381.out) hb)
                          have n16_ := am (below_step (by repeat (first | (with_reducible first | exact HB.out | apply below_alloc | apply pw_below_drewN | apply below_drew1 | refine below_set ?_ GE345.out | refine below_set ?_ GE356.out | refine below_set ?_ GE367.out | refine below_set ?_ GE381.out) | exact HB.out)) hb)
                          clear HO_346000
                          clear HO_346001
                          clear HO_346002
                          clear HO_357000
                          clear HO_357001
                          clear HO_357002
                          clear HO_368000
                          clear HO_368001
                          clear HO_368002
                          clear BK345
                          clear BK356
                          clear BK367
                          clear BK381
                          clear HB
                          have HO_346000 := n0_
                          have HO_346001 := n1_
                          have HO_346002 := n2_
                          have HO_357000 := n3_
                          have HO_357001 := n4_
                          have HO_357002 := n5_
                          have HO_368000 := n6_
                          have HO_368001 := n7_
                          have HO_368002 := n8_
                          have HO373 := n9_
                          have HO376 := n10_
                          have HO379 := n11_
                          have BK345 := n12_
                          have BK356 := n13_
                          have BK367 := n14_
                          have BK381 := n15_
                          have HB := n16_
                          clear n0_ n1_ n2_ n3_ n4_ n5_ n6_ n7_ n8_ n9_ n10_ n11_ n12_ n13_ n14_ n15_ n16_
                          (try clear hb)
                          (try clear hb2)
                          (try clear hk)
                          (try clear hi)
                          (try clear ho0)
                          (try clear ho1)
                          (try clear ho2)
                          refine hK.out _ _ ⟨(blk_cell BK356.out 0).trans rfl, (blk_cell BK356.out 1).trans rfl, (blk_cell BK356.out 2).trans rfl, (blk_cell BK345.out 0).trans rfl, (blk_cell BK345.out 1).trans rfl, (blk_cell BK345.out 2).trans rfl, HS6_⟩ (fun hHeld => ?_)
                          clear hK K
                          refine norm_ (a' := ?_) ?_ ?_
                          rotate_left
                          · show Act.put _ (some 64) _ = _
                            simp only [Act.put, List.setIfInBounds_toArray, List.set_cons_zero, List.set_cons_succ, i64_w, i32_w]
                            rfl
                          refine pure_ (i := 8) (N := some 56) (v := ?_) (a' := ?_) #[true, true, true, true, true, true, true, true, true, false, false, true, false, false] rfl rfl (any_of HT_.out (by kernel_rfl)) (fun _ _ _ h => h) (Or.inl ⟨by rfl, ?_⟩) ?_ ?_
                          rotate_left
                          · intro w'
                            go_simp
                            with_reducible rfl
                          rotate_left
                          · simp only [Act.put, List.setIfInBounds_toArray, List.set_cons_zero, List.set_cons_succ, i64_w, i32_w]
                            rfl
                          refine pure_ (i := 9) (N := some 65) (v := ?_) (a' := ?_) #[true, true, true, true, true, true, true, true, true, true, false, true, false, false] rfl rfl (any_of HT_.out (by kernel_rfl)) (fun _ _ _ h => h) (Or.inl ⟨by rfl, ?_⟩) ?_ ?_
                          rotate_left
                          · intro w'
                            go_simp
                            with_reducible rfl
                          rotate_left
                          · simp only [Act.put, List.setIfInBounds_toArray, List.set_cons_zero, List.set_cons_succ, i64_w, i32_w]
                            rfl
                          refine pure_ (i := 10) (N := some 66) (v := ?_) (a' := ?_) #[true, true, true, true, true, true, true, true, true, true, true, true, false, false] rfl rfl (any_of HT_.out (by kernel_rfl)) (fun _ _ _ h => h) (Or.inl ⟨by rfl, ?_⟩) ?_ ?_
                          rotate_left
                          · intro w'
                            go_simp
                            with_reducible rfl
                          rotate_left
                          · simp only [Act.put, List.setIfInBounds_toArray, List.set_cons_zero, List.set_cons_succ, i64_w, i32_w]
                            rfl
                          exact norm_ (by simp only [putAll, Act.put, List.setIfInBounds_toArray, List.set_cons_zero, List.set_cons_succ]) (hCont (v372, v375, v378, gb381) _ ⟨hHeld, (rl (Kd.R_mono HO373.out (fun _ hk => by simp only [ne_eq] at hk ⊢; simp only [hk, not_false_eq_true, and_self]))), (rl (Kd.R_mono HO376.out (fun _ hk => by simp only [ne_eq] at hk ⊢; simp only [hk, not_false_eq_true, and_self]))), (rl (Kd.R_mono HO379.out (fun _ hk => by simp only [ne_eq] at hk ⊢; simp only [hk, not_false_eq_true, and_self]))), (rl (Kd.R_mono HO_346000.out (fun _ hk => by simp only [ne_eq] at hk ⊢; simp only [hk, not_false_eq_true, and_self]))), (rl (Kd.R_mono HO_346001.out (fun _ hk => by simp only [ne_eq] at hk ⊢; simp only [hk, not_false_eq_true, and_self]))), (rl (Kd.R_mono HO_346002.out (fun _ hk => by simp only [ne_eq] at hk ⊢; simp only [hk, not_false_eq_true, and_self]))), (rl (Kd.R_mono HO_357000.out (fun _ hk => by simp only [ne_eq] at hk ⊢; simp only [hk, not_false_eq_true, and_self]))), (rl (Kd.R_mono HO_357001.out (fun _ hk => by simp only [ne_eq] at hk ⊢; simp only [hk, not_false_eq_true, and_self]))), (rl (Kd.R_mono HO_357002.out (fun _ hk => by simp only [ne_eq] at hk ⊢; simp only [hk, not_false_eq_true, and_self]))), (rl (Kd.R_mono HO_368000.out (fun _ hk => by simp only [ne_eq] at hk ⊢; simp only [hk, not_false_eq_true, and_self]))), (rl (Kd.R_mono HO_368001.out (fun _ hk => by simp only [ne_eq] at hk ⊢; simp only [hk, not_false_eq_true, and_self]))), (rl (Kd.R_mono HO_368002.out (fun _ hk => by simp only [ne_eq] at hk ⊢; simp only [hk, not_false_eq_true, and_self]))), (kl BK345.out), (kl BK356.out), (kl BK367.out), (kl BK381.out), GW381.out, GE381.out, NB345_381.out, NB381_345.out, NB356_381.out, NB381_356.out, NB367_381.out, NB381_367.out, (by repeat (first | (with_reducible first | exact HB.out | apply below_alloc | apply pw_below_drewN | apply below_drew1 | refine below_set ?_ GE345.out | refine below_set ?_ GE356.out | refine below_set ?_ GE367.out | refine below_set ?_ GE381.out) | exact HB.out))⟩)
                      rintro ⟨v372, v375, v378, gb381⟩ w71 ⟨hS_, h0_, h1_, h2_, h3_, h4_, h5_, h6_, h7_, h8_, h9_, h10_, h11_, h12_, h13_, h14_, h15_, h16_, h17_, h18_, h19_, h20_, h21_, h22_, h23_, h24_⟩
                      have n0_ : Aside0 (Kd.R (Kd.int .i64) 3 w71 w.heap.size (fun k_ => some k_ ≠ (v375 : Value).ownBlock ∧ some k_ ≠ (v378 : Value).ownBlock ∧ some k_ ≠ (.slice Ao9 t334.length co9 : Value).ownBlock ∧ some k_ ≠ (.slice (some ad370) t337.length co11 : Value).ownBlock ∧ some k_ ≠ (.slice Ao12 t340.length co12 : Value).ownBlock ∧ some k_ ≠ (.slice Ao15 t346.length co15 : Value).ownBlock ∧ some k_ ≠ (.slice Ao18 t349.length co18 : Value).ownBlock ∧ some k_ ≠ (.slice Ao19 t352.length co19 : Value).ownBlock ∧ some k_ ≠ (.slice Ao23 t357.length co23 : Value).ownBlock ∧ some k_ ≠ (.slice Ao27 t360.length co27 : Value).ownBlock ∧ some k_ ≠ (.slice Ao28 t363.length co28 : Value).ownBlock) v372 t371) := ⟨h0_⟩
                      have n1_ : Aside0 (Kd.R (Kd.int .i64) 3 w71 w.heap.size (fun k_ => some k_ ≠ (v372 : Value).ownBlock ∧ some k_ ≠ (v378 : Value).ownBlock ∧ some k_ ≠ (.slice Ao9 t334.length co9 : Value).ownBlock ∧ some k_ ≠ (.slice (some ad370) t337.length co11 : Value).ownBlock ∧ some k_ ≠ (.slice Ao12 t340.length co12 : Value).ownBlock ∧ some k_ ≠ (.slice Ao15 t346.length co15 : Value).ownBlock ∧ some k_ ≠ (.slice Ao18 t349.length co18 : Value).ownBlock ∧ some k_ ≠ (.slice Ao19 t352.length co19 : Value).ownBlock ∧ some k_ ≠ (.slice Ao23 t357.length co23 : Value).ownBlock ∧ some k_ ≠ (.slice Ao27 t360.length co27 : Value).ownBlock ∧ some k_ ≠ (.slice Ao28 t363.length co28 : Value).ownBlock) v375 t374) := ⟨h1_⟩
                      have n2_ : Aside0 (Kd.R (Kd.int .i64) 3 w71 w.heap.size (fun k_ => some k_ ≠ (v372 : Value).ownBlock ∧ some k_ ≠ (v375 : Value).ownBlock ∧ some k_ ≠ (.slice Ao9 t334.length co9 : Value).ownBlock ∧ some k_ ≠ (.slice (some ad370) t337.length co11 : Value).ownBlock ∧ some k_ ≠ (.slice Ao12 t340.length co12 : Value).ownBlock ∧ some k_ ≠ (.slice Ao15 t346.length co15 : Value).ownBlock ∧ some k_ ≠ (.slice Ao18 t349.length co18 : Value).ownBlock ∧ some k_ ≠ (.slice Ao19 t352.length co19 : Value).ownBlock ∧ some k_ ≠ (.slice Ao23 t357.length co23 : Value).ownBlock ∧ some k_ ≠ (.slice Ao27 t360.length co27 : Value).ownBlock ∧ some k_ ≠ (.slice Ao28 t363.length co28 : Value).ownBlock) v378 t377) := ⟨h2_⟩
                      have n3_ : Aside0 (Kd.R (Kd.int .i64) 3 w71 w.heap.size (fun k_ => some k_ ≠ (v372 : Value).ownBlock ∧ some k_ ≠ (v375 : Value).ownBlock ∧ some k_ ≠ (v378 : Value).ownBlock ∧ some k_ ≠ (.slice (some ad370) t337.length co11 : Value).ownBlock ∧ some k_ ≠ (.slice Ao12 t340.length co12 : Value).ownBlock ∧ some k_ ≠ (.slice Ao15 t346.length co15 : Value).ownBlock ∧ some k_ ≠ (.slice Ao18 t349.length co18 : Value).ownBlock ∧ some k_ ≠ (.slice Ao19 t352.length co19 : Value).ownBlock ∧ some k_ ≠ (.slice Ao23 t357.length co23 : Value).ownBlock ∧ some k_ ≠ (.slice Ao27 t360.length co27 : Value).ownBlock ∧ some k_ ≠ (.slice Ao28 t363.length co28 : Value).ownBlock) (.slice Ao9 t334.length co9) t334) := ⟨h3_⟩
                      have n4_ : Aside0 (Kd.R (Kd.int .i64) 3 w71 w.heap.size (fun k_ => some k_ ≠ (v372 : Value).ownBlock ∧ some k_ ≠ (v375 : Value).ownBlock ∧ some k_ ≠ (v378 : Value).ownBlock ∧ some k_ ≠ (.slice Ao9 t334.length co9 : Value).ownBlock ∧ some k_ ≠ (.slice Ao12 t340.length co12 : Value).ownBlock ∧ some k_ ≠ (.slice Ao15 t346.length co15 : Value).ownBlock ∧ some k_ ≠ (.slice Ao18 t349.length co18 : Value).ownBlock ∧ some k_ ≠ (.slice Ao19 t352.length co19 : Value).ownBlock ∧ some k_ ≠ (.slice Ao23 t357.length co23 : Value).ownBlock ∧ some k_ ≠ (.slice Ao27 t360.length co27 : Value).ownBlock ∧ some k_ ≠ (.slice Ao28 t363.length co28 : Value).ownBlock) (.slice (some ad370) t337.length co11) t337) := ⟨h4_⟩
                      have n5_ : Aside0 (Kd.R (Kd.int .i64) 3 w71 w.heap.size (fun k_ => some k_ ≠ (v372 : Value).ownBlock ∧ some k_ ≠ (v375 : Value).ownBlock ∧ some k_ ≠ (v378 : Value).ownBlock ∧ some k_ ≠ (.slice Ao9 t334.length co9 : Value).ownBlock ∧ some k_ ≠ (.slice (some ad370) t337.length co11 : Value).ownBlock ∧ some k_ ≠ (.slice Ao15 t346.length co15 : Value).ownBlock ∧ some k_ ≠ (.slice Ao18 t349.length co18 : Value).ownBlock ∧ some k_ ≠ (.slice Ao19 t352.length co19 : Value).ownBlock ∧ some k_ ≠ (.slice Ao23 t357.length co23 : Value).ownBlock ∧ some k_ ≠ (.slice Ao27 t360.length co27 : Value).ownBlock ∧ some k_ ≠ (.slice Ao28 t363.length co28 : Value).ownBlock) (.slice Ao12 t340.length co12) t340) := ⟨h5_⟩
                      have n6_ : Aside0 (Kd.R (Kd.int .i64) 3 w71 w.heap.size (fun k_ => some k_ ≠ (v372 : Value).ownBlock ∧ some k_ ≠ (v375 : Value).ownBlock ∧ some k_ ≠ (v378 : Value).ownBlock ∧ some k_ ≠ (.slice Ao9 t334.length co9 : Value).ownBlock ∧ some k_ ≠ (.slice (some ad370) t337.length co11 : Value).ownBlock ∧ some k_ ≠ (.slice Ao12 t340.length co12 : Value).ownBlock ∧ some k_ ≠ (.slice Ao18 t349.length co18 : Value).ownBlock ∧ some k_ ≠ (.slice Ao19 t352.length co19 : Value).ownBlock ∧ some k_ ≠ (.slice Ao23 t357.length co23 : Value).ownBlock ∧ some k_ ≠ (.slice Ao27 t360.length co27 : Value).ownBlock ∧ some k_ ≠ (.slice Ao28 t363.length co28 : Value).ownBlock) (.slice Ao15 t346.length co15) t346) := ⟨h6_⟩
                      have n7_ : Aside0 (Kd.R (Kd.int .i64) 3 w71 w.heap.size (fun k_ => some k_ ≠ (v372 : Value).ownBlock ∧ some k_ ≠ (v375 : Value).ownBlock ∧ some k_ ≠ (v378 : Value).ownBlock ∧ some k_ ≠ (.slice Ao9 t334.length co9 : Value).ownBlock ∧ some k_ ≠ (.slice (some ad370) t337.length co11 : Value).ownBlock ∧ some k_ ≠ (.slice Ao12 t340.length co12 : Value).ownBlock ∧ some k_ ≠ (.slice Ao15 t346.length co15 : Value).ownBlock ∧ some k_ ≠ (.slice Ao19 t352.length co19 : Value).ownBlock ∧ some k_ ≠ (.slice Ao23 t357.length co23 : Value).ownBlock ∧ some k_ ≠ (.slice Ao27 t360.length co27 : Value).ownBlock ∧ some k_ ≠ (.slice Ao28 t363.length co28 : Value).ownBlock) (.slice Ao18 t349.length co18) t349) := ⟨h7_⟩
                      have n8_ : Aside0 (Kd.R (Kd.int .i64) 3 w71 w.heap.size (fun k_ => some k_ ≠ (v372 : Value).ownBlock ∧ some k_ ≠ (v375 : Value).ownBlock ∧ some k_ ≠ (v378 : Value).ownBlock ∧ some k_ ≠ (.slice Ao9 t334.length co9 : Value).ownBlock ∧ some k_ ≠ (.slice (some ad370) t337.length co11 : Value).ownBlock ∧ some k_ ≠ (.slice Ao12 t340.length co12 : Value).ownBlock ∧ some k_ ≠ (.slice Ao15 t346.length co15 : Value).ownBlock ∧ some k_ ≠ (.slice Ao18 t349.length co18 : Value).ownBlock ∧ some k_ ≠ (.slice Ao23 t357.length co23 : Value).ownBlock ∧ some k_ ≠ (.slice Ao27 t360.length co27 : Value).ownBlock ∧ some k_ ≠ (.slice Ao28 t363.length co28 : Value).ownBlock) (.slice Ao19 t352.length co19) t352) := ⟨h8_⟩
                      have n9_ : Aside0 (Kd.R (Kd.int .i64) 3 w71 w.heap.size (fun k_ => some k_ ≠ (v372 : Value).ownBlock ∧ some k_ ≠ (v375 : Value).ownBlock ∧ some k_ ≠ (v378 : Value).ownBlock ∧ some k_ ≠ (.slice Ao9 t334.length co9 : Value).ownBlock ∧ some k_ ≠ (.slice (some ad370) t337.length co11 : Value).ownBlock ∧ some k_ ≠ (.slice Ao12 t340.length co12 : Value).ownBlock ∧ some k_ ≠ (.slice Ao15 t346.length co15 : Value).ownBlock ∧ some k_ ≠ (.slice Ao18 t349.length co18 : Value).ownBlock ∧ some k_ ≠ (.slice Ao19 t352.length co19 : Value).ownBlock ∧ some k_ ≠ (.slice Ao27 t360.length co27 : Value).ownBlock ∧ some k_ ≠ (.slice Ao28 t363.length co28 : Value).ownBlock) (.slice Ao23 t357.length co23) t357) := ⟨h9_⟩
                      have n10_ : Aside0 (Kd.R (Kd.int .i64) 3 w71 w.heap.size (fun k_ => some k_ ≠ (v372 : Value).ownBlock ∧ some k_ ≠ (v375 : Value).ownBlock ∧ some k_ ≠ (v378 : Value).ownBlock ∧ some k_ ≠ (.slice Ao9 t334.length co9 : Value).ownBlock ∧ some k_ ≠ (.slice (some ad370) t337.length co11 : Value).ownBlock ∧ some k_ ≠ (.slice Ao12 t340.length co12 : Value).ownBlock ∧ some k_ ≠ (.slice Ao15 t346.length co15 : Value).ownBlock ∧ some k_ ≠ (.slice Ao18 t349.length co18 : Value).ownBlock ∧ some k_ ≠ (.slice Ao19 t352.length co19 : Value).ownBlock ∧ some k_ ≠ (.slice Ao23 t357.length co23 : Value).ownBlock ∧ some k_ ≠ (.slice Ao28 t363.length co28 : Value).ownBlock) (.slice Ao27 t360.length co27) t360) := ⟨h10_⟩
                      have n11_ : Aside0 (Kd.R (Kd.int .i64) 3 w71 w.heap.size (fun k_ => some k_ ≠ (v372 : Value).ownBlock ∧ some k_ ≠ (v375 : Value).ownBlock ∧ some k_ ≠ (v378 : Value).ownBlock ∧ some k_ ≠ (.slice Ao9 t334.length co9 : Value).ownBlock ∧ some k_ ≠ (.slice (some ad370) t337.length co11 : Value).ownBlock ∧ some k_ ≠ (.slice Ao12 t340.length co12 : Value).ownBlock ∧ some k_ ≠ (.slice Ao15 t346.length co15 : Value).ownBlock ∧ some k_ ≠ (.slice Ao18 t349.length co18 : Value).ownBlock ∧ some k_ ≠ (.slice Ao19 t352.length co19 : Value).ownBlock ∧ some k_ ≠ (.slice Ao23 t357.length co23 : Value).ownBlock ∧ some k_ ≠ (.slice Ao27 t360.length co27 : Value).ownBlock) (.slice Ao28 t363.length co28) t363) := ⟨h11_⟩
                      have n12_ : Aside0 (w71.heap[gb345]? = some (.cells #[.slice Ao9 t334.length co9, .slice (some ad370) t337.length co11, .slice Ao12 t340.length co12] 25 (0, 0))) := ⟨h12_⟩
                      have n13_ : Aside0 (w71.heap[gb356]? = some (.cells #[.slice Ao15 t346.length co15, .slice Ao18 t349.length co18, .slice Ao19 t352.length co19] 25 (0, 0))) := ⟨h13_⟩
                      have n14_ : Aside0 (w71.heap[gb367]? = some (.cells #[.slice Ao23 t357.length co23, .slice Ao27 t360.length co27, .slice Ao28 t363.length co28] 25 (0, 0))) := ⟨h14_⟩
                      have n15_ : Aside0 (w71.heap[gb381]? = some (.cells #[.slice none 0 0, .slice none 0 0, .slice none 0 0] 25 (0, 0))) := ⟨h15_⟩
                      have n16_ : Aside0 (w.heap.size ≤ gb381) := ⟨h16_⟩
                      have n17_ : Aside0 (w.heap.size ≤ gb381) := ⟨h17_⟩
                      have n18_ : Aside0 (gb345 ≠ gb381) := ⟨h18_⟩
                      have n19_ : Aside0 (gb381 ≠ gb345) := ⟨h19_⟩
                      have n20_ : Aside0 (gb356 ≠ gb381) := ⟨h20_⟩
                      have n21_ : Aside0 (gb381 ≠ gb356) := ⟨h21_⟩
                      have n22_ : Aside0 (gb367 ≠ gb381) := ⟨h22_⟩
                      have n23_ : Aside0 (gb381 ≠ gb367) := ⟨h23_⟩
                      have n24_ : Aside0 (Below w.heap.size w w71) := ⟨h24_⟩
                      clear HO_346000
                      clear HO_346001
                      clear HO_346002
                      clear HO_357000
                      clear HO_357001
                      clear HO_357002
                      clear HO_368000
                      clear HO_368001
                      clear HO_368002
                      clear BK345
                      clear BK356
                      clear BK367
                      clear HB
                      clear h0_ h1_ h2_ h3_ h4_ h5_ h6_ h7_ h8_ h9_ h10_ h11_ h12_ h13_ h14_ h15_ h16_ h17_ h18_ h19_ h20_ h21_ h22_ h23_ h24_
                      have HO373 := n0_
                      have HO376 := n1_
                      have HO379 := n2_
                      have HO_346000 := n3_
                      have HO_346001 := n4_
                      have HO_346002 := n5_
                      have HO_357000 := n6_
                      have HO_357001 := n7_
                      have HO_357002 := n8_
                      have HO_368000 := n9_
                      have HO_368001 := n10_
                      have HO_368002 := n11_
                      have BK345 := n12_
                      have BK356 := n13_
                      have BK367 := n14_
                      have BK381 := n15_
                      have GW381 := n16_
                      have GE381 := n17_
                      have NB345_381 := n18_
                      have NB381_345 := n19_
                      have NB356_381 := n20_
                      have NB381_356 := n21_
                      have NB367_381 := n22_
                      have NB381_367 := n23_
                      have HB := n24_
                      clear n0_ n1_ n2_ n3_ n4_ n5_ n6_ n7_ n8_ n9_ n10_ n11_ n12_ n13_ n14_ n15_ n16_ n17_ n18_ n19_ n20_ n21_ n22_ n23_ n24_
                      have hHeld : w71.cell? ⟨gb356, 0, none⟩ = some (.slice Ao15 t346.length co15) ∧ w71.cell? ⟨gb356, 1, none⟩ = some (.slice Ao18 t349.length co18) ∧ w71.cell? ⟨gb356, 2, none⟩ = some (.slice Ao19 t352.length co19) ∧ w71.cell? ⟨gb345, 0, none⟩ = some (.slice Ao9 t334.length co9) ∧ w71.cell? ⟨gb345, 1, none⟩ = some (.slice (some ad370) t337.length co11) ∧ w71.cell? ⟨gb345, 2, none⟩ = some (.slice Ao12 t340.length co12) ∧ w71.cell? (ad370.add (t343).toNat) = some (.int .i64 (rd t337 t343)) := hS_
                      obtain ⟨Ao72, co72, eo72⟩ := Kd.R_slice HO373.out
                      (first | subst eo72 | (injection eo72 with f1_ f2_ f3_; have f4_ := f1_.symm; have f5_ := f3_.symm; clear f1_ f2_ f3_; subst f4_; subst f5_))
                      obtain ⟨Ao74, co74, eo74⟩ := Kd.R_slice HO376.out
                      (first | subst eo74 | (injection eo74 with f1_ f2_ f3_; have f4_ := f1_.symm; have f5_ := f3_.symm; clear f1_ f2_ f3_; subst f4_; subst f5_))
                      obtain ⟨Ao76, co76, eo76⟩ := Kd.R_slice HO379.out
                      (first | subst eo76 | (injection eo76 with f1_ f2_ f3_; have f4_ := f1_.symm; have f5_ := f3_.symm; clear f1_ f2_ f3_; subst f4_; subst f5_))
                      refine norm_ (a' := ?_) ?_ ?_
                      rotate_left
                      · simp only [putAll, Act.put, List.setIfInBounds_toArray, List.set_cons_zero, List.set_cons_succ]
                        rfl
                      refine one_ (i := 12) (N := none) #[true, true, true, true, true, true, true, true, true, true, true, true, true, false] rfl rfl (one_of HT_.out (by kernel_rfl)) (by decide) (fun K hK => ?_)
                      have hs73 : w71.cell? ⟨gb381, 0, none⟩ = some (.slice none 0 0) := (blk_cell BK381.out 0).trans rfl
                      have hfs73 := blk_frozen BK381.out 0
                      have hns73_0 := NB345_381.out
                      have hns73_1 := NB356_381.out
                      have hns73_2 := NB367_381.out
                      have hms73_0 := NB381_345.out
                      have hms73_1 := NB381_356.out
                      have hms73_2 := NB381_367.out
                      have hs75 : w71.cell? ⟨gb381, 1, none⟩ = some (.slice none 0 0) := (blk_cell BK381.out 1).trans rfl
                      have hfs75 := blk_frozen BK381.out 1
                      have hns75_0 := NB345_381.out
                      have hns75_1 := NB356_381.out
                      have hns75_2 := NB367_381.out
                      have hms75_0 := NB381_345.out
                      have hms75_1 := NB381_356.out
                      have hms75_2 := NB381_367.out
                      have hs77 : w71.cell? ⟨gb381, 2, none⟩ = some (.slice none 0 0) := (blk_cell BK381.out 2).trans rfl
                      have hfs77 := blk_frozen BK381.out 2
                      have hns77_0 := NB345_381.out
                      have hns77_1 := NB356_381.out
                      have hns77_2 := NB367_381.out
                      have hms77_0 := NB381_345.out
                      have hms77_1 := NB381_356.out
                      have hms77_2 := NB381_367.out
                      refine skip_ (w1 := ?_) (by rfl) rfl ?_ ?_
                      rotate_left
                      · go_simp
                        rfl
                      refine hK.out _ _ ⟨((cell_far (p := ⟨gb381, _, none⟩) NB356_381.out _).trans (((cell_far (p := ⟨gb381, _, none⟩) NB356_381.out _).trans (((cell_far (p := ⟨gb381, _, none⟩) NB356_381.out _).trans (hHeld.1)))))), ((cell_far (p := ⟨gb381, _, none⟩) NB356_381.out _).trans (((cell_far (p := ⟨gb381, _, none⟩) NB356_381.out _).trans (((cell_far (p := ⟨gb381, _, none⟩) NB356_381.out _).trans (hHeld.2.1)))))), ((cell_far (p := ⟨gb381, _, none⟩) NB356_381.out _).trans (((cell_far (p := ⟨gb381, _, none⟩) NB356_381.out _).trans (((cell_far (p := ⟨gb381, _, none⟩) NB356_381.out _).trans (hHeld.2.2.1)))))), ((cell_far (p := ⟨gb381, _, none⟩) NB345_381.out _).trans (((cell_far (p := ⟨gb381, _, none⟩) NB345_381.out _).trans (((cell_far (p := ⟨gb381, _, none⟩) NB345_381.out _).trans (hHeld.2.2.2.1)))))), ((cell_far (p := ⟨gb381, _, none⟩) NB345_381.out _).trans (((cell_far (p := ⟨gb381, _, none⟩) NB345_381.out _).trans (((cell_far (p := ⟨gb381, _, none⟩) NB345_381.out _).trans (hHeld.2.2.2.2.1)))))), ((cell_far (p := ⟨gb381, _, none⟩) NB345_381.out _).trans (((cell_far (p := ⟨gb381, _, none⟩) NB345_381.out _).trans (((cell_far (p := ⟨gb381, _, none⟩) NB345_381.out _).trans (hHeld.2.2.2.2.2.1)))))), ((cell_far (p := ⟨gb381, _, none⟩) (by first | exact Kd.own_blk (Kd.R_ne HO_346001.out BK381.out (by decide)) | (rw [add_block]; exact Kd.own_blk (Kd.R_ne HO_346001.out BK381.out (by decide))) | (show (Addr.add _ _).block ≠ _; rw [add_block]; exact Kd.own_blk (Kd.R_ne HO_346001.out BK381.out (by decide))) | (dsimp only; exact Kd.own_blk (Kd.R_ne HO_346001.out BK381.out (by decide)))) _).trans (((cell_far (p := ⟨gb381, _, none⟩) (by first | exact Kd.own_blk (Kd.R_ne HO_346001.out BK381.out (by decide)) | (rw [add_block]; exact Kd.own_blk (Kd.R_ne HO_346001.out BK381.out (by decide))) | (show (Addr.add _ _).block ≠ _; rw [add_block]; exact Kd.own_blk (Kd.R_ne HO_346001.out BK381.out (by decide))) | (dsimp only; exact Kd.own_blk (Kd.R_ne HO_346001.out BK381.out (by decide)))) _).trans (((cell_far (p := ⟨gb381, _, none⟩) (by first | exact Kd.own_blk (Kd.R_ne HO_346001.out BK381.out (by decide)) | (rw [add_block]; exact Kd.own_blk (Kd.R_ne HO_346001.out BK381.out (by decide))) | (show (Addr.add _ _).block ≠ _; rw [add_block]; exact Kd.own_blk (Kd.R_ne HO_346001.out BK381.out (by decide))) | (dsimp only; exact Kd.own_blk (Kd.R_ne HO_346001.out BK381.out (by decide)))) _).trans (hHeld.2.2.2.2.2.2))))))⟩ (fun hHeld => ?_)
                      clear hK K
                      refine pure_ (i := 13) (N := some 11) (v := ?_) (a' := ?_) #[true, true, true, true, true, true, true, true, true, true, true, true, true, true] rfl rfl (any_of HT_.out (by kernel_rfl)) (fun _ _ _ h => h) (Or.inl ⟨by rfl, ?_⟩) ?_ ?_
                      rotate_left
                      · intro w'
                        go_simp
                        with_reducible rfl
                      rotate_left
                      · simp only [Act.put, List.setIfInBounds_toArray, List.set_cons_zero, List.set_cons_succ, i64_w, i32_w]
                        rfl
                      refine done_ (done_of HT_.out (by kernel_rfl)) ?_
                      have n0_ : Aside0 (Kd.R (Kd.int .i64) 3 (((w71.setCell ⟨gb381, 0, none⟩ (.slice Ao72 t371.length co72)).setCell ⟨gb381, 1, none⟩ (.slice Ao74 t374.length co74)).setCell ⟨gb381, 2, none⟩ (.slice Ao76 t377.length co76)) w.heap.size (fun k_ => some k_ ≠ (.slice (some ad370) t337.length co11 : Value).ownBlock ∧ some k_ ≠ (.slice Ao12 t340.length co12 : Value).ownBlock ∧ some k_ ≠ (.slice Ao15 t346.length co15 : Value).ownBlock ∧ some k_ ≠ (.slice Ao18 t349.length co18 : Value).ownBlock ∧ some k_ ≠ (.slice Ao19 t352.length co19 : Value).ownBlock ∧ some k_ ≠ (.slice Ao23 t357.length co23 : Value).ownBlock ∧ some k_ ≠ (.slice Ao27 t360.length co27 : Value).ownBlock ∧ some k_ ≠ (.slice Ao28 t363.length co28 : Value).ownBlock ∧ some k_ ≠ (.slice Ao72 t371.length co72 : Value).ownBlock ∧ some k_ ≠ (.slice Ao74 t374.length co74 : Value).ownBlock ∧ some k_ ≠ (.slice Ao76 t377.length co76 : Value).ownBlock) (.slice Ao9 t334.length co9) t334) := ⟨rl (Kd.R_mono (Kd.R_far (p := ⟨gb381, 2, none⟩) (Kd.R_far (p := ⟨gb381, 1, none⟩) (Kd.R_far (p := ⟨gb381, 0, none⟩) (Kd.R_types HO_346000.out BK381.out (by decide)) (fun _ hk => hk.2) (.slice Ao72 t371.length co72)) (fun _ hk => hk.2) (.slice Ao74 t374.length co74)) (fun _ hk => hk.2) (.slice Ao76 t377.length co76)) (fun _ hk => by simp only [ne_eq] at hk ⊢; simp only [hk, not_false_eq_true, and_self]))⟩
                      have n1_ : Aside0 (Kd.R (Kd.int .i64) 3 (((w71.setCell ⟨gb381, 0, none⟩ (.slice Ao72 t371.length co72)).setCell ⟨gb381, 1, none⟩ (.slice Ao74 t374.length co74)).setCell ⟨gb381, 2, none⟩ (.slice Ao76 t377.length co76)) w.heap.size (fun k_ => some k_ ≠ (.slice Ao9 t334.length co9 : Value).ownBlock ∧ some k_ ≠ (.slice Ao12 t340.length co12 : Value).ownBlock ∧ some k_ ≠ (.slice Ao15 t346.length co15 : Value).ownBlock ∧ some k_ ≠ (.slice Ao18 t349.length co18 : Value).ownBlock ∧ some k_ ≠ (.slice Ao19 t352.length co19 : Value).ownBlock ∧ some k_ ≠ (.slice Ao23 t357.length co23 : Value).ownBlock ∧ some k_ ≠ (.slice Ao27 t360.length co27 : Value).ownBlock ∧ some k_ ≠ (.slice Ao28 t363.length co28 : Value).ownBlock ∧ some k_ ≠ (.slice Ao72 t371.length co72 : Value).ownBlock ∧ some k_ ≠ (.slice Ao74 t374.length co74 : Value).ownBlock ∧ some k_ ≠ (.slice Ao76 t377.length co76 : Value).ownBlock) (.slice (some ad370) t337.length co11) t337) := ⟨rl (Kd.R_mono (Kd.R_far (p := ⟨gb381, 2, none⟩) (Kd.R_far (p := ⟨gb381, 1, none⟩) (Kd.R_far (p := ⟨gb381, 0, none⟩) (Kd.R_types HO_346001.out BK381.out (by decide)) (fun _ hk => hk.2) (.slice Ao72 t371.length co72)) (fun _ hk => hk.2) (.slice Ao74 t374.length co74)) (fun _ hk => hk.2) (.slice Ao76 t377.length co76)) (fun _ hk => by simp only [ne_eq] at hk ⊢; simp only [hk, not_false_eq_true, and_self]))⟩
                      have n2_ : Aside0 (Kd.R (Kd.int .i64) 3 (((w71.setCell ⟨gb381, 0, none⟩ (.slice Ao72 t371.length co72)).setCell ⟨gb381, 1, none⟩ (.slice Ao74 t374.length co74)).setCell ⟨gb381, 2, none⟩ (.slice Ao76 t377.length co76)) w.heap.size (fun k_ => some k_ ≠ (.slice Ao9 t334.length co9 : Value).ownBlock ∧ some k_ ≠ (.slice (some ad370) t337.length co11 : Value).ownBlock ∧ some k_ ≠ (.slice Ao15 t346.length co15 : Value).ownBlock ∧ some k_ ≠ (.slice Ao18 t349.length co18 : Value).ownBlock ∧ some k_ ≠ (.slice Ao19 t352.length co19 : Value).ownBlock ∧ some k_ ≠ (.slice Ao23 t357.length co23 : Value).ownBlock ∧ some k_ ≠ (.slice Ao27 t360.length co27 : Value).ownBlock ∧ some k_ ≠ (.slice Ao28 t363.length co28 : Value).ownBlock ∧ some k_ ≠ (.slice Ao72 t371.length co72 : Value).ownBlock ∧ some k_ ≠ (.slice Ao74 t374.length co74 : Value).ownBlock ∧ some k_ ≠ (.slice Ao76 t377.length co76 : Value).ownBlock) (.slice Ao12 t340.length co12) t340) := ⟨rl (Kd.R_mono (Kd.R_far (p := ⟨gb381, 2, none⟩) (Kd.R_far (p := ⟨gb381, 1, none⟩) (Kd.R_far (p := ⟨gb381, 0, none⟩) (Kd.R_types HO_346002.out BK381.out (by decide)) (fun _ hk => hk.2) (.slice Ao72 t371.length co72)) (fun _ hk => hk.2) (.slice Ao74 t374.length co74)) (fun _ hk => hk.2) (.slice Ao76 t377.length co76)) (fun _ hk => by simp only [ne_eq] at hk ⊢; simp only [hk, not_false_eq_true, and_self]))⟩
                      have n3_ : Aside0 (Kd.R (Kd.int .i64) 3 (((w71.setCell ⟨gb381, 0, none⟩ (.slice Ao72 t371.length co72)).setCell ⟨gb381, 1, none⟩ (.slice Ao74 t374.length co74)).setCell ⟨gb381, 2, none⟩ (.slice Ao76 t377.length co76)) w.heap.size (fun k_ => some k_ ≠ (.slice Ao9 t334.length co9 : Value).ownBlock ∧ some k_ ≠ (.slice (some ad370) t337.length co11 : Value).ownBlock ∧ some k_ ≠ (.slice Ao12 t340.length co12 : Value).ownBlock ∧ some k_ ≠ (.slice Ao18 t349.length co18 : Value).ownBlock ∧ some k_ ≠ (.slice Ao19 t352.length co19 : Value).ownBlock ∧ some k_ ≠ (.slice Ao23 t357.length co23 : Value).ownBlock ∧ some k_ ≠ (.slice Ao27 t360.length co27 : Value).ownBlock ∧ some k_ ≠ (.slice Ao28 t363.length co28 : Value).ownBlock ∧ some k_ ≠ (.slice Ao72 t371.length co72 : Value).ownBlock ∧ some k_ ≠ (.slice Ao74 t374.length co74 : Value).ownBlock ∧ some k_ ≠ (.slice Ao76 t377.length co76 : Value).ownBlock) (.slice Ao15 t346.length co15) t346) := ⟨rl (Kd.R_mono (Kd.R_far (p := ⟨gb381, 2, none⟩) (Kd.R_far (p := ⟨gb381, 1, none⟩) (Kd.R_far (p := ⟨gb381, 0, none⟩) (Kd.R_types HO_357000.out BK381.out (by decide)) (fun _ hk => hk.2) (.slice Ao72 t371.length co72)) (fun _ hk => hk.2) (.slice Ao74 t374.length co74)) (fun _ hk => hk.2) (.slice Ao76 t377.length co76)) (fun _ hk => by simp only [ne_eq] at hk ⊢; simp only [hk, not_false_eq_true, and_self]))⟩
                      have n4_ : Aside0 (Kd.R (Kd.int .i64) 3 (((w71.setCell ⟨gb381, 0, none⟩ (.slice Ao72 t371.length co72)).setCell ⟨gb381, 1, none⟩ (.slice Ao74 t374.length co74)).setCell ⟨gb381, 2, none⟩ (.slice Ao76 t377.length co76)) w.heap.size (fun k_ => some k_ ≠ (.slice Ao9 t334.length co9 : Value).ownBlock ∧ some k_ ≠ (.slice (some ad370) t337.length co11 : Value).ownBlock ∧ some k_ ≠ (.slice Ao12 t340.length co12 : Value).ownBlock ∧ some k_ ≠ (.slice Ao15 t346.length co15 : Value).ownBlock ∧ some k_ ≠ (.slice Ao19 t352.length co19 : Value).ownBlock ∧ some k_ ≠ (.slice Ao23 t357.length co23 : Value).ownBlock ∧ some k_ ≠ (.slice Ao27 t360.length co27 : Value).ownBlock ∧ some k_ ≠ (.slice Ao28 t363.length co28 : Value).ownBlock ∧ some k_ ≠ (.slice Ao72 t371.length co72 : Value).ownBlock ∧ some k_ ≠ (.slice Ao74 t374.length co74 : Value).ownBlock ∧ some k_ ≠ (.slice Ao76 t377.length co76 : Value).ownBlock) (.slice Ao18 t349.length co18) t349) := ⟨rl (Kd.R_mono (Kd.R_far (p := ⟨gb381, 2, none⟩) (Kd.R_far (p := ⟨gb381, 1, none⟩) (Kd.R_far (p := ⟨gb381, 0, none⟩) (Kd.R_types HO_357001.out BK381.out (by decide)) (fun _ hk => hk.2) (.slice Ao72 t371.length co72)) (fun _ hk => hk.2) (.slice Ao74 t374.length co74)) (fun _ hk => hk.2) (.slice Ao76 t377.length co76)) (fun _ hk => by simp only [ne_eq] at hk ⊢; simp only [hk, not_false_eq_true, and_self]))⟩
                      have n5_ : Aside0 (Kd.R (Kd.int .i64) 3 (((w71.setCell ⟨gb381, 0, none⟩ (.slice Ao72 t371.length co72)).setCell ⟨gb381, 1, none⟩ (.slice Ao74 t374.length co74)).setCell ⟨gb381, 2, none⟩ (.slice Ao76 t377.length co76)) w.heap.size (fun k_ => some k_ ≠ (.slice Ao9 t334.length co9 : Value).ownBlock ∧ some k_ ≠ (.slice (some ad370) t337.length co11 : Value).ownBlock ∧ some k_ ≠ (.slice Ao12 t340.length co12 : Value).ownBlock ∧ some k_ ≠ (.slice Ao15 t346.length co15 : Value).ownBlock ∧ some k_ ≠ (.slice Ao18 t349.length co18 : Value).ownBlock ∧ some k_ ≠ (.slice Ao23 t357.length co23 : Value).ownBlock ∧ some k_ ≠ (.slice Ao27 t360.length co27 : Value).ownBlock ∧ some k_ ≠ (.slice Ao28 t363.length co28 : Value).ownBlock ∧ some k_ ≠ (.slice Ao72 t371.length co72 : Value).ownBlock ∧ some k_ ≠ (.slice Ao74 t374.length co74 : Value).ownBlock ∧ some k_ ≠ (.slice Ao76 t377.length co76 : Value).ownBlock) (.slice Ao19 t352.length co19) t352) := ⟨rl (Kd.R_mono (Kd.R_far (p := ⟨gb381, 2, none⟩) (Kd.R_far (p := ⟨gb381, 1, none⟩) (Kd.R_far (p := ⟨gb381, 0, none⟩) (Kd.R_types HO_357002.out BK381.out (by decide)) (fun _ hk => hk.2) (.slice Ao72 t371.length co72)) (fun _ hk => hk.2) (.slice Ao74 t374.length co74)) (fun _ hk => hk.2) (.slice Ao76 t377.length co76)) (fun _ hk => by simp only [ne_eq] at hk ⊢; simp only [hk, not_false_eq_true, and_self]))⟩
                      have n6_ : Aside0 (Kd.R (Kd.int .i64) 3 (((w71.setCell ⟨gb381, 0, none⟩ (.slice Ao72 t371.length co72)).setCell ⟨gb381, 1, none⟩ (.slice Ao74 t374.length co74)).setCell ⟨gb381, 2, none⟩ (.slice Ao76 t377.length co76)) w.heap.size (fun k_ => some k_ ≠ (.slice Ao9 t334.length co9 : Value).ownBlock ∧ some k_ ≠ (.slice (some ad370) t337.length co11 : Value).ownBlock ∧ some k_ ≠ (.slice Ao12 t340.length co12 : Value).ownBlock ∧ some k_ ≠ (.slice Ao15 t346.length co15 : Value).ownBlock ∧ some k_ ≠ (.slice Ao18 t349.length co18 : Value).ownBlock ∧ some k_ ≠ (.slice Ao19 t352.length co19 : Value).ownBlock ∧ some k_ ≠ (.slice Ao27 t360.length co27 : Value).ownBlock ∧ some k_ ≠ (.slice Ao28 t363.length co28 : Value).ownBlock ∧ some k_ ≠ (.slice Ao72 t371.length co72 : Value).ownBlock ∧ some k_ ≠ (.slice Ao74 t374.length co74 : Value).ownBlock ∧ some k_ ≠ (.slice Ao76 t377.length co76 : Value).ownBlock) (.slice Ao23 t357.length co23) t357) := ⟨rl (Kd.R_mono (Kd.R_far (p := ⟨gb381, 2, none⟩) (Kd.R_far (p := ⟨gb381, 1, none⟩) (Kd.R_far (p := ⟨gb381, 0, none⟩) (Kd.R_types HO_368000.out BK381.out (by decide)) (fun _ hk => hk.2) (.slice Ao72 t371.length co72)) (fun _ hk => hk.2) (.slice Ao74 t374.length co74)) (fun _ hk => hk.2) (.slice Ao76 t377.length co76)) (fun _ hk => by simp only [ne_eq] at hk ⊢; simp only [hk, not_false_eq_true, and_self]))⟩
                      have n7_ : Aside0 (Kd.R (Kd.int .i64) 3 (((w71.setCell ⟨gb381, 0, none⟩ (.slice Ao72 t371.length co72)).setCell ⟨gb381, 1, none⟩ (.slice Ao74 t374.length co74)).setCell ⟨gb381, 2, none⟩ (.slice Ao76 t377.length co76)) w.heap.size (fun k_ => some k_ ≠ (.slice Ao9 t334.length co9 : Value).ownBlock ∧ some k_ ≠ (.slice (some ad370) t337.length co11 : Value).ownBlock ∧ some k_ ≠ (.slice Ao12 t340.length co12 : Value).ownBlock ∧ some k_ ≠ (.slice Ao15 t346.length co15 : Value).ownBlock ∧ some k_ ≠ (.slice Ao18 t349.length co18 : Value).ownBlock ∧ some k_ ≠ (.slice Ao19 t352.length co19 : Value).ownBlock ∧ some k_ ≠ (.slice Ao23 t357.length co23 : Value).ownBlock ∧ some k_ ≠ (.slice Ao28 t363.length co28 : Value).ownBlock ∧ some k_ ≠ (.slice Ao72 t371.length co72 : Value).ownBlock ∧ some k_ ≠ (.slice Ao74 t374.length co74 : Value).ownBlock ∧ some k_ ≠ (.slice Ao76 t377.length co76 : Value).ownBlock) (.slice Ao27 t360.length co27) t360) := ⟨rl (Kd.R_mono (Kd.R_far (p := ⟨gb381, 2, none⟩) (Kd.R_far (p := ⟨gb381, 1, none⟩) (Kd.R_far (p := ⟨gb381, 0, none⟩) (Kd.R_types HO_368001.out BK381.out (by decide)) (fun _ hk => hk.2) (.slice Ao72 t371.length co72)) (fun _ hk => hk.2) (.slice Ao74 t374.length co74)) (fun _ hk => hk.2) (.slice Ao76 t377.length co76)) (fun _ hk => by simp only [ne_eq] at hk ⊢; simp only [hk, not_false_eq_true, and_self]))⟩
                      have n8_ : Aside0 (Kd.R (Kd.int .i64) 3 (((w71.setCell ⟨gb381, 0, none⟩ (.slice Ao72 t371.length co72)).setCell ⟨gb381, 1, none⟩ (.slice Ao74 t374.length co74)).setCell ⟨gb381, 2, none⟩ (.slice Ao76 t377.length co76)) w.heap.size (fun k_ => some k_ ≠ (.slice Ao9 t334.length co9 : Value).ownBlock ∧ some k_ ≠ (.slice (some ad370) t337.length co11 : Value).ownBlock ∧ some k_ ≠ (.slice Ao12 t340.length co12 : Value).ownBlock ∧ some k_ ≠ (.slice Ao15 t346.length co15 : Value).ownBlock ∧ some k_ ≠ (.slice Ao18 t349.length co18 : Value).ownBlock ∧ some k_ ≠ (.slice Ao19 t352.length co19 : Value).ownBlock ∧ some k_ ≠ (.slice Ao23 t357.length co23 : Value).ownBlock ∧ some k_ ≠ (.slice Ao27 t360.length co27 : Value).ownBlock ∧ some k_ ≠ (.slice Ao72 t371.length co72 : Value).ownBlock ∧ some k_ ≠ (.slice Ao74 t374.length co74 : Value).ownBlock ∧ some k_ ≠ (.slice Ao76 t377.length co76 : Value).ownBlock) (.slice Ao28 t363.length co28) t363) := ⟨rl (Kd.R_mono (Kd.R_far (p := ⟨gb381, 2, none⟩) (Kd.R_far (p := ⟨gb381, 1, none⟩) (Kd.R_far (p := ⟨gb381, 0, none⟩) (Kd.R_types HO_368002.out BK381.out (by decide)) (fun _ hk => hk.2) (.slice Ao72 t371.length co72)) (fun _ hk => hk.2) (.slice Ao74 t374.length co74)) (fun _ hk => hk.2) (.slice Ao76 t377.length co76)) (fun _ hk => by simp only [ne_eq] at hk ⊢; simp only [hk, not_false_eq_true, and_self]))⟩
                      have n9_ : Aside0 (Kd.R (Kd.int .i64) 3 (((w71.setCell ⟨gb381, 0, none⟩ (.slice Ao72 t371.length co72)).setCell ⟨gb381, 1, none⟩ (.slice Ao74 t374.length co74)).setCell ⟨gb381, 2, none⟩ (.slice Ao76 t377.length co76)) w.heap.size (fun k_ => some k_ ≠ (.slice Ao9 t334.length co9 : Value).ownBlock ∧ some k_ ≠ (.slice (some ad370) t337.length co11 : Value).ownBlock ∧ some k_ ≠ (.slice Ao12 t340.length co12 : Value).ownBlock ∧ some k_ ≠ (.slice Ao15 t346.length co15 : Value).ownBlock ∧ some k_ ≠ (.slice Ao18 t349.length co18 : Value).ownBlock ∧ some k_ ≠ (.slice Ao19 t352.length co19 : Value).ownBlock ∧ some k_ ≠ (.slice Ao23 t357.length co23 : Value).ownBlock ∧ some k_ ≠ (.slice Ao27 t360.length co27 : Value).ownBlock ∧ some k_ ≠ (.slice Ao28 t363.length co28 : Value).ownBlock ∧ some k_ ≠ (.slice Ao74 t374.length co74 : Value).ownBlock ∧ some k_ ≠ (.slice Ao76 t377.length co76 : Value).ownBlock) (.slice Ao72 t371.length co72) t371) := ⟨rl (Kd.R_mono (Kd.R_far (p := ⟨gb381, 2, none⟩) (Kd.R_far (p := ⟨gb381, 1, none⟩) (Kd.R_far (p := ⟨gb381, 0, none⟩) (Kd.R_types HO373.out BK381.out (by decide)) (fun _ hk => hk.2) (.slice Ao72 t371.length co72)) (fun _ hk => hk.2) (.slice Ao74 t374.length co74)) (fun _ hk => hk.2) (.slice Ao76 t377.length co76)) (fun _ hk => by simp only [ne_eq] at hk ⊢; simp only [hk, not_false_eq_true, and_self]))⟩
                      have n10_ : Aside0 (Kd.R (Kd.int .i64) 3 (((w71.setCell ⟨gb381, 0, none⟩ (.slice Ao72 t371.length co72)).setCell ⟨gb381, 1, none⟩ (.slice Ao74 t374.length co74)).setCell ⟨gb381, 2, none⟩ (.slice Ao76 t377.length co76)) w.heap.size (fun k_ => some k_ ≠ (.slice Ao9 t334.length co9 : Value).ownBlock ∧ some k_ ≠ (.slice (some ad370) t337.length co11 : Value).ownBlock ∧ some k_ ≠ (.slice Ao12 t340.length co12 : Value).ownBlock ∧ some k_ ≠ (.slice Ao15 t346.length co15 : Value).ownBlock ∧ some k_ ≠ (.slice Ao18 t349.length co18 : Value).ownBlock ∧ some k_ ≠ (.slice Ao19 t352.length co19 : Value).ownBlock ∧ some k_ ≠ (.slice Ao23 t357.length co23 : Value).ownBlock ∧ some k_ ≠ (.slice Ao27 t360.length co27 : Value).ownBlock ∧ some k_ ≠ (.slice Ao28 t363.length co28 : Value).ownBlock ∧ some k_ ≠ (.slice Ao72 t371.length co72 : Value).ownBlock ∧ some k_ ≠ (.slice Ao76 t377.length co76 : Value).ownBlock) (.slice Ao74 t374.length co74) t374) := ⟨rl (Kd.R_mono (Kd.R_far (p := ⟨gb381, 2, none⟩) (Kd.R_far (p := ⟨gb381, 1, none⟩) (Kd.R_far (p := ⟨gb381, 0, none⟩) (Kd.R_types HO376.out BK381.out (by decide)) (fun _ hk => hk.2) (.slice Ao72 t371.length co72)) (fun _ hk => hk.2) (.slice Ao74 t374.length co74)) (fun _ hk => hk.2) (.slice Ao76 t377.length co76)) (fun _ hk => by simp only [ne_eq] at hk ⊢; simp only [hk, not_false_eq_true, and_self]))⟩
                      have n11_ : Aside0 (Kd.R (Kd.int .i64) 3 (((w71.setCell ⟨gb381, 0, none⟩ (.slice Ao72 t371.length co72)).setCell ⟨gb381, 1, none⟩ (.slice Ao74 t374.length co74)).setCell ⟨gb381, 2, none⟩ (.slice Ao76 t377.length co76)) w.heap.size (fun k_ => some k_ ≠ (.slice Ao9 t334.length co9 : Value).ownBlock ∧ some k_ ≠ (.slice (some ad370) t337.length co11 : Value).ownBlock ∧ some k_ ≠ (.slice Ao12 t340.length co12 : Value).ownBlock ∧ some k_ ≠ (.slice Ao15 t346.length co15 : Value).ownBlock ∧ some k_ ≠ (.slice Ao18 t349.length co18 : Value).ownBlock ∧ some k_ ≠ (.slice Ao19 t352.length co19 : Value).ownBlock ∧ some k_ ≠ (.slice Ao23 t357.length co23 : Value).ownBlock ∧ some k_ ≠ (.slice Ao27 t360.length co27 : Value).ownBlock ∧ some k_ ≠ (.slice Ao28 t363.length co28 : Value).ownBlock ∧ some k_ ≠ (.slice Ao72 t371.length co72 : Value).ownBlock ∧ some k_ ≠ (.slice Ao74 t374.length co74 : Value).ownBlock) (.slice Ao76 t377.length co76) t377) := ⟨rl (Kd.R_mono (Kd.R_far (p := ⟨gb381, 2, none⟩) (Kd.R_far (p := ⟨gb381, 1, none⟩) (Kd.R_far (p := ⟨gb381, 0, none⟩) (Kd.R_types HO379.out BK381.out (by decide)) (fun _ hk => hk.2) (.slice Ao72 t371.length co72)) (fun _ hk => hk.2) (.slice Ao74 t374.length co74)) (fun _ hk => hk.2) (.slice Ao76 t377.length co76)) (fun _ hk => by simp only [ne_eq] at hk ⊢; simp only [hk, not_false_eq_true, and_self]))⟩
                      have n12_ : Aside0 ((((w71.setCell ⟨gb381, 0, none⟩ (.slice Ao72 t371.length co72)).setCell ⟨gb381, 1, none⟩ (.slice Ao74 t374.length co74)).setCell ⟨gb381, 2, none⟩ (.slice Ao76 t377.length co76)).heap[gb345]? = some (.cells #[.slice Ao9 t334.length co9, .slice (some ad370) t337.length co11, .slice Ao12 t340.length co12] 25 (0, 0))) := ⟨by (with_reducible repeat (first | refine blk_drewN ?_ _ | refine blk_drew ?_ | refine blk_alloc ?_ _)); refine blk_far ?_ NB345_381.out _; (with_reducible repeat (first | refine blk_drewN ?_ _ | refine blk_drew ?_ | refine blk_alloc ?_ _)); refine blk_far ?_ NB345_381.out _; (with_reducible repeat (first | refine blk_drewN ?_ _ | refine blk_drew ?_ | refine blk_alloc ?_ _)); refine blk_far ?_ NB345_381.out _; (with_reducible repeat (first | refine blk_drewN ?_ _ | refine blk_drew ?_ | refine blk_alloc ?_ _)); exact BK345.out⟩
                      have n13_ : Aside0 ((((w71.setCell ⟨gb381, 0, none⟩ (.slice Ao72 t371.length co72)).setCell ⟨gb381, 1, none⟩ (.slice Ao74 t374.length co74)).setCell ⟨gb381, 2, none⟩ (.slice Ao76 t377.length co76)).heap[gb356]? = some (.cells #[.slice Ao15 t346.length co15, .slice Ao18 t349.length co18, .slice Ao19 t352.length co19] 25 (0, 0))) := ⟨by (with_reducible repeat (first | refine blk_drewN ?_ _ | refine blk_drew ?_ | refine blk_alloc ?_ _)); refine blk_far ?_ NB356_381.out _; (with_reducible repeat (first | refine blk_drewN ?_ _ | refine blk_drew ?_ | refine blk_alloc ?_ _)); refine blk_far ?_ NB356_381.out _; (with_reducible repeat (first | refine blk_drewN ?_ _ | refine blk_drew ?_ | refine blk_alloc ?_ _)); refine blk_far ?_ NB356_381.out _; (with_reducible repeat (first | refine blk_drewN ?_ _ | refine blk_drew ?_ | refine blk_alloc ?_ _)); exact BK356.out⟩
                      have n14_ : Aside0 ((((w71.setCell ⟨gb381, 0, none⟩ (.slice Ao72 t371.length co72)).setCell ⟨gb381, 1, none⟩ (.slice Ao74 t374.length co74)).setCell ⟨gb381, 2, none⟩ (.slice Ao76 t377.length co76)).heap[gb367]? = some (.cells #[.slice Ao23 t357.length co23, .slice Ao27 t360.length co27, .slice Ao28 t363.length co28] 25 (0, 0))) := ⟨by (with_reducible repeat (first | refine blk_drewN ?_ _ | refine blk_drew ?_ | refine blk_alloc ?_ _)); refine blk_far ?_ NB367_381.out _; (with_reducible repeat (first | refine blk_drewN ?_ _ | refine blk_drew ?_ | refine blk_alloc ?_ _)); refine blk_far ?_ NB367_381.out _; (with_reducible repeat (first | refine blk_drewN ?_ _ | refine blk_drew ?_ | refine blk_alloc ?_ _)); refine blk_far ?_ NB367_381.out _; (with_reducible repeat (first | refine blk_drewN ?_ _ | refine blk_drew ?_ | refine blk_alloc ?_ _)); exact BK367.out⟩
                      have n15_ : Aside0 ((((w71.setCell ⟨gb381, 0, none⟩ (.slice Ao72 t371.length co72)).setCell ⟨gb381, 1, none⟩ (.slice Ao74 t374.length co74)).setCell ⟨gb381, 2, none⟩ (.slice Ao76 t377.length co76)).heap[gb381]? = some (.cells #[.slice Ao72 t371.length co72, .slice Ao74 t374.length co74, .slice Ao76 t377.length co76] 25 (0, 0))) := ⟨by (with_reducible repeat (first | refine blk_drewN ?_ _ | refine blk_drew ?_ | refine blk_alloc ?_ _)); refine blk_put (cs := #[.slice Ao72 t371.length co72, .slice Ao74 t374.length co74, .slice none 0 0]) ?_ 2 _ rfl; (with_reducible repeat (first | refine blk_drewN ?_ _ | refine blk_drew ?_ | refine blk_alloc ?_ _)); refine blk_put (cs := #[.slice Ao72 t371.length co72, .slice none 0 0, .slice none 0 0]) ?_ 1 _ rfl; (with_reducible repeat (first | refine blk_drewN ?_ _ | refine blk_drew ?_ | refine blk_alloc ?_ _)); refine blk_put (cs := #[.slice none 0 0, .slice none 0 0, .slice none 0 0]) ?_ 0 _ rfl; (with_reducible repeat (first | refine blk_drewN ?_ _ | refine blk_drew ?_ | refine blk_alloc ?_ _)); exact BK381.out⟩
                      have n16_ : Aside0 (Below w.heap.size w (((w71.setCell ⟨gb381, 0, none⟩ (.slice Ao72 t371.length co72)).setCell ⟨gb381, 1, none⟩ (.slice Ao74 t374.length co74)).setCell ⟨gb381, 2, none⟩ (.slice Ao76 t377.length co76))) := ⟨by repeat (first | (with_reducible first | exact HB.out | apply below_alloc | apply pw_below_drewN | apply below_drew1 | refine below_set ?_ GE345.out | refine below_set ?_ GE356.out | refine below_set ?_ GE367.out | refine below_set ?_ GE381.out) | exact HB.out)⟩
                      (try clear HO_346000)
                      (try clear HO_346001)
                      (try clear HO_346002)
                      (try clear HO_357000)
                      (try clear HO_357001)
                      (try clear HO_357002)
                      (try clear HO_368000)
                      (try clear HO_368001)
                      (try clear HO_368002)
                      (try clear HO373)
                      (try clear HO376)
                      (try clear HO379)
                      (try clear BK345)
                      (try clear BK356)
                      (try clear BK367)
                      (try clear BK381)
                      (try clear HB)
                      generalize (((w71.setCell ⟨gb381, 0, none⟩ (.slice Ao72 t371.length co72)).setCell ⟨gb381, 1, none⟩ (.slice Ao74 t374.length co74)).setCell ⟨gb381, 2, none⟩ (.slice Ao76 t377.length co76)) = w78 at n0_ n1_ n2_ n3_ n4_ n5_ n6_ n7_ n8_ n9_ n10_ n11_ n12_ n13_ n14_ n15_ n16_ ⊢
                      have HO_346000 := n0_
                      have HO_346001 := n1_
                      have HO_346002 := n2_
                      have HO_357000 := n3_
                      have HO_357001 := n4_
                      have HO_357002 := n5_
                      have HO_368000 := n6_
                      have HO_368001 := n7_
                      have HO_368002 := n8_
                      have HO373 := n9_
                      have HO376 := n10_
                      have HO379 := n11_
                      have BK345 := n12_
                      have BK356 := n13_
                      have BK367 := n14_
                      have BK381 := n15_
                      have HB := n16_
                      clear n0_ n1_ n2_ n3_ n4_ n5_ n6_ n7_ n8_ n9_ n10_ n11_ n12_ n13_ n14_ n15_ n16_
                      have hnb79 := NB356_345.out
                      have hnc79 := NB345_356.out
                      have hnb80 := NB356_367.out
                      have hnc80 := NB367_356.out
                      have hnb81 := NB356_381.out
                      have hnc81 := NB381_356.out
                      have hcz82_0 : w78.cell? ⟨gb356, 0, none⟩ = some (.slice Ao15 t346.length co15) := (blk_cell BK356.out 0).trans rfl
                      have hcz82_1 : w78.cell? ⟨gb356, 1, none⟩ = some (.slice Ao18 t349.length co18) := (blk_cell BK356.out 1).trans rfl
                      have hcz82_2 : w78.cell? ⟨gb356, 2, none⟩ = some (.slice Ao19 t352.length co19) := (blk_cell BK356.out 2).trans rfl
                      have hfz82_0 := blk_frozen BK356.out 0
                      have hfz82_1 := blk_frozen BK356.out 1
                      have hfz82_2 := blk_frozen BK356.out 2
                      try go_wp2_with (first | ((with_reducible refine gate_callee (f := 17) rfl ?_); refine goesL_ (some 68) rfl rfl Try.func17 (by kernel_rfl) rfl #[.agg #[.slice Ao15 t346.length co15, .slice Ao18 t349.length co18, .slice Ao19 t352.length co19]] rfl (by (try simp only [List.map_toArray, List.map_cons, List.map_nil]); first | done | rfl | (simp only [List.length_drop, List.length_take]; rfl)) ?_; (with_reducible refine (impl_HeapValid.calls kj5 (fun k_ => some k_ = (.slice Ao15 t346.length co15 : Value).ownBlock) _ _ t346 (fun k_ => some k_ = (.slice Ao18 t349.length co18 : Value).ownBlock) _ _ t349 (fun k_ => some k_ = (.slice Ao19 t352.length co19 : Value).ownBlock) _ _ t352 true _ ?side1 ?side2 ?side3 A62.out).mono ?_); (case side1 => exact Kd.R_V (Kd.R_tight rfl (Kd.R_types (Kd.R_types (Kd.R_types (Kd.R_types (HO_357000.out) BK345.out (by decide)) BK356.out (by decide)) BK367.out (by decide)) BK381.out (by decide)))); (case side2 => exact Kd.R_V (Kd.R_tight rfl (Kd.R_types (Kd.R_types (Kd.R_types (Kd.R_types (HO_357001.out) BK345.out (by decide)) BK356.out (by decide)) BK367.out (by decide)) BK381.out (by decide)))); (case side3 => exact Kd.R_V (Kd.R_tight rfl (Kd.R_types (Kd.R_types (Kd.R_types (Kd.R_types (HO_357002.out) BK345.out (by decide)) BK356.out (by decide)) BK367.out (by decide)) BK381.out (by decide)))); rintro e w83 ⟨rfl, hb⟩; refine ⟨_, rfl, ?_⟩; have n0_ := am (Kd.R_below (rl HO_346000.out) hb); have n1_ := am (Kd.R_below (rl HO_346001.out) hb); have n2_ := am (Kd.R_below (rl HO_346002.out) hb); have n3_ := am (Kd.R_below (rl HO_357000.out) hb); have n4_ := am (Kd.R_below (rl HO_357001.out) hb); have n5_ := am (Kd.R_below (rl HO_357002.out) hb); have n6_ := am (Kd.R_below (rl HO_368000.out) hb); have n7_ := am (Kd.R_below (rl HO_368001.out) hb); have n8_ := am (Kd.R_below (rl HO_368002.out) hb); have n9_ := am (Kd.R_below (rl HO373.out) hb); have n10_ := am (Kd.R_below (rl HO376.out) hb); have n11_ := am (Kd.R_below (rl HO379.out) hb); have n12_ := am (blk_below (g := gb345) (o := .cells #[.slice Ao9 t334.length co9, .slice (some ad370) t337.length co11, .slice Ao12 t340.length co12] 25 (0, 0)) (kl BK345.out) hb); have n13_ := am (blk_below (g := gb356) (o := .cells #[.slice Ao15 t346.length co15, .slice Ao18 t349.length co18, .slice Ao19 t352.length co19] 25 (0, 0)) (kl BK356.out) hb); have n14_ := am (blk_below (g := gb367) (o := .cells #[.slice Ao23 t357.length co23, .slice Ao27 t360.length co27, .slice Ao28 t363.length co28] 25 (0, 0)) (kl BK367.out) hb); have n15_ := am (blk_below (g := gb381) (o := .cells #[.slice Ao72 t371.length co72, .slice Ao74 t374.length co74, .slice Ao76 t377.length co76] 25 (0, 0)) (kl BK381.out) hb); have n16_ := am (below_step (by repeat (first | (with_reducible first | exact HB.out | apply below_alloc | apply pw_below_drewN | apply below_drew1 | refine below_set ?_ GE345.out | refine below_set ?_ GE356.out | refine below_set ?_ GE367.out | refine below_set ?_ GE381.out) | exact HB.out)) hb); clear HO_346000; clear HO_346001; clear HO_346002; clear HO_357000; clear HO_357001; clear HO_357002; clear HO_368000; clear HO_368001; clear HO_368002; clear HO373; clear HO376; clear HO379; clear BK345; clear BK356; clear BK367; clear BK381; clear HB; have HO_346000 := n0_; have HO_346001 := n1_; have HO_346002 := n2_; have HO_357000 := n3_; have HO_357001 := n4_; have HO_357002 := n5_; have HO_368000 := n6_; have HO_368001 := n7_; have HO_368002 := n8_; have HO373 := n9_; have HO376 := n10_; have HO379 := n11_; have BK345 := n12_; have BK356 := n13_; have BK367 := n14_; have BK381 := n15_; have HB := n16_; clear n0_ n1_ n2_ n3_ n4_ n5_ n6_ n7_ n8_ n9_ n10_ n11_ n12_ n13_ n14_ n15_ n16_; (try clear hb); (try clear hb2); (try clear hk); (try clear hi); have hcz84_0 : w83.cell? ⟨gb356, 0, none⟩ = some (.slice Ao15 t346.length co15) := (blk_cell BK356.out 0).trans rfl; have hcz84_1 : w83.cell? ⟨gb356, 1, none⟩ = some (.slice Ao18 t349.length co18) := (blk_cell BK356.out 1).trans rfl; have hcz84_2 : w83.cell? ⟨gb356, 2, none⟩ = some (.slice Ao19 t352.length co19) := (blk_cell BK356.out 2).trans rfl; have hfz84_0 := blk_frozen BK356.out 0; have hfz84_1 := blk_frozen BK356.out 1; have hfz84_2 := blk_frozen BK356.out 2; have p383 : 0 ≤ (t343 : Int) := of_decide_eq_true (by first | (with_reducible assumption) | assumption); have q383 : t343 < (t349.length : Int) := of_decide_eq_true (by first | (with_reducible assumption) | assumption); obtain ⟨ad383, e383, hx383_0⟩ := Kd.at_int (Kd.R_reads' HO_357001.out).2.2 t343 p383 q383; cases e383; replace p383 := eq_true p383; replace q383 := eq_true q383; have hnb85 := NB381_345.out; have hnc85 := NB345_381.out; have hnb86 := NB381_367.out; have hnc86 := NB367_381.out; have hcz87_0 : w83.cell? ⟨gb381, 0, none⟩ = some (.slice Ao72 t371.length co72) := (blk_cell BK381.out 0).trans rfl; have hcz87_1 : w83.cell? ⟨gb381, 1, none⟩ = some (.slice Ao74 t374.length co74) := (blk_cell BK381.out 1).trans rfl; have hcz87_2 : w83.cell? ⟨gb381, 2, none⟩ = some (.slice Ao76 t377.length co76) := (blk_cell BK381.out 2).trans rfl; have hfz87_0 := blk_frozen BK381.out 0; have hfz87_1 := blk_frozen BK381.out 1; have hfz87_2 := blk_frozen BK381.out 2; have hnb88 := NB345_367.out; have hnc88 := NB367_345.out; have hcz89_0 : w83.cell? ⟨gb345, 0, none⟩ = some (.slice Ao9 t334.length co9) := (blk_cell BK345.out 0).trans rfl; have hcz89_1 : w83.cell? ⟨gb345, 1, none⟩ = some (.slice (some ad370) t337.length co11) := (blk_cell BK345.out 1).trans rfl; have hcz89_2 : w83.cell? ⟨gb345, 2, none⟩ = some (.slice Ao12 t340.length co12) := (blk_cell BK345.out 2).trans rfl; have hfz89_0 := blk_frozen BK345.out 0; have hfz89_1 := blk_frozen BK345.out 1; have hfz89_2 := blk_frozen BK345.out 2) | (go_at_call 16; (with_reducible refine (impl_HeapSame.calls kj5 _ _ t371 _ _ t374 _ _ t377 _ _ t334 _ _ t337 _ _ t340 t384 _ ?side1 ?side2 ?side3 ?side4 ?side5 ?side6 ?side7 ?side8 ?side9 ?side10 ?side11 ?side12 A67.out).mono ?_); (case side1 => repeat (first | exact (Kd.R_reads' HO373.out).2.2 | (with_reducible refine Kd.C_alloc ?_ _) | (with_reducible refine Kd.C_drewN ?_ _) | (with_reducible refine Kd.C_drew ?_))); (case side2 => exact (Kd.R_reads' HO373.out).2.1); (case side3 => repeat (first | exact (Kd.R_reads' HO376.out).2.2 | (with_reducible refine Kd.C_alloc ?_ _) | (with_reducible refine Kd.C_drewN ?_ _) | (with_reducible refine Kd.C_drew ?_))); (case side4 => exact (Kd.R_reads' HO376.out).2.1); (case side5 => repeat (first | exact (Kd.R_reads' HO379.out).2.2 | (with_reducible refine Kd.C_alloc ?_ _) | (with_reducible refine Kd.C_drewN ?_ _) | (with_reducible refine Kd.C_drew ?_))); (case side6 => exact (Kd.R_reads' HO379.out).2.1); (case side7 => repeat (first | exact (Kd.R_reads' HO_346000.out).2.2 | (with_reducible refine Kd.C_alloc ?_ _) | (with_reducible refine Kd.C_drewN ?_ _) | (with_reducible refine Kd.C_drew ?_))); (case side8 => exact (Kd.R_reads' HO_346000.out).2.1); (case side9 => repeat (first | exact (Kd.R_reads' HO_346001.out).2.2 | (with_reducible refine Kd.C_alloc ?_ _) | (with_reducible refine Kd.C_drewN ?_ _) | (with_reducible refine Kd.C_drew ?_))); (case side10 => exact (Kd.R_reads' HO_346001.out).2.1); (case side11 => repeat (first | exact (Kd.R_reads' HO_346002.out).2.2 | (with_reducible refine Kd.C_alloc ?_ _) | (with_reducible refine Kd.C_drewN ?_ _) | (with_reducible refine Kd.C_drew ?_))); (case side12 => exact (Kd.R_reads' HO_346002.out).2.1); rintro e w90 ⟨rfl, hb⟩; have n0_ := am (Kd.R_below (rl HO_346000.out) hb); have n1_ := am (Kd.R_below (rl HO_346001.out) hb); have n2_ := am (Kd.R_below (rl HO_346002.out) hb); have n3_ := am (Kd.R_below (rl HO_357000.out) hb); have n4_ := am (Kd.R_below (rl HO_357001.out) hb); have n5_ := am (Kd.R_below (rl HO_357002.out) hb); have n6_ := am (Kd.R_below (rl HO_368000.out) hb); have n7_ := am (Kd.R_below (rl HO_368001.out) hb); have n8_ := am (Kd.R_below (rl HO_368002.out) hb); have n9_ := am (Kd.R_below (rl HO373.out) hb); have n10_ := am (Kd.R_below (rl HO376.out) hb); have n11_ := am (Kd.R_below (rl HO379.out) hb); have n12_ := am (blk_below (g := gb345) (o := .cells #[.slice Ao9 t334.length co9, .slice (some ad370) t337.length co11, .slice Ao12 t340.length co12] 25 (0, 0)) (kl BK345.out) hb); have n13_ := am (blk_below (g := gb356) (o := .cells #[.slice Ao15 t346.length co15, .slice (some ad383) t349.length co18, .slice Ao19 t352.length co19] 25 (0, 0)) (kl BK356.out) hb); have n14_ := am (blk_below (g := gb367) (o := .cells #[.slice Ao23 t357.length co23, .slice Ao27 t360.length co27, .slice Ao28 t363.length co28] 25 (0, 0)) (kl BK367.out) hb); have n15_ := am (blk_below (g := gb381) (o := .cells #[.slice Ao72 t371.length co72, .slice Ao74 t374.length co74, .slice Ao76 t377.length co76] 25 (0, 0)) (kl BK381.out) hb); have n16_ := am (below_step (by repeat (first | (with_reducible first | exact HB.out | apply below_alloc | apply pw_below_drewN | apply below_drew1 | refine below_set ?_ GE345.out | refine below_set ?_ GE356.out | refine below_set ?_ GE367.out | refine below_set ?_ GE381.out) | exact HB.out)) hb); clear HO_346000; clear HO_346001; clear HO_346002; clear HO_357000; clear HO_357001; clear HO_357002; clear HO_368000; clear HO_368001; clear HO_368002; clear HO373; clear HO376; clear HO379; clear BK345; clear BK356; clear BK367; clear BK381; clear HB; have HO_346000 := n0_; have HO_346001 := n1_; have HO_346002 := n2_; have HO_357000 := n3_; have HO_357001 := n4_; have HO_357002 := n5_; have HO_368000 := n6_; have HO_368001 := n7_; have HO_368002 := n8_; have HO373 := n9_; have HO376 := n10_; have HO379 := n11_; have BK345 := n12_; have BK356 := n13_; have BK367 := n14_; have BK381 := n15_; have HB := n16_; clear n0_ n1_ n2_ n3_ n4_ n5_ n6_ n7_ n8_ n9_ n10_ n11_ n12_ n13_ n14_ n15_ n16_; (try clear hb); (try clear hb2); (try clear hk); (try clear hi)))
                      go_ret
                      exact ⟨by first | rfl | (simp [errW_none, errW_some] <;> rfl) | (simp [*, errW_none, errW_some] <;> rfl), by repeat (first | (with_reducible first | exact HB.out | apply below_alloc | apply pw_below_drewN | apply below_drew1 | refine below_set ?_ GE345.out | refine below_set ?_ GE356.out | refine below_set ?_ GE367.out | refine below_set ?_ GE381.out) | exact HB.out)⟩
                    · replace c66 := Bool.eq_false_iff.mpr c66
                      subst c66
                      have H1 : (none) = some r := by rw [if_neg (show ¬ (false = true) by decide)] at H; exact H
                      clear H
                      have H := H1
                      clear H1
                      exact absurd H (by simp)
                  · rw [if_neg c65] at H
                    exact absurd H (by simp)
                · rw [if_neg c64] at H
                  exact absurd H (by simp)
              · replace c63 := Bool.eq_false_iff.mpr c63
                subst c63
                have H1 : (none) = some r := by rw [if_neg (show ¬ (false = true) by decide)] at H; exact H
                clear H
                have H := H1
                clear H1
                exact absurd H (by simp)
            · rw [if_neg c60] at H
              exact absurd H (by simp)
          · rw [if_neg c59] at H
            exact absurd H (by simp)

/-- THE ONE PURE STATEMENT of laws_FnPutRight: yours. -/
def laws_FnPutRight.Pure : Prop := ∀ (l0 : List Int), l0.length ≤ maxLen → l0.length * 1 ≤ 140737488351232 → (∀ x ∈ l0, (Lit.int .u8 x).wf = true) → ∃ k, laws_FnPutRight.f k l0 = some true
theorem laws_FnPutRight.walk (P : laws_FnPutRight.Pure) (a0 : Option Addr) (len0 cap0 : Nat) (z0 : List Int) (w : World) (w0 : (a0 = none ∧ len0 = 0 ∧ cap0 = 0 ∧ z0 = []) ∨ ∃ x, a0 = some x ∧ len0 ≤ cap0 ∧ cap0 ≤ maxLen ∧ z0.length = cap0 ∧ (∀ i, i < z0.length → w.cell? (x.add i) = some (.int .u8 (z0.getD i 0))) ∧ ∀ n ∈ z0, (Lit.int .u8 n).wf = true) (y0 : len0 * 1 ≤ 140737488351232) :
    Calls Try.prog 3 #[.slice a0 len0 cap0] w fun e w' => e = .returned (.bool true) ∧ Below w.heap.size w w' := by
  obtain ⟨l0, rfl, hr0, hm0, hw0, hc0⟩ := ReadsInt.ofRowC w0
  obtain ⟨k, h⟩ := P l0 hm0 y0 hw0
  refine (laws_FnPutRight.calls k _ _ l0 true w (Kd.C_of_reads (d := (0 : Int)) (h1 := fun _ => rfl) hr0) hc0 h).mono ?_
  rintro e w' ⟨rfl, hd⟩
  exact ⟨rfl, hd⟩

end Go.Proofs.Ytcofdgeelojebaa.A
