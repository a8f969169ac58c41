/- Contracts of functions of the given program (CLawsFnNewHeap). No conditions beyond those stated. -/
import Derived.Test.YtcofdgeelojebaaA0
import Derived.Test.YtcofdgeelojebaaAImplCountPointers
import Derived.Test.YtcofdgeelojebaaAImplHeapSame
import Derived.Test.YtcofdgeelojebaaAImplHeapValid
import Derived.Test.YtcofdgeelojebaaAImplNewHeap
import Derived.Test.YtcofdgeelojebaaASpecDrawNewHeap
import Derived.Test.YtcofdgeelojebaaASpecNewHeap
import Derived.Test.YtcofdgeelojebaaA0
namespace Go.Proofs.Ytcofdgeelojebaa.A
open Go.RowKit Go.Proofs.YtcofdgeelojebaaW.PrintWords Go.Proofs.YtcofdgeelojebaaW.PrintLast Go.Proofs.YtcofdgeelojebaaW.PrintMore
attribute [local go_sem] max2_int min2_int max_two min_two max_three min_three max_four min_four   -- for this text's walks alone
set_option linter.unusedVariables false
set_option linter.unusedSimpArgs false

/-! ### laws_FnNewHeap -/
def laws_FnNewHeap.j0 : Nat → Int → Int → Bool → Bool → Bool → List Int → List Int → List Int → List Int → List Int → List Int → Option (Bool)
  | 0, _, _, _, _, _, _, _, _, _, _, _ => none
  | k + 1, x3, x4, x6, x8, x41, x620000, x620001, x620002, x631000, x631001, x631002 => if x41 = true then ((impl_HeapSame.f k x620000 x620001 x620002 x631000 x631001 x631002).bind fun t632 => (if t632 = true then (some (x6 == x8)) else (none))) else ((impl_HeapValid.f k x620000 x620001 x620002).bind fun t633 => (if t633 = true then (if (x620000.length : Int) = x3 then (if (x620002.length : Int) = x4 then ((impl_CountPointers.f k x620000 x620001 x620002).bind fun t634 => (some (t634 == 0))) else (none)) else (none)) else (none)))
def laws_FnNewHeap.f (k : Nat) (l0 : List Int) : Option (Bool) := if (l0.length : Int) > 1048576 then (some true) else ((spec_DrawNewHeap.f k l0).bind fun bt607 => ((impl_NewHeap.f k bt607.1 bt607.2).bind fun bt609 => ((spec_NewHeap.f k bt607.1 bt607.2).bind fun bt620 => ((impl_HeapSame.f k bt609.1 bt609.2.1 bt609.2.2.1 bt620.1 bt620.2.1 bt620.2.2.1).bind fun t631 => (if t631 = true then (if (bt609.2.2.2 != bt620.2.2.2) = true then (laws_FnNewHeap.j0 k bt607.1 bt607.2 bt609.2.2.2 bt620.2.2.2 true bt609.1 bt609.2.1 bt609.2.2.1 bt620.1 bt620.2.1 bt620.2.2.1) else (laws_FnNewHeap.j0 k bt607.1 bt607.2 bt609.2.2.2 bt620.2.2.2 (!bt609.2.2.2) bt609.1 bt609.2.1 bt609.2.2.1 bt620.1 bt620.2.1 bt620.2.2.1)) else (laws_FnNewHeap.j0 k bt607.1 bt607.2 bt609.2.2.2 bt620.2.2.2 true bt609.1 bt609.2.1 bt609.2.2.1 bt620.1 bt620.2.1 bt620.2.2.1))))))
theorem laws_FnNewHeap.mono_l : ∀ k, (∀ y0 y1 y2 y3 y4 y5 y6 y7 y8 y9 y10, LeO (laws_FnNewHeap.j0 k y0 y1 y2 y3 y4 y5 y6 y7 y8 y9 y10) (laws_FnNewHeap.j0 (k + 1) y0 y1 y2 y3 y4 y5 y6 y7 y8 y9 y10))
  | 0 => fun _ _ _ _ _ _ _ _ _ _ _ r h => by simp [laws_FnNewHeap.j0] at h
  | k + 1 => by
    have ih0 := laws_FnNewHeap.mono_l k
    · intro y0 y1 y2 y3 y4 y5 y6 y7 y8 y9 y10
      unfold laws_FnNewHeap.j0
      repeat' first
      | (with_reducible exact ih0 _ _ _ _ _ _ _ _ _ _ _)
      | (with_reducible exact impl_CountPointers.mono _ _ _ _)
      | (with_reducible exact impl_HeapSame.mono _ _ _ _ _ _ _)
      | (with_reducible exact impl_HeapValid.mono _ _ _ _)
      | (with_reducible exact impl_NewHeap.mono _ _ _)
      | (with_reducible exact spec_DrawNewHeap.mono _ _)
      | (with_reducible exact spec_NewHeap.mono _ _ _)
      | (with_reducible exact LeO.refl _)
      | (with_reducible exact LeO.none _)
      | (with_reducible refine LeO.ite ?_ ?_)
      | (with_reducible refine LeO.bind ?_ (fun _ => ?_))
      | exact ih0 _ _ _ _ _ _ _ _ _ _ _
      | exact impl_CountPointers.mono _ _ _ _
      | exact impl_HeapSame.mono _ _ _ _ _ _ _
      | exact impl_HeapValid.mono _ _ _ _
      | exact impl_NewHeap.mono _ _ _
      | exact spec_DrawNewHeap.mono _ _
      | exact spec_NewHeap.mono _ _ _
      | exact LeO.none _
      | refine LeO.ite ?_ ?_
      | refine LeO.bind ?_ (fun _ => ?_)
theorem laws_FnNewHeap.mono : ∀ a0 k, LeO (laws_FnNewHeap.f k a0) (laws_FnNewHeap.f (k + 1) a0) := by
  intro a0 k
  have ih0 := laws_FnNewHeap.mono_l k
  unfold laws_FnNewHeap.f
  repeat' first
      | (with_reducible exact ih0 _ _ _ _ _ _ _ _ _ _ _)
      | (with_reducible exact impl_CountPointers.mono _ _ _ _)
      | (with_reducible exact impl_HeapSame.mono _ _ _ _ _ _ _)
      | (with_reducible exact impl_HeapValid.mono _ _ _ _)
      | (with_reducible exact impl_NewHeap.mono _ _ _)
      | (with_reducible exact spec_DrawNewHeap.mono _ _)
      | (with_reducible exact spec_NewHeap.mono _ _ _)
      | (with_reducible exact LeO.refl _)
      | (with_reducible exact LeO.none _)
      | (with_reducible refine LeO.ite ?_ ?_)
      | (with_reducible refine LeO.bind ?_ (fun _ => ?_))
      | exact ih0 _ _ _ _ _ _ _ _ _ _ _
      | exact impl_CountPointers.mono _ _ _ _
      | exact impl_HeapSame.mono _ _ _ _ _ _ _
      | exact impl_HeapValid.mono _ _ _ _
      | exact impl_NewHeap.mono _ _ _
      | exact spec_DrawNewHeap.mono _ _
      | exact spec_NewHeap.mono _ _ _
      | exact LeO.none _
      | refine LeO.ite ?_ ?_
      | refine LeO.bind ?_ (fun _ => ?_)
set_option maxHeartbeats 8000000 in
set_option maxRecDepth 100000 in
theorem laws_FnNewHeap.calls (k : Nat) (A0 : Option Addr) (c0 : Nat) (l0 : List Int) (r : Bool) (w : World) (hr0 : Kd.C (Kd.int .u8) w A0 l0.length l0) (hc0 : l0.length ≤ c0) (h : laws_FnNewHeap.f k l0 = some r) :
    Calls Try.prog 6 #[.slice A0 l0.length c0] w fun e w' => e = .returned (.bool r) ∧ Below w.heap.size w w' := by
  have hu25 := Try.underlying25
  have HR0 := am hr0
  have HC0 := am hc0
  clear hr0 hc0
  have HB := am (Below.refl w.heap.size w)
  have H : (if (l0.length : Int) > 1048576 then (some true) else ((spec_DrawNewHeap.f k l0).bind fun bt607 => ((impl_NewHeap.f k bt607.1 bt607.2).bind fun bt609 => ((spec_NewHeap.f k bt607.1 bt607.2).bind fun bt620 => ((impl_HeapSame.f k bt609.1 bt609.2.1 bt609.2.2.1 bt620.1 bt620.2.1 bt620.2.2.1).bind fun t631 => (if t631 = true then (if (bt609.2.2.2 != bt620.2.2.2) = true then (laws_FnNewHeap.j0 k bt607.1 bt607.2 bt609.2.2.2 bt620.2.2.2 true bt609.1 bt609.2.1 bt609.2.2.1 bt620.1 bt620.2.1 bt620.2.2.1) else (laws_FnNewHeap.j0 k bt607.1 bt607.2 bt609.2.2.2 bt620.2.2.2 (!bt609.2.2.2) bt609.1 bt609.2.1 bt609.2.2.1 bt620.1 bt620.2.1 bt620.2.2.1)) else (laws_FnNewHeap.j0 k bt607.1 bt607.2 bt609.2.2.2 bt620.2.2.2 true bt609.1 bt609.2.1 bt609.2.2.1 bt620.1 bt620.2.1 bt620.2.2.1))))))) = some r := h
  clear h
  by_cases c2 : (l0.length : Int) > 1048576
  · rw [if_pos c2] at H
    have c2b0 : decide (1048576 < (l0.length : Int)) = true := decide_eq_true c2
    have c2b1 : decide (1048576 < l0.length) = true := decide_eq_true (by omega)
    clear c2
    obtain rfl := Option.some.inj H
    go_enter Try.func6, Try.ntmps6
    go_wp2
    go_ret
    exact ⟨by first | rfl | (simp [errW_none, errW_some] <;> rfl) | (simp [*, errW_none, errW_some] <;> rfl), by repeat (first | (with_reducible first | exact HB.out | apply below_alloc | apply pw_below_drewN | apply below_drew1) | exact HB.out)⟩
  · rw [if_neg c2] at H
    have c2b0 : decide (1048576 < (l0.length : Int)) = false := decide_eq_false c2
    have c2b1 : decide (1048576 < l0.length) = false := decide_eq_false (by omega)
    clear c2
    replace H := Option.bind_eq_some_iff.mp H
    obtain ⟨⟨t607, t608⟩, A30, H⟩ := H
    replace H : ((impl_NewHeap.f k t607 t608).bind fun bt609 => ((spec_NewHeap.f k t607 t608).bind fun bt620 => ((impl_HeapSame.f k bt609.1 bt609.2.1 bt609.2.2.1 bt620.1 bt620.2.1 bt620.2.2.1).bind fun t631 => (if t631 = true then (if (bt609.2.2.2 != bt620.2.2.2) = true then (laws_FnNewHeap.j0 k t607 t608 bt609.2.2.2 bt620.2.2.2 true bt609.1 bt609.2.1 bt609.2.2.1 bt620.1 bt620.2.1 bt620.2.2.1) else (laws_FnNewHeap.j0 k t607 t608 bt609.2.2.2 bt620.2.2.2 (!bt609.2.2.2) bt609.1 bt609.2.1 bt609.2.2.1 bt620.1 bt620.2.1 bt620.2.2.1)) else (laws_FnNewHeap.j0 k t607 t608 bt609.2.2.2 bt620.2.2.2 true bt609.1 bt609.2.1 bt609.2.2.1 bt620.1 bt620.2.1 bt620.2.2.1))))) = some r := H
    have A3 := am A30
    clear A30
    replace H := Option.bind_eq_some_iff.mp H
    obtain ⟨⟨t609, t612, t615, t618⟩, A40, H⟩ := H
    replace H : ((spec_NewHeap.f k t607 t608).bind fun bt620 => ((impl_HeapSame.f k t609 t612 t615 bt620.1 bt620.2.1 bt620.2.2.1).bind fun t631 => (if t631 = true then (if (t618 != bt620.2.2.2) = true then (laws_FnNewHeap.j0 k t607 t608 t618 bt620.2.2.2 true t609 t612 t615 bt620.1 bt620.2.1 bt620.2.2.1) else (laws_FnNewHeap.j0 k t607 t608 t618 bt620.2.2.2 (!t618) t609 t612 t615 bt620.1 bt620.2.1 bt620.2.2.1)) else (laws_FnNewHeap.j0 k t607 t608 t618 bt620.2.2.2 true t609 t612 t615 bt620.1 bt620.2.1 bt620.2.2.1)))) = some r := H
    have A4 := am A40
    clear A40
    replace H := Option.bind_eq_some_iff.mp H
    obtain ⟨⟨t620, t623, t626, t629⟩, A50, H⟩ := H
    replace H : ((impl_HeapSame.f k t609 t612 t615 t620 t623 t626).bind fun t631 => (if t631 = true then (if (t618 != t629) = true then (laws_FnNewHeap.j0 k t607 t608 t618 t629 true t609 t612 t615 t620 t623 t626) else (laws_FnNewHeap.j0 k t607 t608 t618 t629 (!t618) t609 t612 t615 t620 t623 t626)) else (laws_FnNewHeap.j0 k t607 t608 t618 t629 true t609 t612 t615 t620 t623 t626))) = some r := H
    have A5 := am A50
    clear A50
    have HC6 := am H
    clear H
    go_enter Try.func6, Try.ntmps6
    go_upto_region 6 with (first | ((with_reducible refine gate_callee (f := 25) rfl ?_); refine goesL_ (some 14) rfl rfl Try.func25 (by kernel_rfl) rfl #[.slice A0 l0.length c0] rfl (by (try simp only [List.map_toArray, List.map_cons, List.map_nil]); first | done | rfl | (simp only [List.length_drop, List.length_take]; rfl)) ?_; (with_reducible refine (spec_DrawNewHeap.calls k _ _ l0 t607 t608 _ ?side1 ?side2 A3.out).mono ?_); (case side1 => repeat (first | exact HR0.out | (with_reducible refine Kd.C_alloc ?_ _) | (with_reducible refine Kd.C_drewN ?_ _) | (with_reducible refine Kd.C_drew ?_))); (case side2 => exact HC0.out); rintro e w7 ⟨rfl, hb⟩; refine ⟨_, rfl, ?_⟩; have n0_ := am (below_step (bl HB.out) hb); clear HB; have HB := n0_; clear n0_; (try clear hb); (try clear hb2); (try clear hk); (try clear hi)) | ((with_reducible refine gate_callee (f := 26) rfl ?_); refine goesL_ (some 20) rfl rfl Try.func26 (by kernel_rfl) rfl #[.int .i64 t607, .int .i64 t608] rfl (by (try simp only [List.map_toArray, List.map_cons, List.map_nil]); first | done | rfl | (simp only [List.length_drop, List.length_take]; rfl)) ?_; (with_reducible refine (impl_NewHeap.calls k t607 t608 t609 t612 t615 t618 _ A4.out).mono ?_); rintro e w8 ⟨v610, v613, v616, rfl, ho0, ho1, ho2, hb⟩; refine ⟨_, rfl, ?_⟩; have n0_ := am (Kd.R_lower ho0 (below_size (bl HB.out))); have n1_ := am (Kd.R_lower ho1 (below_size (bl HB.out))); have n2_ := am (Kd.R_lower ho2 (below_size (bl HB.out))); have n3_ := am (below_step (bl HB.out) hb); clear HB; have HO611 := n0_; have HO614 := n1_; have HO617 := n2_; have HB := n3_; clear n0_ n1_ n2_ n3_; (try clear hb); (try clear hb2); (try clear hk); (try clear hi); (try clear ho0); (try clear ho1); (try clear ho2)) | ((with_reducible refine gate_dst (N := 5) rfl ?_); (try (refine gate_guard (by rfl) ?_; dsimp only)); refine box_event ?hg (N := 5) ?hd (cs := #[.slice none 0 0, .slice none 0 0, .slice none 0 0]) (t := 25) ?hr ?_; (case hd => rfl); (case hg => rfl); (case hr => first | (go_simp; done) | (go_simp; rfl)); intro gb619 hg w9 hbox hb; have n0_ := am (Kd.R_below (rl HO611.out) hb); have n1_ := am (Kd.R_below (rl HO614.out) hb); have n2_ := am (Kd.R_below (rl HO617.out) hb); have n3_ := am (below_step (bl HB.out) hb); have n4_ := am (hbox); have n5_ := am ((by rw [hg]; exact (below_size (bl HB.out)) : w.heap.size ≤ gb619)); have n6_ := am ((by rw [hg]; exact (below_size (bl HB.out)) : w.heap.size ≤ gb619)); clear HO611; clear HO614; clear HO617; clear HB; have HO611 := n0_; have HO614 := n1_; have HO617 := n2_; have HB := n3_; have BK619 := n4_; have GW619 := n5_; have GE619 := n6_; clear n0_ n1_ n2_ n3_ n4_ n5_ n6_; clear hb hbox hg; obtain ⟨Ao10, co10, eo10⟩ := Kd.R_slice HO611.out; subst eo10; have hcz11_0 : w9.cell? ⟨gb619, 0, none⟩ = some (.slice none 0 0) := (blk_cell BK619.out 0).trans rfl; have hcz11_1 : w9.cell? ⟨gb619, 1, none⟩ = some (.slice none 0 0) := (blk_cell BK619.out 1).trans rfl; have hcz11_2 : w9.cell? ⟨gb619, 2, none⟩ = some (.slice none 0 0) := (blk_cell BK619.out 2).trans rfl; have hfz11_0 := blk_frozen BK619.out 0; have hfz11_1 := blk_frozen BK619.out 1; have hfz11_2 := blk_frozen BK619.out 2; obtain ⟨Ao12, co12, eo12⟩ := Kd.R_slice HO614.out; subst eo12; obtain ⟨Ao13, co13, eo13⟩ := Kd.R_slice HO617.out; subst eo13) | ((with_reducible refine gate_callee (f := 27) rfl ?_); refine goesL_ (some 26) rfl rfl Try.func27 (by kernel_rfl) rfl #[.int .i64 t607, .int .i64 t608] rfl (by (try simp only [List.map_toArray, List.map_cons, List.map_nil]); first | done | rfl | (simp only [List.length_drop, List.length_take]; rfl)) ?_; (with_reducible refine (spec_NewHeap.calls k t607 t608 t620 t623 t626 t629 _ A5.out).mono ?_); rintro e w14 ⟨v621, v624, v627, rfl, ho0, ho1, ho2, hb⟩; refine ⟨_, rfl, ?_⟩; have n0_ := am (Kd.R_mono (Kd.R_told (Kd.R_told (Kd.R_told (Kd.R_old (rl ((far3 HO611.out BK619.out (by decide) (.slice Ao10 t609.length co10) (.slice Ao12 t612.length co12) (.slice Ao13 t615.length co13)))) hb) (Kd.R_base ho0)) (Kd.R_base ho1)) (Kd.R_base ho2)) (fun _ h_ => h_.1)); have n1_ := am (Kd.R_mono (Kd.R_told (Kd.R_told (Kd.R_told (Kd.R_old (rl ((far3 HO614.out BK619.out (by decide) (.slice Ao10 t609.length co10) (.slice Ao12 t612.length co12) (.slice Ao13 t615.length co13)))) hb) (Kd.R_base ho0)) (Kd.R_base ho1)) (Kd.R_base ho2)) (fun _ h_ => h_.1)); have n2_ := am (Kd.R_mono (Kd.R_told (Kd.R_told (Kd.R_told (Kd.R_old (rl ((far3 HO617.out BK619.out (by decide) (.slice Ao10 t609.length co10) (.slice Ao12 t612.length co12) (.slice Ao13 t615.length co13)))) hb) (Kd.R_base ho0)) (Kd.R_base ho1)) (Kd.R_base ho2)) (fun _ h_ => h_.1)); have n3_ := am (Kd.R_lower (Kd.R_new' (Kd.R_new' (Kd.R_new' ho0 (Kd.R_lt (rl ((far3 HO611.out BK619.out (by decide) (.slice Ao10 t609.length co10) (.slice Ao12 t612.length co12) (.slice Ao13 t615.length co13)))))) (Kd.R_lt (rl ((far3 HO614.out BK619.out (by decide) (.slice Ao10 t609.length co10) (.slice Ao12 t612.length co12) (.slice Ao13 t615.length co13)))))) (Kd.R_lt (rl ((far3 HO617.out BK619.out (by decide) (.slice Ao10 t609.length co10) (.slice Ao12 t612.length co12) (.slice Ao13 t615.length co13)))))) (below_size (by repeat (first | (with_reducible first | exact HB.out | apply below_alloc | apply pw_below_drewN | apply below_drew1 | refine below_set ?_ GE619.out) | exact HB.out)))); have n4_ := am (Kd.R_lower (Kd.R_new' (Kd.R_new' (Kd.R_new' ho1 (Kd.R_lt (rl ((far3 HO611.out BK619.out (by decide) (.slice Ao10 t609.length co10) (.slice Ao12 t612.length co12) (.slice Ao13 t615.length co13)))))) (Kd.R_lt (rl ((far3 HO614.out BK619.out (by decide) (.slice Ao10 t609.length co10) (.slice Ao12 t612.length co12) (.slice Ao13 t615.length co13)))))) (Kd.R_lt (rl ((far3 HO617.out BK619.out (by decide) (.slice Ao10 t609.length co10) (.slice Ao12 t612.length co12) (.slice Ao13 t615.length co13)))))) (below_size (by repeat (first | (with_reducible first | exact HB.out | apply below_alloc | apply pw_below_drewN | apply below_drew1 | refine below_set ?_ GE619.out) | exact HB.out)))); have n5_ := am (Kd.R_lower (Kd.R_new' (Kd.R_new' (Kd.R_new' ho2 (Kd.R_lt (rl ((far3 HO611.out BK619.out (by decide) (.slice Ao10 t609.length co10) (.slice Ao12 t612.length co12) (.slice Ao13 t615.length co13)))))) (Kd.R_lt (rl ((far3 HO614.out BK619.out (by decide) (.slice Ao10 t609.length co10) (.slice Ao12 t612.length co12) (.slice Ao13 t615.length co13)))))) (Kd.R_lt (rl ((far3 HO617.out BK619.out (by decide) (.slice Ao10 t609.length co10) (.slice Ao12 t612.length co12) (.slice Ao13 t615.length co13)))))) (below_size (by repeat (first | (with_reducible first | exact HB.out | apply below_alloc | apply pw_below_drewN | apply below_drew1 | refine below_set ?_ GE619.out) | exact HB.out)))); have n6_ := am (blk_below (g := gb619) (o := .cells #[.slice Ao10 t609.length co10, .slice Ao12 t612.length co12, .slice Ao13 t615.length co13] 25 (0, 0)) (by (with_reducible repeat (first | refine blk_drewN ?_ _ | refine blk_drew ?_ | refine blk_alloc ?_ _)); refine blk_put (cs := #[.slice Ao10 t609.length co10, .slice Ao12 t612.length co12, .slice none 0 0]) ?_ 2 _ rfl; (with_reducible repeat (first | refine blk_drewN ?_ _ | refine blk_drew ?_ | refine blk_alloc ?_ _)); refine blk_put (cs := #[.slice Ao10 t609.length co10, .slice none 0 0, .slice none 0 0]) ?_ 1 _ rfl; (with_reducible repeat (first | refine blk_drewN ?_ _ | refine blk_drew ?_ | refine blk_alloc ?_ _)); refine blk_put (cs := #[.slice none 0 0, .slice none 0 0, .slice none 0 0]) ?_ 0 _ rfl; (with_reducible repeat (first | refine blk_drewN ?_ _ | refine blk_drew ?_ | refine blk_alloc ?_ _)); exact BK619.out) hb); have n7_ := am (below_step (by repeat (first | (with_reducible first | exact HB.out | apply below_alloc | apply pw_below_drewN | apply below_drew1 | refine below_set ?_ GE619.out) | exact HB.out)) hb); clear HO611; clear HO614; clear HO617; clear BK619; clear HB; have HO611 := n0_; have HO614 := n1_; have HO617 := n2_; have HO622 := n3_; have HO625 := n4_; have HO628 := n5_; have BK619 := n6_; have HB := n7_; clear n0_ n1_ n2_ n3_ n4_ n5_ n6_ n7_; (try clear hb); (try clear hb2); (try clear hk); (try clear hi); (try clear ho0); (try clear ho1); (try clear ho2)) | ((with_reducible refine gate_dst (N := 7) rfl ?_); (try (refine gate_guard (by rfl) ?_; dsimp only)); refine box_event ?hg (N := 7) ?hd (cs := #[.slice none 0 0, .slice none 0 0, .slice none 0 0]) (t := 25) ?hr ?_; (case hd => rfl); (case hg => rfl); (case hr => first | (go_simp; done) | (go_simp; rfl)); intro gb630 hg w15 hbox hb; have n0_ := am (Kd.R_below (rl HO611.out) hb); have n1_ := am (Kd.R_below (rl HO614.out) hb); have n2_ := am (Kd.R_below (rl HO617.out) hb); have n3_ := am (Kd.R_below (rl HO622.out) hb); have n4_ := am (Kd.R_below (rl HO625.out) hb); have n5_ := am (Kd.R_below (rl HO628.out) hb); have n6_ := am (blk_below (g := gb619) (o := .cells #[.slice Ao10 t609.length co10, .slice Ao12 t612.length co12, .slice Ao13 t615.length co13] 25 (0, 0)) (kl BK619.out) hb); have n7_ := am (below_step (by repeat (first | (with_reducible first | exact HB.out | apply below_alloc | apply pw_below_drewN | apply below_drew1 | refine below_set ?_ GE619.out) | exact HB.out)) hb); have n8_ := am (hbox); have n9_ := am ((by rw [hg]; exact (below_size (by repeat (first | (with_reducible first | exact HB.out | apply below_alloc | apply pw_below_drewN | apply below_drew1 | refine below_set ?_ GE619.out) | exact HB.out))) : w.heap.size ≤ gb630)); have n10_ := am ((by rw [hg]; exact (below_size (by repeat (first | (with_reducible first | exact HB.out | apply below_alloc | apply pw_below_drewN | apply below_drew1 | refine below_set ?_ GE619.out) | exact HB.out))) : w.heap.size ≤ gb630)); have n11_ := am ((by rw [hg]; exact Nat.ne_of_lt (blk_lt (g := gb619) (o := .cells #[.slice Ao10 t609.length co10, .slice Ao12 t612.length co12, .slice Ao13 t615.length co13] 25 (0, 0)) (kl BK619.out)) : gb619 ≠ gb630)); have n12_ := am ((by rw [hg]; exact Nat.ne_of_gt (blk_lt (g := gb619) (o := .cells #[.slice Ao10 t609.length co10, .slice Ao12 t612.length co12, .slice Ao13 t615.length co13] 25 (0, 0)) (kl BK619.out)) : gb630 ≠ gb619)); clear HO611; clear HO614; clear HO617; clear HO622; clear HO625; clear HO628; clear BK619; clear HB; have HO611 := n0_; have HO614 := n1_; have HO617 := n2_; have HO622 := n3_; have HO625 := n4_; have HO628 := n5_; have BK619 := n6_; have HB := n7_; have BK630 := n8_; have GW630 := n9_; have GE630 := n10_; have NB619_630 := n11_; have NB630_619 := n12_; clear n0_ n1_ n2_ n3_ n4_ n5_ n6_ n7_ n8_ n9_ n10_ n11_ n12_; clear hb hbox hg; obtain ⟨Ao16, co16, eo16⟩ := Kd.R_slice HO622.out; subst eo16; have hnb17 := NB630_619.out; have hnc17 := NB619_630.out; have hcz18_0 : w15.cell? ⟨gb630, 0, none⟩ = some (.slice none 0 0) := (blk_cell BK630.out 0).trans rfl; have hcz18_1 : w15.cell? ⟨gb630, 1, none⟩ = some (.slice none 0 0) := (blk_cell BK630.out 1).trans rfl; have hcz18_2 : w15.cell? ⟨gb630, 2, none⟩ = some (.slice none 0 0) := (blk_cell BK630.out 2).trans rfl; have hfz18_0 := blk_frozen BK630.out 0; have hfz18_1 := blk_frozen BK630.out 1; have hfz18_2 := blk_frozen BK630.out 2; obtain ⟨Ao19, co19, eo19⟩ := Kd.R_slice HO625.out; subst eo19; obtain ⟨Ao20, co20, eo20⟩ := Kd.R_slice HO628.out; subst eo20))
    (try simp only [Act.put, List.setIfInBounds_toArray, List.set_cons_zero, List.set_cons_succ])
    go_cut [41] (fun v41 wc => ∃ (kq : Nat) (x41_5 : Bool), v41 = .bool x41_5 ∧ Aside0 (laws_FnNewHeap.j0 kq t607 t608 t618 t629 x41_5 t609 t612 t615 t620 t623 t626 = some r) ∧ Aside0 (kq ≤ k) ∧ Aside0 (Kd.R (Kd.int .i64) 3 wc w.heap.size (fun k_ => some k_ ≠ ((.slice Ao12 t612.length co12) : Value).ownBlock ∧ some k_ ≠ ((.slice Ao13 t615.length co13) : Value).ownBlock ∧ some k_ ≠ ((.slice Ao16 t620.length co16) : Value).ownBlock ∧ some k_ ≠ ((.slice Ao19 t623.length co19) : Value).ownBlock ∧ some k_ ≠ ((.slice Ao20 t626.length co20) : Value).ownBlock) (.slice Ao10 t609.length co10) t609) ∧ Aside0 (Kd.R (Kd.int .i64) 3 wc w.heap.size (fun k_ => some k_ ≠ ((.slice Ao10 t609.length co10) : Value).ownBlock ∧ some k_ ≠ ((.slice Ao13 t615.length co13) : Value).ownBlock ∧ some k_ ≠ ((.slice Ao16 t620.length co16) : Value).ownBlock ∧ some k_ ≠ ((.slice Ao19 t623.length co19) : Value).ownBlock ∧ some k_ ≠ ((.slice Ao20 t626.length co20) : Value).ownBlock) (.slice Ao12 t612.length co12) t612) ∧ Aside0 (Kd.R (Kd.int .i64) 3 wc w.heap.size (fun k_ => some k_ ≠ ((.slice Ao10 t609.length co10) : Value).ownBlock ∧ some k_ ≠ ((.slice Ao12 t612.length co12) : Value).ownBlock ∧ some k_ ≠ ((.slice Ao16 t620.length co16) : Value).ownBlock ∧ some k_ ≠ ((.slice Ao19 t623.length co19) : Value).ownBlock ∧ some k_ ≠ ((.slice Ao20 t626.length co20) : Value).ownBlock) (.slice Ao13 t615.length co13) t615) ∧ Aside0 (Kd.R (Kd.int .i64) 3 wc w.heap.size (fun k_ => some k_ ≠ ((.slice Ao10 t609.length co10) : Value).ownBlock ∧ some k_ ≠ ((.slice Ao12 t612.length co12) : Value).ownBlock ∧ some k_ ≠ ((.slice Ao13 t615.length co13) : Value).ownBlock ∧ some k_ ≠ ((.slice Ao19 t623.length co19) : Value).ownBlock ∧ some k_ ≠ ((.slice Ao20 t626.length co20) : Value).ownBlock) (.slice Ao16 t620.length co16) t620) ∧ Aside0 (Kd.R (Kd.int .i64) 3 wc w.heap.size (fun k_ => some k_ ≠ ((.slice Ao10 t609.length co10) : Value).ownBlock ∧ some k_ ≠ ((.slice Ao12 t612.length co12) : Value).ownBlock ∧ some k_ ≠ ((.slice Ao13 t615.length co13) : Value).ownBlock ∧ some k_ ≠ ((.slice Ao16 t620.length co16) : Value).ownBlock ∧ some k_ ≠ ((.slice Ao20 t626.length co20) : Value).ownBlock) (.slice Ao19 t623.length co19) t623) ∧ Aside0 (Kd.R (Kd.int .i64) 3 wc w.heap.size (fun k_ => some k_ ≠ ((.slice Ao10 t609.length co10) : Value).ownBlock ∧ some k_ ≠ ((.slice Ao12 t612.length co12) : Value).ownBlock ∧ some k_ ≠ ((.slice Ao13 t615.length co13) : Value).ownBlock ∧ some k_ ≠ ((.slice Ao16 t620.length co16) : Value).ownBlock ∧ some k_ ≠ ((.slice Ao19 t623.length co19) : Value).ownBlock) (.slice Ao20 t626.length co20) t626) ∧ Aside0 (wc.heap[gb619]? = some (.cells #[(.slice Ao10 t609.length co10), (.slice Ao12 t612.length co12), (.slice Ao13 t615.length co13)] 25 (0, 0))) ∧ Aside0 (wc.heap[gb630]? = some (.cells #[(.slice Ao16 t620.length co16), (.slice Ao19 t623.length co19), (.slice Ao20 t626.length co20)] 25 (0, 0))) ∧ Aside0 (Below w.heap.size w wc))
    case first =>
      have H := HC6.out
      clear HC6
      replace H := Option.bind_eq_some_iff.mp H
      obtain ⟨t631, A210, H⟩ := H
      replace H : (if t631 = true then (if (t618 != t629) = true then (laws_FnNewHeap.j0 k t607 t608 t618 t629 true t609 t612 t615 t620 t623 t626) else (laws_FnNewHeap.j0 k t607 t608 t618 t629 (!t618) t609 t612 t615 t620 t623 t626)) else (laws_FnNewHeap.j0 k t607 t608 t618 t629 true t609 t612 t615 t620 t623 t626)) = some r := H
      have A21 := am A210
      clear A210
      by_cases c22 : t631 = true
      · subst c22
        have H1 : (if (t618 != t629) = true then (laws_FnNewHeap.j0 k t607 t608 t618 t629 true t609 t612 t615 t620 t623 t626) else (laws_FnNewHeap.j0 k t607 t608 t618 t629 (!t618) t609 t612 t615 t620 t623 t626)) = some r := by rw [if_pos rfl] at H; exact H
        clear H
        have H := H1
        clear H1
        by_cases c23 : (t618 != t629) = true
        · rw [if_pos c23] at H
          have c23b0 : (t618 != t629) = true := c23
          (try (have c23b1 : decide (t618 = t629) = false := by simpa using c23))
          (try (have c23b2 : (t618 == t629) = false := by simpa using c23))
          (try (have c23b3 : ¬ (t618 = t629) := by simpa using c23))
          clear c23
          (first | rw [c23b0] | (simp only [i64_w, i32_w]; rw [c23b0]) | skip)
          have H' := am H
          clear H
          have hnb24 := NB619_630.out
          have hnc24 := NB630_619.out
          have hcz25_0 : w15.cell? ⟨gb619, 0, none⟩ = some (.slice Ao10 t609.length co10) := (blk_cell BK619.out 0).trans rfl
          have hcz25_1 : w15.cell? ⟨gb619, 1, none⟩ = some (.slice Ao12 t612.length co12) := (blk_cell BK619.out 1).trans rfl
          have hcz25_2 : w15.cell? ⟨gb619, 2, none⟩ = some (.slice Ao13 t615.length co13) := (blk_cell BK619.out 2).trans rfl
          have hfz25_0 := blk_frozen BK619.out 0
          have hfz25_1 := blk_frozen BK619.out 1
          have hfz25_2 := blk_frozen BK619.out 2
          have hcz26_0 : w15.cell? ⟨gb630, 0, none⟩ = some (.slice none 0 0) := (blk_cell BK630.out 0).trans rfl
          have hcz26_1 : w15.cell? ⟨gb630, 1, none⟩ = some (.slice none 0 0) := (blk_cell BK630.out 1).trans rfl
          have hcz26_2 : w15.cell? ⟨gb630, 2, none⟩ = some (.slice none 0 0) := (blk_cell BK630.out 2).trans rfl
          have hfz26_0 := blk_frozen BK630.out 0
          have hfz26_1 := blk_frozen BK630.out 1
          have hfz26_2 := blk_frozen BK630.out 2
          go_wp2_with (first | ((with_reducible refine gate_callee (f := 16) rfl ?_); refine goesL_ (some 31) rfl rfl Try.func16 (by kernel_rfl) rfl #[.agg #[.slice Ao10 t609.length co10, .slice Ao12 t612.length co12, .slice Ao13 t615.length co13], .agg #[.slice Ao16 t620.length co16, .slice Ao19 t623.length co19, .slice Ao20 t626.length co20]] rfl (by (try simp only [List.map_toArray, List.map_cons, List.map_nil]); first | done | rfl | (simp only [List.length_drop, List.length_take]; rfl)) ?_; (with_reducible refine (impl_HeapSame.calls k _ _ t609 _ _ t612 _ _ t615 _ _ t620 _ _ t623 _ _ t626 true _ ?side1 ?side2 ?side3 ?side4 ?side5 ?side6 ?side7 ?side8 ?side9 ?side10 ?side11 ?side12 A21.out).mono ?_); (case side1 => exact (Kd.R_reads' (rl ((far3 HO611.out BK630.out (by decide) (.slice Ao16 t620.length co16) (.slice Ao19 t623.length co19) (.slice Ao20 t626.length co20))))).2.2); (case side2 => exact (Kd.R_reads' HO611.out).2.1); (case side3 => exact (Kd.R_reads' (rl ((far3 HO614.out BK630.out (by decide) (.slice Ao16 t620.length co16) (.slice Ao19 t623.length co19) (.slice Ao20 t626.length co20))))).2.2); (case side4 => exact (Kd.R_reads' HO614.out).2.1); (case side5 => exact (Kd.R_reads' (rl ((far3 HO617.out BK630.out (by decide) (.slice Ao16 t620.length co16) (.slice Ao19 t623.length co19) (.slice Ao20 t626.length co20))))).2.2); (case side6 => exact (Kd.R_reads' HO617.out).2.1); (case side7 => exact (Kd.R_reads' (rl ((far3 HO622.out BK630.out (by decide) (.slice Ao16 t620.length co16) (.slice Ao19 t623.length co19) (.slice Ao20 t626.length co20))))).2.2); (case side8 => exact (Kd.R_reads' HO622.out).2.1); (case side9 => exact (Kd.R_reads' (rl ((far3 HO625.out BK630.out (by decide) (.slice Ao16 t620.length co16) (.slice Ao19 t623.length co19) (.slice Ao20 t626.length co20))))).2.2); (case side10 => exact (Kd.R_reads' HO625.out).2.1); (case side11 => exact (Kd.R_reads' (rl ((far3 HO628.out BK630.out (by decide) (.slice Ao16 t620.length co16) (.slice Ao19 t623.length co19) (.slice Ao20 t626.length co20))))).2.2); (case side12 => exact (Kd.R_reads' HO628.out).2.1); rintro e w27 ⟨rfl, hb⟩; refine ⟨_, rfl, ?_⟩; have n0_ := am (Kd.R_below (rl ((far3 HO611.out BK630.out (by decide) (.slice Ao16 t620.length co16) (.slice Ao19 t623.length co19) (.slice Ao20 t626.length co20)))) hb); have n1_ := am (Kd.R_below (rl ((far3 HO614.out BK630.out (by decide) (.slice Ao16 t620.length co16) (.slice Ao19 t623.length co19) (.slice Ao20 t626.length co20)))) hb); have n2_ := am (Kd.R_below (rl ((far3 HO617.out BK630.out (by decide) (.slice Ao16 t620.length co16) (.slice Ao19 t623.length co19) (.slice Ao20 t626.length co20)))) hb); have n3_ := am (Kd.R_below (rl ((far3 HO622.out BK630.out (by decide) (.slice Ao16 t620.length co16) (.slice Ao19 t623.length co19) (.slice Ao20 t626.length co20)))) hb); have n4_ := am (Kd.R_below (rl ((far3 HO625.out BK630.out (by decide) (.slice Ao16 t620.length co16) (.slice Ao19 t623.length co19) (.slice Ao20 t626.length co20)))) hb); have n5_ := am (Kd.R_below (rl ((far3 HO628.out BK630.out (by decide) (.slice Ao16 t620.length co16) (.slice Ao19 t623.length co19) (.slice Ao20 t626.length co20)))) hb); have n6_ := am (blk_below (g := gb619) (o := .cells #[.slice Ao10 t609.length co10, .slice Ao12 t612.length co12, .slice Ao13 t615.length co13] 25 (0, 0)) (by (with_reducible repeat (first | refine blk_drewN ?_ _ | refine blk_drew ?_ | refine blk_alloc ?_ _)); refine blk_far ?_ NB619_630.out _; (with_reducible repeat (first | refine blk_drewN ?_ _ | refine blk_drew ?_ | refine blk_alloc ?_ _)); refine blk_far ?_ NB619_630.out _; (with_reducible repeat (first | refine blk_drewN ?_ _ | refine blk_drew ?_ | refine blk_alloc ?_ _)); refine blk_far ?_ NB619_630.out _; (with_reducible repeat (first | refine blk_drewN ?_ _ | refine blk_drew ?_ | refine blk_alloc ?_ _)); exact BK619.out) hb); have n7_ := am (blk_below (g := gb630) (o := .cells #[.slice Ao16 t620.length co16, .slice Ao19 t623.length co19, .slice Ao20 t626.length co20] 25 (0, 0)) (by (with_reducible repeat (first | refine blk_drewN ?_ _ | refine blk_drew ?_ | refine blk_alloc ?_ _)); refine blk_put (cs := #[.slice Ao16 t620.length co16, .slice Ao19 t623.length co19, .slice none 0 0]) ?_ 2 _ rfl; (with_reducible repeat (first | refine blk_drewN ?_ _ | refine blk_drew ?_ | refine blk_alloc ?_ _)); refine blk_put (cs := #[.slice Ao16 t620.length co16, .slice none 0 0, .slice none 0 0]) ?_ 1 _ rfl; (with_reducible repeat (first | refine blk_drewN ?_ _ | refine blk_drew ?_ | refine blk_alloc ?_ _)); refine blk_put (cs := #[.slice none 0 0, .slice none 0 0, .slice none 0 0]) ?_ 0 _ rfl; (with_reducible repeat (first | refine blk_drewN ?_ _ | refine blk_drew ?_ | refine blk_alloc ?_ _)); exact BK630.out) hb); have n8_ := am (below_step (by repeat (first | (with_reducible first | exact HB.out | apply below_alloc | apply pw_below_drewN | apply below_drew1 | refine below_set ?_ GE619.out | refine below_set ?_ GE630.out) | exact HB.out)) hb); clear HO611; clear HO614; clear HO617; clear HO622; clear HO625; clear HO628; clear BK619; clear BK630; clear HB; have HO611 := n0_; have HO614 := n1_; have HO617 := n2_; have HO622 := n3_; have HO625 := n4_; have HO628 := n5_; have BK619 := n6_; have BK630 := n7_; have HB := n8_; clear n0_ n1_ n2_ n3_ n4_ n5_ n6_ n7_ n8_; (try clear hb); (try clear hb2); (try clear hk); (try clear hi)))
          go_meet
          case rel => exact ⟨_, (true), (by first | rfl | (simp; done) | (simp [*]; done)), H', ⟨by first | omega | exact Nat.le_refl _⟩, ⟨rl (Kd.R_mono HO611.out (fun _ hk => by simp only [ne_eq] at hk ⊢; simp only [hk, not_false_eq_true, and_self]))⟩, ⟨rl (Kd.R_mono HO614.out (fun _ hk => by simp only [ne_eq] at hk ⊢; simp only [hk, not_false_eq_true, and_self]))⟩, ⟨rl (Kd.R_mono HO617.out (fun _ hk => by simp only [ne_eq] at hk ⊢; simp only [hk, not_false_eq_true, and_self]))⟩, ⟨rl (Kd.R_mono HO622.out (fun _ hk => by simp only [ne_eq] at hk ⊢; simp only [hk, not_false_eq_true, and_self]))⟩, ⟨rl (Kd.R_mono HO625.out (fun _ hk => by simp only [ne_eq] at hk ⊢; simp only [hk, not_false_eq_true, and_self]))⟩, ⟨rl (Kd.R_mono HO628.out (fun _ hk => by simp only [ne_eq] at hk ⊢; simp only [hk, not_false_eq_true, and_self]))⟩, ⟨kl BK619.out⟩, ⟨kl BK630.out⟩, ⟨by repeat (first | (with_reducible first | exact HB.out | apply below_alloc | apply pw_below_drewN | apply below_drew1 | refine below_set ?_ GE619.out | refine below_set ?_ GE630.out) | exact HB.out)⟩⟩
        · rw [if_neg c23] at H
          have c23b0 : (t618 != t629) = false := by simpa using c23
          (try (have c23b1 : decide (t618 = t629) = true := by simpa using c23))
          (try (have c23b2 : (t618 == t629) = true := by simpa using c23))
          clear c23
          (first | rw [c23b0] | (simp only [i64_w, i32_w]; rw [c23b0]) | skip)
          have H' := am H
          clear H
          have hnb28 := NB619_630.out
          have hnc28 := NB630_619.out
          have hcz29_0 : w15.cell? ⟨gb619, 0, none⟩ = some (.slice Ao10 t609.length co10) := (blk_cell BK619.out 0).trans rfl
          have hcz29_1 : w15.cell? ⟨gb619, 1, none⟩ = some (.slice Ao12 t612.length co12) := (blk_cell BK619.out 1).trans rfl
          have hcz29_2 : w15.cell? ⟨gb619, 2, none⟩ = some (.slice Ao13 t615.length co13) := (blk_cell BK619.out 2).trans rfl
          have hfz29_0 := blk_frozen BK619.out 0
          have hfz29_1 := blk_frozen BK619.out 1
          have hfz29_2 := blk_frozen BK619.out 2
          have hcz30_0 : w15.cell? ⟨gb630, 0, none⟩ = some (.slice none 0 0) := (blk_cell BK630.out 0).trans rfl
          have hcz30_1 : w15.cell? ⟨gb630, 1, none⟩ = some (.slice none 0 0) := (blk_cell BK630.out 1).trans rfl
          have hcz30_2 : w15.cell? ⟨gb630, 2, none⟩ = some (.slice none 0 0) := (blk_cell BK630.out 2).trans rfl
          have hfz30_0 := blk_frozen BK630.out 0
          have hfz30_1 := blk_frozen BK630.out 1
          have hfz30_2 := blk_frozen BK630.out 2
          go_wp2_with (first | ((with_reducible refine gate_callee (f := 16) rfl ?_); refine goesL_ (some 31) rfl rfl Try.func16 (by kernel_rfl) rfl #[.agg #[.slice Ao10 t609.length co10, .slice Ao12 t612.length co12, .slice Ao13 t615.length co13], .agg #[.slice Ao16 t620.length co16, .slice Ao19 t623.length co19, .slice Ao20 t626.length co20]] rfl (by (try simp only [List.map_toArray, List.map_cons, List.map_nil]); first | done | rfl | (simp only [List.length_drop, List.length_take]; rfl)) ?_; (with_reducible refine (impl_HeapSame.calls k _ _ t609 _ _ t612 _ _ t615 _ _ t620 _ _ t623 _ _ t626 true _ ?side1 ?side2 ?side3 ?side4 ?side5 ?side6 ?side7 ?side8 ?side9 ?side10 ?side11 ?side12 A21.out).mono ?_); (case side1 => exact (Kd.R_reads' (rl ((far3 HO611.out BK630.out (by decide) (.slice Ao16 t620.length co16) (.slice Ao19 t623.length co19) (.slice Ao20 t626.length co20))))).2.2); (case side2 => exact (Kd.R_reads' HO611.out).2.1); (case side3 => exact (Kd.R_reads' (rl ((far3 HO614.out BK630.out (by decide) (.slice Ao16 t620.length co16) (.slice Ao19 t623.length co19) (.slice Ao20 t626.length co20))))).2.2); (case side4 => exact (Kd.R_reads' HO614.out).2.1); (case side5 => exact (Kd.R_reads' (rl ((far3 HO617.out BK630.out (by decide) (.slice Ao16 t620.length co16) (.slice Ao19 t623.length co19) (.slice Ao20 t626.length co20))))).2.2); (case side6 => exact (Kd.R_reads' HO617.out).2.1); (case side7 => exact (Kd.R_reads' (rl ((far3 HO622.out BK630.out (by decide) (.slice Ao16 t620.length co16) (.slice Ao19 t623.length co19) (.slice Ao20 t626.length co20))))).2.2); (case side8 => exact (Kd.R_reads' HO622.out).2.1); (case side9 => exact (Kd.R_reads' (rl ((far3 HO625.out BK630.out (by decide) (.slice Ao16 t620.length co16) (.slice Ao19 t623.length co19) (.slice Ao20 t626.length co20))))).2.2); (case side10 => exact (Kd.R_reads' HO625.out).2.1); (case side11 => exact (Kd.R_reads' (rl ((far3 HO628.out BK630.out (by decide) (.slice Ao16 t620.length co16) (.slice Ao19 t623.length co19) (.slice Ao20 t626.length co20))))).2.2); (case side12 => exact (Kd.R_reads' HO628.out).2.1); rintro e w31 ⟨rfl, hb⟩; refine ⟨_, rfl, ?_⟩; have n0_ := am (Kd.R_below (rl ((far3 HO611.out BK630.out (by decide) (.slice Ao16 t620.length co16) (.slice Ao19 t623.length co19) (.slice Ao20 t626.length co20)))) hb); have n1_ := am (Kd.R_below (rl ((far3 HO614.out BK630.out (by decide) (.slice Ao16 t620.length co16) (.slice Ao19 t623.length co19) (.slice Ao20 t626.length co20)))) hb); have n2_ := am (Kd.R_below (rl ((far3 HO617.out BK630.out (by decide) (.slice Ao16 t620.length co16) (.slice Ao19 t623.length co19) (.slice Ao20 t626.length co20)))) hb); have n3_ := am (Kd.R_below (rl ((far3 HO622.out BK630.out (by decide) (.slice Ao16 t620.length co16) (.slice Ao19 t623.length co19) (.slice Ao20 t626.length co20)))) hb); have n4_ := am (Kd.R_below (rl ((far3 HO625.out BK630.out (by decide) (.slice Ao16 t620.length co16) (.slice Ao19 t623.length co19) (.slice Ao20 t626.length co20)))) hb); have n5_ := am (Kd.R_below (rl ((far3 HO628.out BK630.out (by decide) (.slice Ao16 t620.length co16) (.slice Ao19 t623.length co19) (.slice Ao20 t626.length co20)))) hb); have n6_ := am (blk_below (g := gb619) (o := .cells #[.slice Ao10 t609.length co10, .slice Ao12 t612.length co12, .slice Ao13 t615.length co13] 25 (0, 0)) (by (with_reducible repeat (first | refine blk_drewN ?_ _ | refine blk_drew ?_ | refine blk_alloc ?_ _)); refine blk_far ?_ NB619_630.out _; (with_reducible repeat (first | refine blk_drewN ?_ _ | refine blk_drew ?_ | refine blk_alloc ?_ _)); refine blk_far ?_ NB619_630.out _; (with_reducible repeat (first | refine blk_drewN ?_ _ | refine blk_drew ?_ | refine blk_alloc ?_ _)); refine blk_far ?_ NB619_630.out _; (with_reducible repeat (first | refine blk_drewN ?_ _ | refine blk_drew ?_ | refine blk_alloc ?_ _)); exact BK619.out) hb); have n7_ := am (blk_below (g := gb630) (o := .cells #[.slice Ao16 t620.length co16, .slice Ao19 t623.length co19, .slice Ao20 t626.length co20] 25 (0, 0)) (by (with_reducible repeat (first | refine blk_drewN ?_ _ | refine blk_drew ?_ | refine blk_alloc ?_ _)); refine blk_put (cs := #[.slice Ao16 t620.length co16, .slice Ao19 t623.length co19, .slice none 0 0]) ?_ 2 _ rfl; (with_reducible repeat (first | refine blk_drewN ?_ _ | refine blk_drew ?_ | refine blk_alloc ?_ _)); refine blk_put (cs := #[.slice Ao16 t620.length co16, .slice none 0 0, .slice none 0 0]) ?_ 1 _ rfl; (with_reducible repeat (first | refine blk_drewN ?_ _ | refine blk_drew ?_ | refine blk_alloc ?_ _)); refine blk_put (cs := #[.slice none 0 0, .slice none 0 0, .slice none 0 0]) ?_ 0 _ rfl; (with_reducible repeat (first | refine blk_drewN ?_ _ | refine blk_drew ?_ | refine blk_alloc ?_ _)); exact BK630.out) hb); have n8_ := am (below_step (by repeat (first | (with_reducible first | exact HB.out | apply below_alloc | apply pw_below_drewN | apply below_drew1 | refine below_set ?_ GE619.out | refine below_set ?_ GE630.out) | exact HB.out)) hb); clear HO611; clear HO614; clear HO617; clear HO622; clear HO625; clear HO628; clear BK619; clear BK630; clear HB; have HO611 := n0_; have HO614 := n1_; have HO617 := n2_; have HO622 := n3_; have HO625 := n4_; have HO628 := n5_; have BK619 := n6_; have BK630 := n7_; have HB := n8_; clear n0_ n1_ n2_ n3_ n4_ n5_ n6_ n7_ n8_; (try clear hb); (try clear hb2); (try clear hk); (try clear hi)))
          go_meet
          case rel => exact ⟨_, (!t618), (by first | rfl | (simp; done) | (simp [*]; done)), H', ⟨by first | omega | exact Nat.le_refl _⟩, ⟨rl (Kd.R_mono HO611.out (fun _ hk => by simp only [ne_eq] at hk ⊢; simp only [hk, not_false_eq_true, and_self]))⟩, ⟨rl (Kd.R_mono HO614.out (fun _ hk => by simp only [ne_eq] at hk ⊢; simp only [hk, not_false_eq_true, and_self]))⟩, ⟨rl (Kd.R_mono HO617.out (fun _ hk => by simp only [ne_eq] at hk ⊢; simp only [hk, not_false_eq_true, and_self]))⟩, ⟨rl (Kd.R_mono HO622.out (fun _ hk => by simp only [ne_eq] at hk ⊢; simp only [hk, not_false_eq_true, and_self]))⟩, ⟨rl (Kd.R_mono HO625.out (fun _ hk => by simp only [ne_eq] at hk ⊢; simp only [hk, not_false_eq_true, and_self]))⟩, ⟨rl (Kd.R_mono HO628.out (fun _ hk => by simp only [ne_eq] at hk ⊢; simp only [hk, not_false_eq_true, and_self]))⟩, ⟨kl BK619.out⟩, ⟨kl BK630.out⟩, ⟨by repeat (first | (with_reducible first | exact HB.out | apply below_alloc | apply pw_below_drewN | apply below_drew1 | refine below_set ?_ GE619.out | refine below_set ?_ GE630.out) | exact HB.out)⟩⟩
      · replace c22 := Bool.eq_false_iff.mpr c22
        subst c22
        have H1 : (laws_FnNewHeap.j0 k t607 t608 t618 t629 true t609 t612 t615 t620 t623 t626) = some r := by rw [if_neg (show ¬ (false = true) by decide)] at H; exact H
        clear H
        have H := H1
        clear H1
        have H' := am H
        clear H
        have hnb32 := NB619_630.out
        have hnc32 := NB630_619.out
        have hcz33_0 : w15.cell? ⟨gb619, 0, none⟩ = some (.slice Ao10 t609.length co10) := (blk_cell BK619.out 0).trans rfl
        have hcz33_1 : w15.cell? ⟨gb619, 1, none⟩ = some (.slice Ao12 t612.length co12) := (blk_cell BK619.out 1).trans rfl
        have hcz33_2 : w15.cell? ⟨gb619, 2, none⟩ = some (.slice Ao13 t615.length co13) := (blk_cell BK619.out 2).trans rfl
        have hfz33_0 := blk_frozen BK619.out 0
        have hfz33_1 := blk_frozen BK619.out 1
        have hfz33_2 := blk_frozen BK619.out 2
        have hcz34_0 : w15.cell? ⟨gb630, 0, none⟩ = some (.slice none 0 0) := (blk_cell BK630.out 0).trans rfl
        have hcz34_1 : w15.cell? ⟨gb630, 1, none⟩ = some (.slice none 0 0) := (blk_cell BK630.out 1).trans rfl
        have hcz34_2 : w15.cell? ⟨gb630, 2, none⟩ = some (.slice none 0 0) := (blk_cell BK630.out 2).trans rfl
        have hfz34_0 := blk_frozen BK630.out 0
        have hfz34_1 := blk_frozen BK630.out 1
        have hfz34_2 := blk_frozen BK630.out 2
        go_wp2_with (first | ((with_reducible refine gate_callee (f := 16) rfl ?_); refine goesL_ (some 31) rfl rfl Try.func16 (by kernel_rfl) rfl #[.agg #[.slice Ao10 t609.length co10, .slice Ao12 t612.length co12, .slice Ao13 t615.length co13], .agg #[.slice Ao16 t620.length co16, .slice Ao19 t623.length co19, .slice Ao20 t626.length co20]] rfl (by (try simp only [List.map_toArray, List.map_cons, List.map_nil]); first | done | rfl | (simp only [List.length_drop, List.length_take]; rfl)) ?_; (with_reducible refine (impl_HeapSame.calls k _ _ t609 _ _ t612 _ _ t615 _ _ t620 _ _ t623 _ _ t626 false _ ?side1 ?side2 ?side3 ?side4 ?side5 ?side6 ?side7 ?side8 ?side9 ?side10 ?side11 ?side12 A21.out).mono ?_); (case side1 => exact (Kd.R_reads' (rl ((far3 HO611.out BK630.out (by decide) (.slice Ao16 t620.length co16) (.slice Ao19 t623.length co19) (.slice Ao20 t626.length co20))))).2.2); (case side2 => exact (Kd.R_reads' HO611.out).2.1); (case side3 => exact (Kd.R_reads' (rl ((far3 HO614.out BK630.out (by decide) (.slice Ao16 t620.length co16) (.slice Ao19 t623.length co19) (.slice Ao20 t626.length co20))))).2.2); (case side4 => exact (Kd.R_reads' HO614.out).2.1); (case side5 => exact (Kd.R_reads' (rl ((far3 HO617.out BK630.out (by decide) (.slice Ao16 t620.length co16) (.slice Ao19 t623.length co19) (.slice Ao20 t626.length co20))))).2.2); (case side6 => exact (Kd.R_reads' HO617.out).2.1); (case side7 => exact (Kd.R_reads' (rl ((far3 HO622.out BK630.out (by decide) (.slice Ao16 t620.length co16) (.slice Ao19 t623.length co19) (.slice Ao20 t626.length co20))))).2.2); (case side8 => exact (Kd.R_reads' HO622.out).2.1); (case side9 => exact (Kd.R_reads' (rl ((far3 HO625.out BK630.out (by decide) (.slice Ao16 t620.length co16) (.slice Ao19 t623.length co19) (.slice Ao20 t626.length co20))))).2.2); (case side10 => exact (Kd.R_reads' HO625.out).2.1); (case side11 => exact (Kd.R_reads' (rl ((far3 HO628.out BK630.out (by decide) (.slice Ao16 t620.length co16) (.slice Ao19 t623.length co19) (.slice Ao20 t626.length co20))))).2.2); (case side12 => exact (Kd.R_reads' HO628.out).2.1); rintro e w35 ⟨rfl, hb⟩; refine ⟨_, rfl, ?_⟩; have n0_ := am (Kd.R_below (rl ((far3 HO611.out BK630.out (by decide) (.slice Ao16 t620.length co16) (.slice Ao19 t623.length co19) (.slice Ao20 t626.length co20)))) hb); have n1_ := am (Kd.R_below (rl ((far3 HO614.out BK630.out (by decide) (.slice Ao16 t620.length co16) (.slice Ao19 t623.length co19) (.slice Ao20 t626.length co20)))) hb); have n2_ := am (Kd.R_below (rl ((far3 HO617.out BK630.out (by decide) (.slice Ao16 t620.length co16) (.slice Ao19 t623.length co19) (.slice Ao20 t626.length co20)))) hb); have n3_ := am (Kd.R_below (rl ((far3 HO622.out BK630.out (by decide) (.slice Ao16 t620.length co16) (.slice Ao19 t623.length co19) (.slice Ao20 t626.length co20)))) hb); have n4_ := am (Kd.R_below (rl ((far3 HO625.out BK630.out (by decide) (.slice Ao16 t620.length co16) (.slice Ao19 t623.length co19) (.slice Ao20 t626.length co20)))) hb); have n5_ := am (Kd.R_below (rl ((far3 HO628.out BK630.out (by decide) (.slice Ao16 t620.length co16) (.slice Ao19 t623.length co19) (.slice Ao20 t626.length co20)))) hb); have n6_ := am (blk_below (g := gb619) (o := .cells #[.slice Ao10 t609.length co10, .slice Ao12 t612.length co12, .slice Ao13 t615.length co13] 25 (0, 0)) (by (with_reducible repeat (first | refine blk_drewN ?_ _ | refine blk_drew ?_ | refine blk_alloc ?_ _)); refine blk_far ?_ NB619_630.out _; (with_reducible repeat (first | refine blk_drewN ?_ _ | refine blk_drew ?_ | refine blk_alloc ?_ _)); refine blk_far ?_ NB619_630.out _; (with_reducible repeat (first | refine blk_drewN ?_ _ | refine blk_drew ?_ | refine blk_alloc ?_ _)); refine blk_far ?_ NB619_630.out _; (with_reducible repeat (first | refine blk_drewN ?_ _ | refine blk_drew ?_ | refine blk_alloc ?_ _)); exact BK619.out) hb); have n7_ := am (blk_below (g := gb630) (o := .cells #[.slice Ao16 t620.length co16, .slice Ao19 t623.length co19, .slice Ao20 t626.length co20] 25 (0, 0)) (by (with_reducible repeat (first | refine blk_drewN ?_ _ | refine blk_drew ?_ | refine blk_alloc ?_ _)); refine blk_put (cs := #[.slice Ao16 t620.length co16, .slice Ao19 t623.length co19, .slice none 0 0]) ?_ 2 _ rfl; (with_reducible repeat (first | refine blk_drewN ?_ _ | refine blk_drew ?_ | refine blk_alloc ?_ _)); refine blk_put (cs := #[.slice Ao16 t620.length co16, .slice none 0 0, .slice none 0 0]) ?_ 1 _ rfl; (with_reducible repeat (first | refine blk_drewN ?_ _ | refine blk_drew ?_ | refine blk_alloc ?_ _)); refine blk_put (cs := #[.slice none 0 0, .slice none 0 0, .slice none 0 0]) ?_ 0 _ rfl; (with_reducible repeat (first | refine blk_drewN ?_ _ | refine blk_drew ?_ | refine blk_alloc ?_ _)); exact BK630.out) hb); have n8_ := am (below_step (by repeat (first | (with_reducible first | exact HB.out | apply below_alloc | apply pw_below_drewN | apply below_drew1 | refine below_set ?_ GE619.out | refine below_set ?_ GE630.out) | exact HB.out)) hb); clear HO611; clear HO614; clear HO617; clear HO622; clear HO625; clear HO628; clear BK619; clear BK630; clear HB; have HO611 := n0_; have HO614 := n1_; have HO617 := n2_; have HO622 := n3_; have HO625 := n4_; have HO628 := n5_; have BK619 := n6_; have BK630 := n7_; have HB := n8_; clear n0_ n1_ n2_ n3_ n4_ n5_ n6_ n7_ n8_; (try clear hb); (try clear hb2); (try clear hk); (try clear hi)))
        go_meet
        case rel => exact ⟨_, (true), (by first | rfl | (simp; done) | (simp [*]; done)), H', ⟨by first | omega | exact Nat.le_refl _⟩, ⟨rl (Kd.R_mono HO611.out (fun _ hk => by simp only [ne_eq] at hk ⊢; simp only [hk, not_false_eq_true, and_self]))⟩, ⟨rl (Kd.R_mono HO614.out (fun _ hk => by simp only [ne_eq] at hk ⊢; simp only [hk, not_false_eq_true, and_self]))⟩, ⟨rl (Kd.R_mono HO617.out (fun _ hk => by simp only [ne_eq] at hk ⊢; simp only [hk, not_false_eq_true, and_self]))⟩, ⟨rl (Kd.R_mono HO622.out (fun _ hk => by simp only [ne_eq] at hk ⊢; simp only [hk, not_false_eq_true, and_self]))⟩, ⟨rl (Kd.R_mono HO625.out (fun _ hk => by simp only [ne_eq] at hk ⊢; simp only [hk, not_false_eq_true, and_self]))⟩, ⟨rl (Kd.R_mono HO628.out (fun _ hk => by simp only [ne_eq] at hk ⊢; simp only [hk, not_false_eq_true, and_self]))⟩, ⟨kl BK619.out⟩, ⟨kl BK630.out⟩, ⟨by repeat (first | (with_reducible first | exact HB.out | apply below_alloc | apply pw_below_drewN | apply below_drew1 | refine below_set ?_ GE619.out | refine below_set ?_ GE630.out) | exact HB.out)⟩⟩
    case rest =>
      clear HC6
      try clear c1
      try clear c2
      try clear c2b0
      try clear c2b1
      try clear p2
      try clear c3
      try clear c6
      try clear c16
      try clear c17
      try clear c22
      try clear c23
      try clear c23b0
      try clear c23b1
      try clear c23b2
      try clear c24
      try clear c25
      try clear c26
      try clear c27
      try clear c28
      try clear c32
      try clear hcz11_0
      try clear hcz11_1
      try clear hcz11_2
      try clear hcz18_0
      try clear hcz18_1
      try clear hcz18_2
      try clear hcz25_0
      try clear hcz25_1
      try clear hcz25_2
      try clear hcz26_0
      try clear hcz26_1
      try clear hcz26_2
      try clear hcz29_0
      try clear hcz29_1
      try clear hcz29_2
      try clear hcz30_0
      try clear hcz30_1
      try clear hcz30_2
      try clear hcz33_0
      try clear hcz33_1
      try clear hcz33_2
      try clear hcz34_0
      try clear hcz34_1
      try clear hcz34_2
      try clear hfz11_0
      try clear hfz11_1
      try clear hfz11_2
      try clear hfz18_0
      try clear hfz18_1
      try clear hfz18_2
      try clear hfz25_0
      try clear hfz25_1
      try clear hfz25_2
      try clear hfz26_0
      try clear hfz26_1
      try clear hfz26_2
      try clear hfz29_0
      try clear hfz29_1
      try clear hfz29_2
      try clear hfz30_0
      try clear hfz30_1
      try clear hfz30_2
      try clear hfz33_0
      try clear hfz33_1
      try clear hfz33_2
      try clear hfz34_0
      try clear hfz34_1
      try clear hfz34_2
      obtain ⟨kq, x41_5, rfl, HA, HJ5, HO_620000, HO_620001, HO_620002, HO_631000, HO_631001, HO_631002, BK619, BK630, HB⟩ := hcut
      cases kq with
      | zero => exact absurd HA.out (by simp [laws_FnNewHeap.j0])
      | succ kj5 =>
        have H := HA.out
        clear HA
        simp only [laws_FnNewHeap.j0] at H
        by_cases c36 : x41_5 = true
        · subst c36
          have H1 : ((impl_HeapSame.f kj5 t609 t612 t615 t620 t623 t626).bind fun t632 => (if t632 = true then (some (t618 == t629)) else (none))) = some r := by rw [if_pos rfl] at H; exact H
          clear H
          have H := H1
          clear H1
          replace H := Option.bind_eq_some_iff.mp H
          obtain ⟨t632, A370, H⟩ := H
          replace H : (if t632 = true then (some (t618 == t629)) else (none)) = some r := H
          have A37 := am A370
          clear A370
          by_cases c38 : t632 = true
          · subst c38
            have H1 : (some (t618 == t629)) = some r := by rw [if_pos rfl] at H; exact H
            clear H
            have H := H1
            clear H1
            obtain rfl := Option.some.inj H
            have hnb39 := NB619_630.out
            have hnc39 := NB630_619.out
            have hcz40_0 : wc.cell? ⟨gb619, 0, none⟩ = some (.slice Ao10 t609.length co10) := (blk_cell BK619.out 0).trans rfl
            have hcz40_1 : wc.cell? ⟨gb619, 1, none⟩ = some (.slice Ao12 t612.length co12) := (blk_cell BK619.out 1).trans rfl
            have hcz40_2 : wc.cell? ⟨gb619, 2, none⟩ = some (.slice Ao13 t615.length co13) := (blk_cell BK619.out 2).trans rfl
            have hfz40_0 := blk_frozen BK619.out 0
            have hfz40_1 := blk_frozen BK619.out 1
            have hfz40_2 := blk_frozen BK619.out 2
            have hcz41_0 : wc.cell? ⟨gb630, 0, none⟩ = some (.slice Ao16 t620.length co16) := (blk_cell BK630.out 0).trans rfl
            have hcz41_1 : wc.cell? ⟨gb630, 1, none⟩ = some (.slice Ao19 t623.length co19) := (blk_cell BK630.out 1).trans rfl
            have hcz41_2 : wc.cell? ⟨gb630, 2, none⟩ = some (.slice Ao20 t626.length co20) := (blk_cell BK630.out 2).trans rfl
            have hfz41_0 := blk_frozen BK630.out 0
            have hfz41_1 := blk_frozen BK630.out 1
            have hfz41_2 := blk_frozen BK630.out 2
            go_wp2_with (first | ((with_reducible refine gate_callee (f := 16) rfl ?_); refine goesL_ (some 44) rfl rfl Try.func16 (by kernel_rfl) rfl #[.agg #[.slice Ao10 t609.length co10, .slice Ao12 t612.length co12, .slice Ao13 t615.length co13], .agg #[.slice Ao16 t620.length co16, .slice Ao19 t623.length co19, .slice Ao20 t626.length co20]] rfl (by (try simp only [List.map_toArray, List.map_cons, List.map_nil]); first | done | rfl | (simp only [List.length_drop, List.length_take]; rfl)) ?_; (with_reducible refine (impl_HeapSame.calls kj5 _ _ t609 _ _ t612 _ _ t615 _ _ t620 _ _ t623 _ _ t626 true _ ?side1 ?side2 ?side3 ?side4 ?side5 ?side6 ?side7 ?side8 ?side9 ?side10 ?side11 ?side12 A37.out).mono ?_); (case side1 => repeat (first | exact (Kd.R_reads' HO_620000.out).2.2 | (with_reducible refine Kd.C_alloc ?_ _) | (with_reducible refine Kd.C_drewN ?_ _) | (with_reducible refine Kd.C_drew ?_))); (case side2 => exact (Kd.R_reads' HO_620000.out).2.1); (case side3 => repeat (first | exact (Kd.R_reads' HO_620001.out).2.2 | (with_reducible refine Kd.C_alloc ?_ _) | (with_reducible refine Kd.C_drewN ?_ _) | (with_reducible refine Kd.C_drew ?_))); (case side4 => exact (Kd.R_reads' HO_620001.out).2.1); (case side5 => repeat (first | exact (Kd.R_reads' HO_620002.out).2.2 | (with_reducible refine Kd.C_alloc ?_ _) | (with_reducible refine Kd.C_drewN ?_ _) | (with_reducible refine Kd.C_drew ?_))); (case side6 => exact (Kd.R_reads' HO_620002.out).2.1); (case side7 => repeat (first | exact (Kd.R_reads' HO_631000.out).2.2 | (with_reducible refine Kd.C_alloc ?_ _) | (with_reducible refine Kd.C_drewN ?_ _) | (with_reducible refine Kd.C_drew ?_))); (case side8 => exact (Kd.R_reads' HO_631000.out).2.1); (case side9 => repeat (first | exact (Kd.R_reads' HO_631001.out).2.2 | (with_reducible refine Kd.C_alloc ?_ _) | (with_reducible refine Kd.C_drewN ?_ _) | (with_reducible refine Kd.C_drew ?_))); (case side10 => exact (Kd.R_reads' HO_631001.out).2.1); (case side11 => repeat (first | exact (Kd.R_reads' HO_631002.out).2.2 | (with_reducible refine Kd.C_alloc ?_ _) | (with_reducible refine Kd.C_drewN ?_ _) | (with_reducible refine Kd.C_drew ?_))); (case side12 => exact (Kd.R_reads' HO_631002.out).2.1); rintro e w42 ⟨rfl, hb⟩; refine ⟨_, rfl, ?_⟩; have n0_ := am (Kd.R_below (rl HO_620000.out) hb); have n1_ := am (Kd.R_below (rl HO_620001.out) hb); have n2_ := am (Kd.R_below (rl HO_620002.out) hb); have n3_ := am (Kd.R_below (rl HO_631000.out) hb); have n4_ := am (Kd.R_below (rl HO_631001.out) hb); have n5_ := am (Kd.R_below (rl HO_631002.out) hb); have n6_ := am (blk_below (g := gb619) (o := .cells #[.slice Ao10 t609.length co10, .slice Ao12 t612.length co12, .slice Ao13 t615.length co13] 25 (0, 0)) (kl BK619.out) hb); have n7_ := am (blk_below (g := gb630) (o := .cells #[.slice Ao16 t620.length co16, .slice Ao19 t623.length co19, .slice Ao20 t626.length co20] 25 (0, 0)) (kl BK630.out) hb); have n8_ := am (below_step (by repeat (first | (with_reducible first | exact HB.out | apply below_alloc | apply pw_below_drewN | apply below_drew1 | refine below_set ?_ GE619.out | refine below_set ?_ GE630.out) | exact HB.out)) hb); clear HO_620000; clear HO_620001; clear HO_620002; clear HO_631000; clear HO_631001; clear HO_631002; clear BK619; clear BK630; clear HB; have HO_620000 := n0_; have HO_620001 := n1_; have HO_620002 := n2_; have HO_631000 := n3_; have HO_631001 := n4_; have HO_631002 := n5_; have BK619 := n6_; have BK630 := n7_; have HB := n8_; clear n0_ n1_ n2_ n3_ n4_ n5_ n6_ n7_ n8_; (try clear hb); (try clear hb2); (try clear hk); (try clear hi)))
            go_ret
            exact ⟨by first | rfl | (simp [errW_none, errW_some] <;> rfl) | (simp [*, errW_none, errW_some] <;> rfl), by repeat (first | (with_reducible first | exact HB.out | apply below_alloc | apply pw_below_drewN | apply below_drew1 | refine below_set ?_ GE619.out | refine below_set ?_ GE630.out) | exact HB.out)⟩
          · replace c38 := Bool.eq_false_iff.mpr c38
            subst c38
            have H1 : (none) = some r := by rw [if_neg (show ¬ (false = true) by decide)] at H; exact H
            clear H
            have H := H1
            clear H1
            exact absurd H (by simp)
        · replace c36 := Bool.eq_false_iff.mpr c36
          subst c36
          have H1 : ((impl_HeapValid.f kj5 t609 t612 t615).bind fun t633 => (if t633 = true then (if (t609.length : Int) = t607 then (if (t615.length : Int) = t608 then ((impl_CountPointers.f kj5 t609 t612 t615).bind fun t634 => (some (t634 == 0))) else (none)) else (none)) else (none))) = some r := by rw [if_neg (show ¬ (false = true) by decide)] at H; exact H
          clear H
          have H := H1
          clear H1
          replace H := Option.bind_eq_some_iff.mp H
          obtain ⟨t633, A430, H⟩ := H
          replace H : (if t633 = true then (if (t609.length : Int) = t607 then (if (t615.length : Int) = t608 then ((impl_CountPointers.f kj5 t609 t612 t615).bind fun t634 => (some (t634 == 0))) else (none)) else (none)) else (none)) = some r := H
          have A43 := am A430
          clear A430
          by_cases c44 : t633 = true
          · subst c44
            have H1 : (if (t609.length : Int) = t607 then (if (t615.length : Int) = t608 then ((impl_CountPointers.f kj5 t609 t612 t615).bind fun t634 => (some (t634 == 0))) else (none)) else (none)) = some r := by rw [if_pos rfl] at H; exact H
            clear H
            have H := H1
            clear H1
            by_cases c45 : (t609.length : Int) = t607
            · rw [if_pos c45] at H
              have c45b0 : ((t609.length : Int) == t607) = true := beq_iff_eq.mpr c45
              have c45b1 : ((t609.length : Int) != t607) = false := bne_eq_false_iff_eq.mpr c45
              clear c45
              by_cases c46 : (t615.length : Int) = t608
              · rw [if_pos c46] at H
                have c46b0 : ((t615.length : Int) == t608) = true := beq_iff_eq.mpr c46
                have c46b1 : ((t615.length : Int) != t608) = false := bne_eq_false_iff_eq.mpr c46
                clear c46
                replace H := Option.bind_eq_some_iff.mp H
                obtain ⟨t634, A470, H⟩ := H
                replace H : (some (t634 == 0)) = some r := H
                have A47 := am A470
                clear A470
                obtain rfl := Option.some.inj H
                have hnb48 := NB619_630.out
                have hnc48 := NB630_619.out
                have hcz49_0 : wc.cell? ⟨gb619, 0, none⟩ = some (.slice Ao10 t609.length co10) := (blk_cell BK619.out 0).trans rfl
                have hcz49_1 : wc.cell? ⟨gb619, 1, none⟩ = some (.slice Ao12 t612.length co12) := (blk_cell BK619.out 1).trans rfl
                have hcz49_2 : wc.cell? ⟨gb619, 2, none⟩ = some (.slice Ao13 t615.length co13) := (blk_cell BK619.out 2).trans rfl
                have hfz49_0 := blk_frozen BK619.out 0
                have hfz49_1 := blk_frozen BK619.out 1
                have hfz49_2 := blk_frozen BK619.out 2
                go_wp2_with (first | ((with_reducible refine gate_callee (f := 17) rfl ?_); refine goesL_ (some 51) rfl rfl Try.func17 (by kernel_rfl) rfl #[.agg #[.slice Ao10 t609.length co10, .slice Ao12 t612.length co12, .slice Ao13 t615.length co13]] rfl (by (try simp only [List.map_toArray, List.map_cons, List.map_nil]); first | done | rfl | (simp only [List.length_drop, List.length_take]; rfl)) ?_; (with_reducible refine (impl_HeapValid.calls kj5 (fun k_ => some k_ = (.slice Ao10 t609.length co10 : Value).ownBlock) _ _ t609 (fun k_ => some k_ = (.slice Ao12 t612.length co12 : Value).ownBlock) _ _ t612 (fun k_ => some k_ = (.slice Ao13 t615.length co13 : Value).ownBlock) _ _ t615 true _ ?side1 ?side2 ?side3 A43.out).mono ?_); (case side1 => exact Kd.R_V (Kd.R_tight rfl (Kd.R_types (Kd.R_types (HO_620000.out) BK619.out (by decide)) BK630.out (by decide)))); (case side2 => exact Kd.R_V (Kd.R_tight rfl (Kd.R_types (Kd.R_types (HO_620001.out) BK619.out (by decide)) BK630.out (by decide)))); (case side3 => exact Kd.R_V (Kd.R_tight rfl (Kd.R_types (Kd.R_types (HO_620002.out) BK619.out (by decide)) BK630.out (by decide)))); rintro e w50 ⟨rfl, hb⟩; refine ⟨_, rfl, ?_⟩; have n0_ := am (Kd.R_below (rl HO_620000.out) hb); have n1_ := am (Kd.R_below (rl HO_620001.out) hb); have n2_ := am (Kd.R_below (rl HO_620002.out) hb); have n3_ := am (Kd.R_below (rl HO_631000.out) hb); have n4_ := am (Kd.R_below (rl HO_631001.out) hb); have n5_ := am (Kd.R_below (rl HO_631002.out) hb); have n6_ := am (blk_below (g := gb619) (o := .cells #[.slice Ao10 t609.length co10, .slice Ao12 t612.length co12, .slice Ao13 t615.length co13] 25 (0, 0)) (kl BK619.out) hb); have n7_ := am (blk_below (g := gb630) (o := .cells #[.slice Ao16 t620.length co16, .slice Ao19 t623.length co19, .slice Ao20 t626.length co20] 25 (0, 0)) (kl BK630.out) hb); have n8_ := am (below_step (by repeat (first | (with_reducible first | exact HB.out | apply below_alloc | apply pw_below_drewN | apply below_drew1 | refine below_set ?_ GE619.out | refine below_set ?_ GE630.out) | exact HB.out)) hb); clear HO_620000; clear HO_620001; clear HO_620002; clear HO_631000; clear HO_631001; clear HO_631002; clear BK619; clear BK630; clear HB; have HO_620000 := n0_; have HO_620001 := n1_; have HO_620002 := n2_; have HO_631000 := n3_; have HO_631001 := n4_; have HO_631002 := n5_; have BK619 := n6_; have BK630 := n7_; have HB := n8_; clear n0_ n1_ n2_ n3_ n4_ n5_ n6_ n7_ n8_; (try clear hb); (try clear hb2); (try clear hk); (try clear hi); have hcz51_0 : w50.cell? ⟨gb619, 0, none⟩ = some (.slice Ao10 t609.length co10) := (blk_cell BK619.out 0).trans rfl; have hcz51_1 : w50.cell? ⟨gb619, 1, none⟩ = some (.slice Ao12 t612.length co12) := (blk_cell BK619.out 1).trans rfl; have hcz51_2 : w50.cell? ⟨gb619, 2, none⟩ = some (.slice Ao13 t615.length co13) := (blk_cell BK619.out 2).trans rfl; have hfz51_0 := blk_frozen BK619.out 0; have hfz51_1 := blk_frozen BK619.out 1; have hfz51_2 := blk_frozen BK619.out 2) | (go_at_call 28; (with_reducible refine (impl_CountPointers.calls kj5 (fun k_ => some k_ = (.slice Ao10 t609.length co10 : Value).ownBlock) _ _ t609 (fun k_ => some k_ = (.slice Ao12 t612.length co12 : Value).ownBlock) _ _ t612 (fun k_ => some k_ = (.slice Ao13 t615.length co13 : Value).ownBlock) _ _ t615 t634 _ ?side1 ?side2 ?side3 A47.out).mono ?_); (case side1 => exact Kd.R_V (Kd.R_tight rfl (Kd.R_types (Kd.R_types (HO_620000.out) BK619.out (by decide)) BK630.out (by decide)))); (case side2 => exact Kd.R_V (Kd.R_tight rfl (Kd.R_types (Kd.R_types (HO_620001.out) BK619.out (by decide)) BK630.out (by decide)))); (case side3 => exact Kd.R_V (Kd.R_tight rfl (Kd.R_types (Kd.R_types (HO_620002.out) BK619.out (by decide)) BK630.out (by decide)))); rintro e w52 ⟨rfl, hb⟩; have n0_ := am (Kd.R_below (rl HO_620000.out) hb); have n1_ := am (Kd.R_below (rl HO_620001.out) hb); have n2_ := am (Kd.R_below (rl HO_620002.out) hb); have n3_ := am (Kd.R_below (rl HO_631000.out) hb); have n4_ := am (Kd.R_below (rl HO_631001.out) hb); have n5_ := am (Kd.R_below (rl HO_631002.out) hb); have n6_ := am (blk_below (g := gb619) (o := .cells #[.slice Ao10 t609.length co10, .slice Ao12 t612.length co12, .slice Ao13 t615.length co13] 25 (0, 0)) (kl BK619.out) hb); have n7_ := am (blk_below (g := gb630) (o := .cells #[.slice Ao16 t620.length co16, .slice Ao19 t623.length co19, .slice Ao20 t626.length co20] 25 (0, 0)) (kl BK630.out) hb); have n8_ := am (below_step (by repeat (first | (with_reducible first | exact HB.out | apply below_alloc | apply pw_below_drewN | apply below_drew1 | refine below_set ?_ GE619.out | refine below_set ?_ GE630.out) | exact HB.out)) hb); clear HO_620000; clear HO_620001; clear HO_620002; clear HO_631000; clear HO_631001; clear HO_631002; clear BK619; clear BK630; clear HB; have HO_620000 := n0_; have HO_620001 := n1_; have HO_620002 := n2_; have HO_631000 := n3_; have HO_631001 := n4_; have HO_631002 := n5_; have BK619 := n6_; have BK630 := n7_; have HB := n8_; clear n0_ n1_ n2_ n3_ n4_ n5_ n6_ n7_ n8_; (try clear hb); (try clear hb2); (try clear hk); (try clear hi)))
                go_ret
                exact ⟨by first | rfl | (simp [errW_none, errW_some] <;> rfl) | (simp [*, errW_none, errW_some] <;> rfl), by repeat (first | (with_reducible first | exact HB.out | apply below_alloc | apply pw_below_drewN | apply below_drew1 | refine below_set ?_ GE619.out | refine below_set ?_ GE630.out) | exact HB.out)⟩
              · rw [if_neg c46] at H
                exact absurd H (by simp)
            · rw [if_neg c45] at H
              exact absurd H (by simp)
          · replace c44 := Bool.eq_false_iff.mpr c44
            subst c44
            have H1 : (none) = some r := by rw [if_neg (show ¬ (false = true) by decide)] at H; exact H
            clear H
            have H := H1
            clear H1
            exact absurd H (by simp)

/-- THE ONE PURE STATEMENT of laws_FnNewHeap: yours. -/
def laws_FnNewHeap.Pure : Prop := ∀ (l0 : List Int), l0.length ≤ maxLen → l0.length * 1 ≤ 140737488351232 → (∀ x ∈ l0, (Lit.int .u8 x).wf = true) → ∃ k, laws_FnNewHeap.f k l0 = some true
theorem laws_FnNewHeap.walk (P : laws_FnNewHeap.Pure) (a0 : Option Addr) (len0 cap0 : Nat) (z0 : List Int) (w : World) (w0 : (a0 = none ∧ len0 = 0 ∧ cap0 = 0 ∧ z0 = []) ∨ ∃ x, a0 = some x ∧ len0 ≤ cap0 ∧ cap0 ≤ maxLen ∧ z0.length = cap0 ∧ (∀ i, i < z0.length → w.cell? (x.add i) = some (.int .u8 (z0.getD i 0))) ∧ ∀ n ∈ z0, (Lit.int .u8 n).wf = true) (y0 : len0 * 1 ≤ 140737488351232) :
    Calls Try.prog 6 #[.slice a0 len0 cap0] w fun e w' => e = .returned (.bool true) ∧ Below w.heap.size w w' := by
  obtain ⟨l0, rfl, hr0, hm0, hw0, hc0⟩ := ReadsInt.ofRowC w0
  obtain ⟨k, h⟩ := P l0 hm0 y0 hw0
  refine (laws_FnNewHeap.calls k _ _ l0 true w (Kd.C_of_reads (d := (0 : Int)) (h1 := fun _ => rfl) hr0) hc0 h).mono ?_
  rintro e w' ⟨rfl, hd⟩
  exact ⟨rfl, hd⟩

end Go.Proofs.Ytcofdgeelojebaa.A
