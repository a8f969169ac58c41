/- Contracts of functions of the given program (CLawsFnCountPointers). No conditions beyond those stated. -/
import Derived.Test.YtcofdgeelojebabA0
import Derived.Test.YtcofdgeelojebabAImplCountPointers
import Derived.Test.YtcofdgeelojebabAImplHeapValid
import Derived.Test.YtcofdgeelojebabAImplPutLeft
import Derived.Test.YtcofdgeelojebabASpecCountPointers
import Derived.Test.YtcofdgeelojebabASpecDrawCountPointers
import Derived.Test.YtcofdgeelojebabA0
namespace Go.Proofs.Ytcofdgeelojebab.A
open Go.RowKit Go.Proofs.YtcofdgeelojebabW.PrintWords Go.Proofs.YtcofdgeelojebabW.PrintLast Go.Proofs.YtcofdgeelojebabW.PrintMore
attribute [local go_sem] max2_int min2_int max_two min_two max_three min_three max_four min_four   -- for this text's walks alone
set_option linter.unusedVariables false
set_option linter.unusedSimpArgs false

/-! ### laws_FnCountPointers -/
def laws_FnCountPointers.j0 : Nat → Int → Bool → List Int → List Int → List Int → Option (Bool)
 | 0, _, _, _, _, _ => none
 | k + 1, x4, x23, x1059000, x1059001, x1059002 => if x23 = true then ((spec_CountPointers.f k x1059000 x1059001 x1059002).bind fun t1062 => (if x4 = t1062 then (some (x4 == 0)) else (none))) else ((impl_PutLeft.f k x1059000 x1059001 x1059002 0 (-1)).bind fun bt1063 => ((impl_CountPointers.f k bt1063.1 bt1063.2.1 bt1063.2.2.1).bind fun t1074 => (if x4 ≥ 0 then (if x4 ≤ (wrap64 ((wrap64 (2 * (x1059000.length : Int))) + (x1059002.length : Int))) then (if 0 < (x1059000.length : Int) then (if (rd x1059000 0) = (-1) then (if t1074 = x4 then (some true) else (none)) else (some (t1074 == (wrap64 (x4 - 1))))) else (none)) else (none)) else (none))))
def laws_FnCountPointers.f (k : Nat) (l0 : List Int) : Option (Bool) := if (l0.length : Int) > 1048576 then (some true) else ((spec_DrawCountPointers.f k l0).bind fun bt1049 => ((impl_CountPointers.f k bt1049.1 bt1049.2.1 bt1049.2.2).bind fun t1059 => ((spec_CountPointers.f k bt1049.1 bt1049.2.1 bt1049.2.2).bind fun t1060 => (if t1059 = t1060 then ((impl_HeapValid.f k bt1049.1 bt1049.2.1 bt1049.2.2).bind fun t1061 => (laws_FnCountPointers.j0 k t1059 (!t1061) bt1049.1 bt1049.2.1 bt1049.2.2)) else (laws_FnCountPointers.j0 k t1059 true bt1049.1 bt1049.2.1 bt1049.2.2)))))
theorem laws_FnCountPointers.mono_l : ∀ k, (∀ y0 y1 y2 y3 y4, LeO (laws_FnCountPointers.j0 k y0 y1 y2 y3 y4) (laws_FnCountPointers.j0 (k + 1) y0 y1 y2 y3 y4))
 | 0 => fun _ _ _ _ _ r h => by simp [laws_FnCountPointers.j0] at h
 | k + 1 => by
  have ih0 := laws_FnCountPointers.mono_l k
  ·intro y0 y1 y2 y3 y4
   unfold laws_FnCountPointers.j0
   repeat' first
   | (with_reducible exact ih0 _ _ _ _ _)
   | (with_reducible exact impl_CountPointers.mono _ _ _ _)
   | (with_reducible exact impl_HeapValid.mono _ _ _ _)
   | (with_reducible exact impl_PutLeft.mono _ _ _ _ _ _)
   | (with_reducible exact spec_CountPointers.mono _ _ _ _)
   | (with_reducible exact spec_DrawCountPointers.mono _ _)
   | (with_reducible exact LeO.refl _)
   | (with_reducible exact LeO.none _)
   | (with_reducible refine LeO.ite ?_ ?_)
   | (with_reducible refine LeO.bind ?_ (fun _ => ?_))
   | exact ih0 _ _ _ _ _
   | exact impl_CountPointers.mono _ _ _ _
   | exact impl_HeapValid.mono _ _ _ _
   | exact impl_PutLeft.mono _ _ _ _ _ _
   | exact spec_CountPointers.mono _ _ _ _
   | exact spec_DrawCountPointers.mono _ _
   | exact LeO.none _
   | refine LeO.ite ?_ ?_
   | refine LeO.bind ?_ (fun _ => ?_)
theorem laws_FnCountPointers.mono : ∀ a0 k, LeO (laws_FnCountPointers.f k a0) (laws_FnCountPointers.f (k + 1) a0) := by
 intro a0 k
 have ih0 := laws_FnCountPointers.mono_l k
 unfold laws_FnCountPointers.f
 repeat' first
   | (with_reducible exact ih0 _ _ _ _ _)
   | (with_reducible exact impl_CountPointers.mono _ _ _ _)
   | (with_reducible exact impl_HeapValid.mono _ _ _ _)
   | (with_reducible exact impl_PutLeft.mono _ _ _ _ _ _)
   | (with_reducible exact spec_CountPointers.mono _ _ _ _)
   | (with_reducible exact spec_DrawCountPointers.mono _ _)
   | (with_reducible exact LeO.refl _)
   | (with_reducible exact LeO.none _)
   | (with_reducible refine LeO.ite ?_ ?_)
   | (with_reducible refine LeO.bind ?_ (fun _ => ?_))
   | exact ih0 _ _ _ _ _
   | exact impl_CountPointers.mono _ _ _ _
   | exact impl_HeapValid.mono _ _ _ _
   | exact impl_PutLeft.mono _ _ _ _ _ _
   | exact spec_CountPointers.mono _ _ _ _
   | exact spec_DrawCountPointers.mono _ _
   | exact LeO.none _
   | refine LeO.ite ?_ ?_
   | refine LeO.bind ?_ (fun _ => ?_)
set_option maxHeartbeats 8000000 in
set_option maxRecDepth 100000 in
theorem laws_FnCountPointers.calls (k : Nat) (A0 : Option Addr) (c0 : Nat) (l0 : List Int) (r : Bool) (w : World) (hr0 : Kd.C (Kd.int .u8) w A0 l0.length l0) (hc0 : l0.length ≤ c0) (h : laws_FnCountPointers.f k l0 = some r) :
  Calls Try.prog 11 #[.slice A0 l0.length c0] w fun e w' => e = .returned (.bool r) ∧ Below w.heap.size w w' := by
 have hu25 := Try.underlying25
 have HR0 := am hr0
 have HC0 := am hc0
 clear hr0 hc0
 have HB := am (Below.refl w.heap.size w)
 have H : (if (l0.length : Int) > 1048576 then (some true) else ((spec_DrawCountPointers.f k l0).bind fun bt1049 => ((impl_CountPointers.f k bt1049.1 bt1049.2.1 bt1049.2.2).bind fun t1059 => ((spec_CountPointers.f k bt1049.1 bt1049.2.1 bt1049.2.2).bind fun t1060 => (if t1059 = t1060 then ((impl_HeapValid.f k bt1049.1 bt1049.2.1 bt1049.2.2).bind fun t1061 => (laws_FnCountPointers.j0 k t1059 (!t1061) bt1049.1 bt1049.2.1 bt1049.2.2)) else (laws_FnCountPointers.j0 k t1059 true bt1049.1 bt1049.2.1 bt1049.2.2)))))) = some r := h
 clear h
 by_cases c2 : (l0.length : Int) > 1048576
 ·rw [if_pos c2] at H
  have c2b0 : decide (1048576 < (l0.length : Int)) = true := decide_eq_true c2
  have c2b1 : decide (1048576 < l0.length) = true := decide_eq_true (by omega)
  clear c2
  obtain rfl := Option.some.inj H
  go_enter Try.func11, Try.ntmps11
  go_wp2
  go_ret
  exact ⟨by first | rfl | (simp [errW_none, errW_some] <;> rfl) | (simp [*, errW_none, errW_some] <;> rfl), by exact bs0 HB.out⟩
 ·rw [if_neg c2] at H
  have c2b0 : decide (1048576 < (l0.length : Int)) = false := decide_eq_false c2
  have c2b1 : decide (1048576 < l0.length) = false := decide_eq_false (by omega)
  clear c2
  replace H := Option.bind_eq_some_iff.mp H
  obtain ⟨⟨t1049, t1052, t1055⟩, A30, H⟩ := H
  replace H : ((impl_CountPointers.f k t1049 t1052 t1055).bind fun t1059 => ((spec_CountPointers.f k t1049 t1052 t1055).bind fun t1060 => (if t1059 = t1060 then ((impl_HeapValid.f k t1049 t1052 t1055).bind fun t1061 => (laws_FnCountPointers.j0 k t1059 (!t1061) t1049 t1052 t1055)) else (laws_FnCountPointers.j0 k t1059 true t1049 t1052 t1055)))) = some r := H
  have A3 := am A30
  clear A30
  replace H := Option.bind_eq_some_iff.mp H
  obtain ⟨t1059, A40, H⟩ := H
  replace H : ((spec_CountPointers.f k t1049 t1052 t1055).bind fun t1060 => (if t1059 = t1060 then ((impl_HeapValid.f k t1049 t1052 t1055).bind fun t1061 => (laws_FnCountPointers.j0 k t1059 (!t1061) t1049 t1052 t1055)) else (laws_FnCountPointers.j0 k t1059 true t1049 t1052 t1055))) = some r := H
  have A4 := am A40
  clear A40
  have HC5 := am H
  clear H
  go_enter Try.func11, Try.ntmps11
  go_upto_region 5 with (first | ((with_reducible refine gate_callee (f := 43) rfl ?_); refine goesL_ (some 12) rfl rfl Try.func43 (by kernel_rfl) rfl #[.slice A0 l0.length c0] rfl (by (try simp only [List.map_toArray, List.map_cons, List.map_nil]); first | done | rfl | (simp only [List.length_drop, List.length_take]; rfl)) ?_; (with_reducible refine (spec_DrawCountPointers.calls k _ _ l0 t1049 t1052 t1055 _ ?side1 ?side2 A3.out).mono ?_); (case side1 => exact cl (HR0.out)); (case side2 => exact HC0.out); rintro e w6 ⟨v1050, v1053, v1056, rfl, ho0, ho1, ho2, hb⟩; refine ⟨_, rfl, ?_⟩; have HO1051 := am (Kd.R_lower ho0 (below_size (bl HB.out))); have HO1054 := am (Kd.R_lower ho1 (below_size (bl HB.out))); have HO1057 := am (Kd.R_lower ho2 (below_size (bl HB.out))); replace HB := am (below_step (bl HB.out) hb); (try clear hb); (try clear hb2); (try clear hk); (try clear hi); (try clear ho0); (try clear ho1); (try clear ho2)) | ((with_reducible refine gate_dst (N := 3) rfl ?_); (try (refine gate_guard (by rfl) ?_; dsimp only)); refine box_event ?hg (N := 3) ?hd (cs := #[.slice none 0 0, .slice none 0 0, .slice none 0 0]) (t := 25) ?hr ?_; (case hd => rfl); (case hg => rfl); (case hr => first | (go_simp; done) | (go_simp; rfl)); intro gb1058 hg w7 hbox hb; replace HO1051 := am (Kd.R_below (rl HO1051.out) hb); replace HO1054 := am (Kd.R_below (rl HO1054.out) hb); replace HO1057 := am (Kd.R_below (rl HO1057.out) hb); have BK1058 := am (hbox); have GW1058 := am ((by rw [hg]; exact (below_size (bl HB.out)) : w.heap.size ≤ gb1058)); have GE1058 := am ((by rw [hg]; exact (below_size (bl HB.out)) : w.heap.size ≤ gb1058)); replace HB := am (below_step (bl HB.out) hb); clear hb hbox hg; obtain ⟨Ao8, co8, eo8⟩ := Kd.R_slice HO1051.out; subst eo8; have hcz9_0 : w7.cell? ⟨gb1058, 0, none⟩ = some (.slice none 0 0) := (blk_cell BK1058.out 0).trans rfl; have hcz9_1 : w7.cell? ⟨gb1058, 1, none⟩ = some (.slice none 0 0) := (blk_cell BK1058.out 1).trans rfl; have hcz9_2 : w7.cell? ⟨gb1058, 2, none⟩ = some (.slice none 0 0) := (blk_cell BK1058.out 2).trans rfl; have hfz9_0 := blk_frozen BK1058.out 0; have hfz9_1 := blk_frozen BK1058.out 1; have hfz9_2 := blk_frozen BK1058.out 2; obtain ⟨Ao10, co10, eo10⟩ := Kd.R_slice HO1054.out; subst eo10; obtain ⟨Ao11, co11, eo11⟩ := Kd.R_slice HO1057.out; subst eo11) | ((with_reducible refine gate_store (t := 25) (p := 3) rfl ?_); refine store_event (t := 25) (p := 3) (v := ?vo_w12) (w1 := (((w7.setCell ⟨gb1058, 0, none⟩ (.slice Ao8 t1049.length co8)).setCell ⟨gb1058, 1, none⟩ (.slice Ao10 t1052.length co10)).setCell ⟨gb1058, 2, none⟩ (.slice Ao11 t1055.length co11))) ?hg ?ho ?hn ?hr ?_; (case ho => rfl); (case hg => rfl); (case hn => rfl); (case hr => first | (go_simp; done) | (go_simp; rfl)); intro w12 hw; replace HO1051 : Aside0 (Kd.R (Kd.int .i64) 3 w12 w.heap.size (fun k_ => some k_ ≠ (.slice Ao10 t1052.length co10 : Value).ownBlock ∧ some k_ ≠ (.slice Ao11 t1055.length co11 : Value).ownBlock) (.slice Ao8 t1049.length co8) t1049) := ⟨(by rw [hw]; exact (rl (Kd.R_mono (Kd.R_far (p := ⟨gb1058, 2, none⟩) (Kd.R_far (p := ⟨gb1058, 1, none⟩) (Kd.R_far (p := ⟨gb1058, 0, none⟩) (Kd.R_types HO1051.out BK1058.out (by decide)) (fun _ hk => hk.2) (.slice Ao8 t1049.length co8)) (fun _ hk => hk.2) (.slice Ao10 t1052.length co10)) (fun _ hk => hk.2) (.slice Ao11 t1055.length co11)) (fun _ hk => by first | exact ⟨hk.1.1, hk.1.2⟩ | (simp only [ne_eq] at hk ⊢; simp only [hk, not_false_eq_true, and_self])))))⟩; replace HO1054 : Aside0 (Kd.R (Kd.int .i64) 3 w12 w.heap.size (fun k_ => some k_ ≠ (.slice Ao8 t1049.length co8 : Value).ownBlock ∧ some k_ ≠ (.slice Ao11 t1055.length co11 : Value).ownBlock) (.slice Ao10 t1052.length co10) t1052) := ⟨(by rw [hw]; exact (rl (Kd.R_mono (Kd.R_far (p := ⟨gb1058, 2, none⟩) (Kd.R_far (p := ⟨gb1058, 1, none⟩) (Kd.R_far (p := ⟨gb1058, 0, none⟩) (Kd.R_types HO1054.out BK1058.out (by decide)) (fun _ hk => hk.2) (.slice Ao8 t1049.length co8)) (fun _ hk => hk.2) (.slice Ao10 t1052.length co10)) (fun _ hk => hk.2) (.slice Ao11 t1055.length co11)) (fun _ hk => by first | exact ⟨hk.1.1, hk.1.2⟩ | (simp only [ne_eq] at hk ⊢; simp only [hk, not_false_eq_true, and_self])))))⟩; replace HO1057 : Aside0 (Kd.R (Kd.int .i64) 3 w12 w.heap.size (fun k_ => some k_ ≠ (.slice Ao8 t1049.length co8 : Value).ownBlock ∧ some k_ ≠ (.slice Ao10 t1052.length co10 : Value).ownBlock) (.slice Ao11 t1055.length co11) t1055) := ⟨(by rw [hw]; exact (rl (Kd.R_mono (Kd.R_far (p := ⟨gb1058, 2, none⟩) (Kd.R_far (p := ⟨gb1058, 1, none⟩) (Kd.R_far (p := ⟨gb1058, 0, none⟩) (Kd.R_types HO1057.out BK1058.out (by decide)) (fun _ hk => hk.2) (.slice Ao8 t1049.length co8)) (fun _ hk => hk.2) (.slice Ao10 t1052.length co10)) (fun _ hk => hk.2) (.slice Ao11 t1055.length co11)) (fun _ hk => by first | exact ⟨hk.1.1, hk.1.2⟩ | (simp only [ne_eq] at hk ⊢; simp only [hk, not_false_eq_true, and_self])))))⟩; replace BK1058 : Aside0 (w12.heap[gb1058]? = some (.cells #[.slice Ao8 t1049.length co8, .slice Ao10 t1052.length co10, .slice Ao11 t1055.length co11] 25 (0, 0))) := ⟨(by rw [hw]; exact (kp3 (kf0 BK1058.out)))⟩; replace HB : Aside0 (Below w.heap.size w w12) := ⟨(by rw [hw]; exact (bs1 GE1058.out HB.out))⟩; clear hw; have hcz13_0 : w12.cell? ⟨gb1058, 0, none⟩ = some (.slice Ao8 t1049.length co8) := (blk_cell BK1058.out 0).trans rfl; have hcz13_1 : w12.cell? ⟨gb1058, 1, none⟩ = some (.slice Ao10 t1052.length co10) := (blk_cell BK1058.out 1).trans rfl; have hcz13_2 : w12.cell? ⟨gb1058, 2, none⟩ = some (.slice Ao11 t1055.length co11) := (blk_cell BK1058.out 2).trans rfl; have hfz13_0 := blk_frozen BK1058.out 0; have hfz13_1 := blk_frozen BK1058.out 1; have hfz13_2 := blk_frozen BK1058.out 2) | ((with_reducible refine gate_callee (f := 44) rfl ?_); refine goesL_ (some 14) rfl rfl Try.func44 (by kernel_rfl) rfl #[.agg #[.slice Ao8 t1049.length co8, .slice Ao10 t1052.length co10, .slice Ao11 t1055.length co11]] rfl (by (try simp only [List.map_toArray, List.map_cons, List.map_nil]); first | done | rfl | (simp only [List.length_drop, List.length_take]; rfl)) ?_; (with_reducible refine (impl_CountPointers.calls k (fun k_ => some k_ = (.slice Ao8 t1049.length co8 : Value).ownBlock) _ _ t1049 (fun k_ => some k_ = (.slice Ao10 t1052.length co10 : Value).ownBlock) _ _ t1052 (fun k_ => some k_ = (.slice Ao11 t1055.length co11 : Value).ownBlock) _ _ t1055 t1059 _ ?side1 ?side2 ?side3 A4.out).mono ?_); (case side1 => exact Kd.R_V (Kd.R_tight rfl (Kd.R_types (HO1051.out) BK1058.out (by decide)))); (case side2 => exact Kd.R_V (Kd.R_tight rfl (Kd.R_types (HO1054.out) BK1058.out (by decide)))); (case side3 => exact Kd.R_V (Kd.R_tight rfl (Kd.R_types (HO1057.out) BK1058.out (by decide)))); rintro e w14 ⟨rfl, hb⟩; refine ⟨_, rfl, ?_⟩; replace HO1051 := am (Kd.R_below (rl HO1051.out) hb); replace HO1054 := am (Kd.R_below (rl HO1054.out) hb); replace HO1057 := am (Kd.R_below (rl HO1057.out) hb); replace BK1058 := am (blk_below (g := gb1058) (o := .cells #[.slice Ao8 t1049.length co8, .slice Ao10 t1052.length co10, .slice Ao11 t1055.length co11] 25 (0, 0)) (kl BK1058.out) hb); replace HB := am (below_step (bs1 GE1058.out HB.out) hb); (try clear hb); (try clear hb2); (try clear hk); (try clear hi)))
  (try simp only [Act.put, List.setIfInBounds_toArray, List.set_cons_zero, List.set_cons_succ])
  go_cut [23] (fun v23 wc => ∃ (kq : Nat) (x23_4 : Bool), v23 = .bool x23_4 ∧ Aside0 (laws_FnCountPointers.j0 kq t1059 x23_4 t1049 t1052 t1055 = some r) ∧ Aside0 (kq ≤ k) ∧ Aside0 (Kd.R (Kd.int .i64) 3 wc w.heap.size (fun k_ => some k_ ≠ ((.slice Ao10 t1052.length co10) : Value).ownBlock ∧ some k_ ≠ ((.slice Ao11 t1055.length co11) : Value).ownBlock) (.slice Ao8 t1049.length co8) t1049) ∧ Aside0 (Kd.R (Kd.int .i64) 3 wc w.heap.size (fun k_ => some k_ ≠ ((.slice Ao8 t1049.length co8) : Value).ownBlock ∧ some k_ ≠ ((.slice Ao11 t1055.length co11) : Value).ownBlock) (.slice Ao10 t1052.length co10) t1052) ∧ Aside0 (Kd.R (Kd.int .i64) 3 wc w.heap.size (fun k_ => some k_ ≠ ((.slice Ao8 t1049.length co8) : Value).ownBlock ∧ some k_ ≠ ((.slice Ao10 t1052.length co10) : Value).ownBlock) (.slice Ao11 t1055.length co11) t1055) ∧ Aside0 (wc.heap[gb1058]? = some (.cells #[(.slice Ao8 t1049.length co8), (.slice Ao10 t1052.length co10), (.slice Ao11 t1055.length co11)] 25 (0, 0))) ∧ Aside0 (Below w.heap.size w wc))
  case first =>
   have H := HC5.out
   clear HC5
   replace H := Option.bind_eq_some_iff.mp H
   obtain ⟨t1060, A150, H⟩ := H
   replace H : (if t1059 = t1060 then ((impl_HeapValid.f k t1049 t1052 t1055).bind fun t1061 => (laws_FnCountPointers.j0 k t1059 (!t1061) t1049 t1052 t1055)) else (laws_FnCountPointers.j0 k t1059 true t1049 t1052 t1055)) = some r := H
   have A15 := am A150
   clear A150
   by_cases c16 : t1059 = t1060
   ·rw [if_pos c16] at H
    have c16b0 : (t1059 == t1060) = true := beq_iff_eq.mpr c16
    have c16b1 : (t1059 != t1060) = false := bne_eq_false_iff_eq.mpr c16
    clear c16
    (first | rw [c16b0] | (simp only [i64_w, i32_w]; rw [c16b0]) | skip)
    replace H := Option.bind_eq_some_iff.mp H
    obtain ⟨t1061, A170, H⟩ := H
    replace H : (laws_FnCountPointers.j0 k t1059 (!t1061) t1049 t1052 t1055) = some r := H
    have A17 := am A170
    clear A170
    have H' := am H
    clear H
    have hcz18_0 : w14.cell? ⟨gb1058, 0, none⟩ = some (.slice Ao8 t1049.length co8) := (blk_cell BK1058.out 0).trans rfl
    have hcz18_1 : w14.cell? ⟨gb1058, 1, none⟩ = some (.slice Ao10 t1052.length co10) := (blk_cell BK1058.out 1).trans rfl
    have hcz18_2 : w14.cell? ⟨gb1058, 2, none⟩ = some (.slice Ao11 t1055.length co11) := (blk_cell BK1058.out 2).trans rfl
    have hfz18_0 := blk_frozen BK1058.out 0
    have hfz18_1 := blk_frozen BK1058.out 1
    have hfz18_2 := blk_frozen BK1058.out 2
    go_wp2_with (first | ((with_reducible refine gate_callee (f := 45) rfl ?_); refine goesL_ (some 17) rfl rfl Try.func45 (by kernel_rfl) rfl #[.agg #[.slice Ao8 t1049.length co8, .slice Ao10 t1052.length co10, .slice Ao11 t1055.length co11]] rfl (by (try simp only [List.map_toArray, List.map_cons, List.map_nil]); first | done | rfl | (simp only [List.length_drop, List.length_take]; rfl)) ?_; (with_reducible refine (spec_CountPointers.calls k _ _ t1049 _ _ t1052 _ _ t1055 t1060 _ ?side1 ?side2 ?side3 ?side4 ?side5 ?side6 A15.out).mono ?_); (case side1 => exact cl ((Kd.R_reads' HO1051.out).2.2)); (case side2 => exact (Kd.R_reads' HO1051.out).2.1); (case side3 => exact cl ((Kd.R_reads' HO1054.out).2.2)); (case side4 => exact (Kd.R_reads' HO1054.out).2.1); (case side5 => exact cl ((Kd.R_reads' HO1057.out).2.2)); (case side6 => exact (Kd.R_reads' HO1057.out).2.1); rintro e w19 ⟨rfl, hb⟩; refine ⟨_, rfl, ?_⟩; replace HO1051 := am (Kd.R_below (rl HO1051.out) hb); replace HO1054 := am (Kd.R_below (rl HO1054.out) hb); replace HO1057 := am (Kd.R_below (rl HO1057.out) hb); replace BK1058 := am (blk_below (g := gb1058) (o := .cells #[.slice Ao8 t1049.length co8, .slice Ao10 t1052.length co10, .slice Ao11 t1055.length co11] 25 (0, 0)) (kl BK1058.out) hb); replace HB := am (below_step (bs1 GE1058.out HB.out) hb); (try clear hb); (try clear hb2); (try clear hk); (try clear hi); have hcz20_0 : w19.cell? ⟨gb1058, 0, none⟩ = some (.slice Ao8 t1049.length co8) := (blk_cell BK1058.out 0).trans rfl; have hcz20_1 : w19.cell? ⟨gb1058, 1, none⟩ = some (.slice Ao10 t1052.length co10) := (blk_cell BK1058.out 1).trans rfl; have hcz20_2 : w19.cell? ⟨gb1058, 2, none⟩ = some (.slice Ao11 t1055.length co11) := (blk_cell BK1058.out 2).trans rfl; have hfz20_0 := blk_frozen BK1058.out 0; have hfz20_1 := blk_frozen BK1058.out 1; have hfz20_2 := blk_frozen BK1058.out 2) | (go_at_call 33; (with_reducible refine (impl_HeapValid.calls k (fun k_ => some k_ = (.slice Ao8 t1049.length co8 : Value).ownBlock) _ _ t1049 (fun k_ => some k_ = (.slice Ao10 t1052.length co10 : Value).ownBlock) _ _ t1052 (fun k_ => some k_ = (.slice Ao11 t1055.length co11 : Value).ownBlock) _ _ t1055 t1061 _ ?side1 ?side2 ?side3 A17.out).mono ?_); (case side1 => exact Kd.R_V (Kd.R_tight rfl (Kd.R_types (HO1051.out) BK1058.out (by decide)))); (case side2 => exact Kd.R_V (Kd.R_tight rfl (Kd.R_types (HO1054.out) BK1058.out (by decide)))); (case side3 => exact Kd.R_V (Kd.R_tight rfl (Kd.R_types (HO1057.out) BK1058.out (by decide)))); rintro e w21 ⟨rfl, hb⟩; replace HO1051 := am (Kd.R_below (rl HO1051.out) hb); replace HO1054 := am (Kd.R_below (rl HO1054.out) hb); replace HO1057 := am (Kd.R_below (rl HO1057.out) hb); replace BK1058 := am (blk_below (g := gb1058) (o := .cells #[.slice Ao8 t1049.length co8, .slice Ao10 t1052.length co10, .slice Ao11 t1055.length co11] 25 (0, 0)) (kl BK1058.out) hb); replace HB := am (below_step (bs1 GE1058.out HB.out) hb); (try clear hb); (try clear hb2); (try clear hk); (try clear hi)))
    go_meet
    case rel => exact ⟨_, (!t1061), (by first | rfl | (simp; done) | (simp [*]; done)), H', ⟨by first | omega | exact Nat.le_refl _⟩, ⟨rl HO1051.out⟩, ⟨rl HO1054.out⟩, ⟨rl HO1057.out⟩, ⟨kl BK1058.out⟩, ⟨by exact bs1 GE1058.out HB.out⟩⟩
   ·rw [if_neg c16] at H
    have c16b0 : (t1059 == t1060) = false := beq_eq_false_iff_ne.mpr c16
    have c16b1 : (t1059 != t1060) = true := bne_iff_ne.mpr c16
    (first | rw [c16b0] | (simp only [i64_w, i32_w]; rw [c16b0]) | skip)
    have H' := am H
    clear H
    have hcz22_0 : w14.cell? ⟨gb1058, 0, none⟩ = some (.slice Ao8 t1049.length co8) := (blk_cell BK1058.out 0).trans rfl
    have hcz22_1 : w14.cell? ⟨gb1058, 1, none⟩ = some (.slice Ao10 t1052.length co10) := (blk_cell BK1058.out 1).trans rfl
    have hcz22_2 : w14.cell? ⟨gb1058, 2, none⟩ = some (.slice Ao11 t1055.length co11) := (blk_cell BK1058.out 2).trans rfl
    have hfz22_0 := blk_frozen BK1058.out 0
    have hfz22_1 := blk_frozen BK1058.out 1
    have hfz22_2 := blk_frozen BK1058.out 2
    go_wp2_with (first | ((with_reducible refine gate_callee (f := 45) rfl ?_); refine goesL_ (some 17) rfl rfl Try.func45 (by kernel_rfl) rfl #[.agg #[.slice Ao8 t1049.length co8, .slice Ao10 t1052.length co10, .slice Ao11 t1055.length co11]] rfl (by (try simp only [List.map_toArray, List.map_cons, List.map_nil]); first | done | rfl | (simp only [List.length_drop, List.length_take]; rfl)) ?_; (with_reducible refine (spec_CountPointers.calls k _ _ t1049 _ _ t1052 _ _ t1055 t1060 _ ?side1 ?side2 ?side3 ?side4 ?side5 ?side6 A15.out).mono ?_); (case side1 => exact cl ((Kd.R_reads' HO1051.out).2.2)); (case side2 => exact (Kd.R_reads' HO1051.out).2.1); (case side3 => exact cl ((Kd.R_reads' HO1054.out).2.2)); (case side4 => exact (Kd.R_reads' HO1054.out).2.1); (case side5 => exact cl ((Kd.R_reads' HO1057.out).2.2)); (case side6 => exact (Kd.R_reads' HO1057.out).2.1); rintro e w23 ⟨rfl, hb⟩; refine ⟨_, rfl, ?_⟩; replace HO1051 := am (Kd.R_below (rl HO1051.out) hb); replace HO1054 := am (Kd.R_below (rl HO1054.out) hb); replace HO1057 := am (Kd.R_below (rl HO1057.out) hb); replace BK1058 := am (blk_below (g := gb1058) (o := .cells #[.slice Ao8 t1049.length co8, .slice Ao10 t1052.length co10, .slice Ao11 t1055.length co11] 25 (0, 0)) (kl BK1058.out) hb); replace HB := am (below_step (bs1 GE1058.out HB.out) hb); (try clear hb); (try clear hb2); (try clear hk); (try clear hi)))
    go_meet
    case rel => exact ⟨_, (true), (by first | rfl | (simp; done) | (simp [*]; done)), H', ⟨by first | omega | exact Nat.le_refl _⟩, ⟨rl HO1051.out⟩, ⟨rl HO1054.out⟩, ⟨rl HO1057.out⟩, ⟨kl BK1058.out⟩, ⟨by exact bs1 GE1058.out HB.out⟩⟩
  case rest =>
   clear HC5
   try clear c1
   try clear c2
   try clear c2b0
   try clear c2b1
   try clear p2
   try clear c4
   try clear c11
   try clear c16
   try clear c16b0
   try clear c16b1
   try clear hcz13_0
   try clear hcz13_1
   try clear hcz13_2
   try clear hcz18_0
   try clear hcz18_1
   try clear hcz18_2
   try clear hcz20_0
   try clear hcz20_1
   try clear hcz20_2
   try clear hcz22_0
   try clear hcz22_1
   try clear hcz22_2
   try clear hcz9_0
   try clear hcz9_1
   try clear hcz9_2
   try clear hfz13_0
   try clear hfz13_1
   try clear hfz13_2
   try clear hfz18_0
   try clear hfz18_1
   try clear hfz18_2
   try clear hfz20_0
   try clear hfz20_1
   try clear hfz20_2
   try clear hfz22_0
   try clear hfz22_1
   try clear hfz22_2
   try clear hfz9_0
   try clear hfz9_1
   try clear hfz9_2
   obtain ⟨kq, x23_4, rfl, HA, HJ4, HO_1059000, HO_1059001, HO_1059002, BK1058, HB⟩ := hcut
   cases kq with
   | zero => exact absurd HA.out (by simp [laws_FnCountPointers.j0])
   | succ kj4 =>
    have H := HA.out
    clear HA
    simp only [laws_FnCountPointers.j0] at H
    by_cases c24 : x23_4 = true
    ·subst c24
     have H1 : ((spec_CountPointers.f kj4 t1049 t1052 t1055).bind fun t1062 => (if t1059 = t1062 then (some (t1059 == 0)) else (none))) = some r := by rw [if_pos rfl] at H; exact H
     clear H
     have H := H1
     clear H1
     replace H := Option.bind_eq_some_iff.mp H
     obtain ⟨t1062, A250, H⟩ := H
     replace H : (if t1059 = t1062 then (some (t1059 == 0)) else (none)) = some r := H
     have A25 := am A250
     clear A250
     by_cases c26 : t1059 = t1062
     ·rw [if_pos c26] at H
      have c26b0 : (t1059 == t1062) = true := beq_iff_eq.mpr c26
      have c26b1 : (t1059 != t1062) = false := bne_eq_false_iff_eq.mpr c26
      clear c26
      obtain rfl := Option.some.inj H
      have hcz27_0 : wc.cell? ⟨gb1058, 0, none⟩ = some (.slice Ao8 t1049.length co8) := (blk_cell BK1058.out 0).trans rfl
      have hcz27_1 : wc.cell? ⟨gb1058, 1, none⟩ = some (.slice Ao10 t1052.length co10) := (blk_cell BK1058.out 1).trans rfl
      have hcz27_2 : wc.cell? ⟨gb1058, 2, none⟩ = some (.slice Ao11 t1055.length co11) := (blk_cell BK1058.out 2).trans rfl
      have hfz27_0 := blk_frozen BK1058.out 0
      have hfz27_1 := blk_frozen BK1058.out 1
      have hfz27_2 := blk_frozen BK1058.out 2
      go_wp2_with (first | ((with_reducible refine gate_callee (f := 45) rfl ?_); refine goesL_ (some 26) rfl rfl Try.func45 (by kernel_rfl) rfl #[.agg #[.slice Ao8 t1049.length co8, .slice Ao10 t1052.length co10, .slice Ao11 t1055.length co11]] rfl (by (try simp only [List.map_toArray, List.map_cons, List.map_nil]); first | done | rfl | (simp only [List.length_drop, List.length_take]; rfl)) ?_; (with_reducible refine (spec_CountPointers.calls kj4 _ _ t1049 _ _ t1052 _ _ t1055 t1062 _ ?side1 ?side2 ?side3 ?side4 ?side5 ?side6 A25.out).mono ?_); (case side1 => exact cl ((Kd.R_reads' HO_1059000.out).2.2)); (case side2 => exact (Kd.R_reads' HO_1059000.out).2.1); (case side3 => exact cl ((Kd.R_reads' HO_1059001.out).2.2)); (case side4 => exact (Kd.R_reads' HO_1059001.out).2.1); (case side5 => exact cl ((Kd.R_reads' HO_1059002.out).2.2)); (case side6 => exact (Kd.R_reads' HO_1059002.out).2.1); rintro e w28 ⟨rfl, hb⟩; refine ⟨_, rfl, ?_⟩; replace HO_1059000 := am (Kd.R_below (rl HO_1059000.out) hb); replace HO_1059001 := am (Kd.R_below (rl HO_1059001.out) hb); replace HO_1059002 := am (Kd.R_below (rl HO_1059002.out) hb); replace BK1058 := am (blk_below (g := gb1058) (o := .cells #[.slice Ao8 t1049.length co8, .slice Ao10 t1052.length co10, .slice Ao11 t1055.length co11] 25 (0, 0)) (kl BK1058.out) hb); replace HB := am (below_step (bs1 GE1058.out HB.out) hb); (try clear hb); (try clear hb2); (try clear hk); (try clear hi)))
      go_ret
      exact ⟨by first | rfl | (simp [errW_none, errW_some] <;> rfl) | (simp [*, errW_none, errW_some] <;> rfl), by exact bs1 GE1058.out HB.out⟩
     ·rw [if_neg c26] at H
      exact absurd H (by simp)
    ·replace c24 := Bool.eq_false_iff.mpr c24
     subst c24
     have H1 : ((impl_PutLeft.f kj4 t1049 t1052 t1055 0 (-1)).bind fun bt1063 => ((impl_CountPointers.f kj4 bt1063.1 bt1063.2.1 bt1063.2.2.1).bind fun t1074 => (if t1059 ≥ 0 then (if t1059 ≤ (wrap64 ((wrap64 (2 * (t1049.length : Int))) + (t1055.length : Int))) then (if 0 < (t1049.length : Int) then (if (rd t1049 0) = (-1) then (if t1074 = t1059 then (some true) else (none)) else (some (t1074 == (wrap64 (t1059 - 1))))) else (none)) else (none)) else (none)))) = some r := by rw [if_neg (show ¬ (false = true) by decide)] at H; exact H
     clear H
     have H := H1
     clear H1
     replace H := Option.bind_eq_some_iff.mp H
     obtain ⟨⟨t1063, t1066, t1069, t1072⟩, A290, H⟩ := H
     replace H : ((impl_CountPointers.f kj4 t1063 t1066 t1069).bind fun t1074 => (if t1059 ≥ 0 then (if t1059 ≤ (wrap64 ((wrap64 (2 * (t1049.length : Int))) + (t1055.length : Int))) then (if 0 < (t1049.length : Int) then (if (rd t1049 0) = (-1) then (if t1074 = t1059 then (some true) else (none)) else (some (t1074 == (wrap64 (t1059 - 1))))) else (none)) else (none)) else (none))) = some r := H
     have A29 := am A290
     clear A290
     replace H := Option.bind_eq_some_iff.mp H
     obtain ⟨t1074, A300, H⟩ := H
     replace H : (if t1059 ≥ 0 then (if t1059 ≤ (wrap64 ((wrap64 (2 * (t1049.length : Int))) + (t1055.length : Int))) then (if 0 < (t1049.length : Int) then (if (rd t1049 0) = (-1) then (if t1074 = t1059 then (some true) else (none)) else (some (t1074 == (wrap64 (t1059 - 1))))) else (none)) else (none)) else (none)) = some r := H
     have A30 := am A300
     clear A300
     by_cases c31 : t1059 ≥ 0
     ·rw [if_pos c31] at H
      have c31b0 : decide (0 ≤ t1059) = true := decide_eq_true c31
      clear c31
      by_cases c32 : t1059 ≤ (wrap64 ((wrap64 (2 * (t1049.length : Int))) + (t1055.length : Int)))
      ·rw [if_pos c32] at H
       have c32b0 : decide (t1059 ≤ (wrap64 ((wrap64 (2 * (t1049.length : Int))) + (t1055.length : Int)))) = true := decide_eq_true c32
       clear c32
       by_cases c33 : 0 < (t1049.length : Int)
       ·rw [if_pos c33] at H
        have c33b0 : decide (0 < (t1049.length : Int)) = true := decide_eq_true c33
        have c33b1 : decide (0 < t1049.length) = true := decide_eq_true (by omega)
        clear c33
        by_cases c34 : (rd t1049 0) = (-1)
        ·rw [if_pos c34] at H
         have c34b0 : ((rd t1049 0) == (-1)) = true := beq_iff_eq.mpr c34
         have c34b1 : ((rd t1049 0) != (-1)) = false := bne_eq_false_iff_eq.mpr c34
         clear c34
         by_cases c35 : t1074 = t1059
         ·rw [if_pos c35] at H
          have c35b0 : (t1074 == t1059) = true := beq_iff_eq.mpr c35
          have c35b1 : (t1074 != t1059) = false := bne_eq_false_iff_eq.mpr c35
          clear c35
          obtain rfl := Option.some.inj H
          have hcz36_0 : wc.cell? ⟨gb1058, 0, none⟩ = some (.slice Ao8 t1049.length co8) := (blk_cell BK1058.out 0).trans rfl
          have hcz36_1 : wc.cell? ⟨gb1058, 1, none⟩ = some (.slice Ao10 t1052.length co10) := (blk_cell BK1058.out 1).trans rfl
          have hcz36_2 : wc.cell? ⟨gb1058, 2, none⟩ = some (.slice Ao11 t1055.length co11) := (blk_cell BK1058.out 2).trans rfl
          have hfz36_0 := blk_frozen BK1058.out 0
          have hfz36_1 := blk_frozen BK1058.out 1
          have hfz36_2 := blk_frozen BK1058.out 2
          go_wp2_with (first | ((with_reducible refine gate_callee (f := 16) rfl ?_); refine goesL_ (some 34) rfl rfl Try.func16 (by kernel_rfl) rfl #[.agg #[.slice Ao8 t1049.length co8, .slice Ao10 t1052.length co10, .slice Ao11 t1055.length co11], .int .i64 0, .int .i64 (-1)] rfl (by (try simp only [List.map_toArray, List.map_cons, List.map_nil]); first | done | rfl | (simp only [List.length_drop, List.length_take]; rfl)) ?_; (with_reducible refine (impl_PutLeft.calls kj4 _ _ t1049 _ _ t1052 _ _ t1055 0 (-1) t1063 t1066 t1069 t1072 _ ?side1 ?side2 ?side3 ?side4 ?side5 ?side6 A29.out).mono ?_); (case side1 => exact cl ((Kd.R_reads' HO_1059000.out).2.2)); (case side2 => exact (Kd.R_reads' HO_1059000.out).2.1); (case side3 => exact cl ((Kd.R_reads' HO_1059001.out).2.2)); (case side4 => exact (Kd.R_reads' HO_1059001.out).2.1); (case side5 => exact cl ((Kd.R_reads' HO_1059002.out).2.2)); (case side6 => exact (Kd.R_reads' HO_1059002.out).2.1); rintro e w37 ⟨v1064, v1067, v1070, rfl, ho0, ho1, ho2, hb⟩; refine ⟨_, rfl, ?_⟩; have HO1065 := am (Kd.R_lower (Kd.R_new' (Kd.R_new' (Kd.R_new' ho0 (Kd.R_lt (rl HO_1059000.out))) (Kd.R_lt (rl HO_1059001.out))) (Kd.R_lt (rl HO_1059002.out))) (below_size (bs1 GE1058.out HB.out))); have HO1068 := am (Kd.R_lower (Kd.R_new' (Kd.R_new' (Kd.R_new' ho1 (Kd.R_lt (rl HO_1059000.out))) (Kd.R_lt (rl HO_1059001.out))) (Kd.R_lt (rl HO_1059002.out))) (below_size (bs1 GE1058.out HB.out))); have HO1071 := am (Kd.R_lower (Kd.R_new' (Kd.R_new' (Kd.R_new' ho2 (Kd.R_lt (rl HO_1059000.out))) (Kd.R_lt (rl HO_1059001.out))) (Kd.R_lt (rl HO_1059002.out))) (below_size (bs1 GE1058.out HB.out))); replace HO_1059000 := am (Kd.R_mono (Kd.R_told (Kd.R_told (Kd.R_told (Kd.R_old (rl HO_1059000.out) hb) (Kd.R_base ho0)) (Kd.R_base ho1)) (Kd.R_base ho2)) (fun _ h_ => h_.1)); replace HO_1059001 := am (Kd.R_mono (Kd.R_told (Kd.R_told (Kd.R_told (Kd.R_old (rl HO_1059001.out) hb) (Kd.R_base ho0)) (Kd.R_base ho1)) (Kd.R_base ho2)) (fun _ h_ => h_.1)); replace HO_1059002 := am (Kd.R_mono (Kd.R_told (Kd.R_told (Kd.R_told (Kd.R_old (rl HO_1059002.out) hb) (Kd.R_base ho0)) (Kd.R_base ho1)) (Kd.R_base ho2)) (fun _ h_ => h_.1)); replace BK1058 := am (blk_below (g := gb1058) (o := .cells #[.slice Ao8 t1049.length co8, .slice Ao10 t1052.length co10, .slice Ao11 t1055.length co11] 25 (0, 0)) (kl BK1058.out) hb); replace HB := am (below_step (bs1 GE1058.out HB.out) hb); (try clear hb); (try clear hb2); (try clear hk); (try clear hi); (try clear ho0); (try clear ho1); (try clear ho2)) | ((with_reducible refine gate_dst (N := 5) rfl ?_); (try (refine gate_guard (by rfl) ?_; dsimp only)); refine box_event ?hg (N := 5) ?hd (cs := #[.slice none 0 0, .slice none 0 0, .slice none 0 0]) (t := 25) ?hr ?_; (case hd => rfl); (case hg => rfl); (case hr => first | (go_simp; done) | (go_simp; rfl)); intro gb1073 hg w38 hbox hb; replace HO_1059000 := am (Kd.R_below (rl HO_1059000.out) hb); replace HO_1059001 := am (Kd.R_below (rl HO_1059001.out) hb); replace HO_1059002 := am (Kd.R_below (rl HO_1059002.out) hb); replace HO1065 := am (Kd.R_below (rl HO1065.out) hb); replace HO1068 := am (Kd.R_below (rl HO1068.out) hb); replace HO1071 := am (Kd.R_below (rl HO1071.out) hb); have BK1073 := am (hbox); have GW1073 := am ((by rw [hg]; exact (below_size (bs1 GE1058.out HB.out)) : w.heap.size ≤ gb1073)); have GE1073 := am ((by rw [hg]; exact (below_size (bs1 GE1058.out HB.out)) : w.heap.size ≤ gb1073)); replace HB := am (below_step (bs1 GE1058.out HB.out) hb); have NB1058_1073 := am ((by rw [hg]; exact Nat.ne_of_lt (blk_lt (g := gb1058) (o := .cells #[.slice Ao8 t1049.length co8, .slice Ao10 t1052.length co10, .slice Ao11 t1055.length co11] 25 (0, 0)) (kl BK1058.out)) : gb1058 ≠ gb1073)); have NB1073_1058 := am ((by rw [hg]; exact Nat.ne_of_gt (blk_lt (g := gb1058) (o := .cells #[.slice Ao8 t1049.length co8, .slice Ao10 t1052.length co10, .slice Ao11 t1055.length co11] 25 (0, 0)) (kl BK1058.out)) : gb1073 ≠ gb1058)); replace BK1058 := am (blk_below (g := gb1058) (o := .cells #[.slice Ao8 t1049.length co8, .slice Ao10 t1052.length co10, .slice Ao11 t1055.length co11] 25 (0, 0)) (kl BK1058.out) hb); clear hb hbox hg; obtain ⟨Ao39, co39, eo39⟩ := Kd.R_slice HO1065.out; subst eo39; have hnb40 := NB1073_1058.out; have hnc40 := NB1058_1073.out; have hcz41_0 : w38.cell? ⟨gb1073, 0, none⟩ = some (.slice none 0 0) := (blk_cell BK1073.out 0).trans rfl; have hcz41_1 : w38.cell? ⟨gb1073, 1, none⟩ = some (.slice none 0 0) := (blk_cell BK1073.out 1).trans rfl; have hcz41_2 : w38.cell? ⟨gb1073, 2, none⟩ = some (.slice none 0 0) := (blk_cell BK1073.out 2).trans rfl; have hfz41_0 := blk_frozen BK1073.out 0; have hfz41_1 := blk_frozen BK1073.out 1; have hfz41_2 := blk_frozen BK1073.out 2; obtain ⟨Ao42, co42, eo42⟩ := Kd.R_slice HO1068.out; subst eo42; obtain ⟨Ao43, co43, eo43⟩ := Kd.R_slice HO1071.out; subst eo43) | ((with_reducible refine gate_store (t := 25) (p := 5) rfl ?_); refine store_event (t := 25) (p := 5) (v := ?vo_w44) (w1 := (((w38.setCell ⟨gb1073, 0, none⟩ (.slice Ao39 t1063.length co39)).setCell ⟨gb1073, 1, none⟩ (.slice Ao42 t1066.length co42)).setCell ⟨gb1073, 2, none⟩ (.slice Ao43 t1069.length co43))) ?hg ?ho ?hn ?hr ?_; (case ho => rfl); (case hg => rfl); (case hn => rfl); (case hr => first | (go_simp; done) | (go_simp; rfl)); intro w44 hw; replace HO_1059000 : Aside0 (Kd.R (Kd.int .i64) 3 w44 w.heap.size (fun k_ => some k_ ≠ (.slice Ao10 t1052.length co10 : Value).ownBlock ∧ some k_ ≠ (.slice Ao11 t1055.length co11 : Value).ownBlock ∧ some k_ ≠ (.slice Ao39 t1063.length co39 : Value).ownBlock ∧ some k_ ≠ (.slice Ao42 t1066.length co42 : Value).ownBlock ∧ some k_ ≠ (.slice Ao43 t1069.length co43 : Value).ownBlock) (.slice Ao8 t1049.length co8) t1049) := ⟨(by rw [hw]; exact (rl (Kd.R_mono (Kd.R_far (p := ⟨gb1073, 2, none⟩) (Kd.R_far (p := ⟨gb1073, 1, none⟩) (Kd.R_far (p := ⟨gb1073, 0, none⟩) (Kd.R_types HO_1059000.out BK1073.out (by decide)) (fun _ hk => hk.2) (.slice Ao39 t1063.length co39)) (fun _ hk => hk.2) (.slice Ao42 t1066.length co42)) (fun _ hk => hk.2) (.slice Ao43 t1069.length co43)) (fun _ hk => by simp only [ne_eq] at hk ⊢; simp only [hk, not_false_eq_true, and_self]))))⟩; replace HO_1059001 : Aside0 (Kd.R (Kd.int .i64) 3 w44 w.heap.size (fun k_ => some k_ ≠ (.slice Ao8 t1049.length co8 : Value).ownBlock ∧ some k_ ≠ (.slice Ao11 t1055.length co11 : Value).ownBlock ∧ some k_ ≠ (.slice Ao39 t1063.length co39 : Value).ownBlock ∧ some k_ ≠ (.slice Ao42 t1066.length co42 : Value).ownBlock ∧ some k_ ≠ (.slice Ao43 t1069.length co43 : Value).ownBlock) (.slice Ao10 t1052.length co10) t1052) := ⟨(by rw [hw]; exact (rl (Kd.R_mono (Kd.R_far (p := ⟨gb1073, 2, none⟩) (Kd.R_far (p := ⟨gb1073, 1, none⟩) (Kd.R_far (p := ⟨gb1073, 0, none⟩) (Kd.R_types HO_1059001.out BK1073.out (by decide)) (fun _ hk => hk.2) (.slice Ao39 t1063.length co39)) (fun _ hk => hk.2) (.slice Ao42 t1066.length co42)) (fun _ hk => hk.2) (.slice Ao43 t1069.length co43)) (fun _ hk => by simp only [ne_eq] at hk ⊢; simp only [hk, not_false_eq_true, and_self]))))⟩; replace HO_1059002 : Aside0 (Kd.R (Kd.int .i64) 3 w44 w.heap.size (fun k_ => some k_ ≠ (.slice Ao8 t1049.length co8 : Value).ownBlock ∧ some k_ ≠ (.slice Ao10 t1052.length co10 : Value).ownBlock ∧ some k_ ≠ (.slice Ao39 t1063.length co39 : Value).ownBlock ∧ some k_ ≠ (.slice Ao42 t1066.length co42 : Value).ownBlock ∧ some k_ ≠ (.slice Ao43 t1069.length co43 : Value).ownBlock) (.slice Ao11 t1055.length co11) t1055) := ⟨(by rw [hw]; exact (rl (Kd.R_mono (Kd.R_far (p := ⟨gb1073, 2, none⟩) (Kd.R_far (p := ⟨gb1073, 1, none⟩) (Kd.R_far (p := ⟨gb1073, 0, none⟩) (Kd.R_types HO_1059002.out BK1073.out (by decide)) (fun _ hk => hk.2) (.slice Ao39 t1063.length co39)) (fun _ hk => hk.2) (.slice Ao42 t1066.length co42)) (fun _ hk => hk.2) (.slice Ao43 t1069.length co43)) (fun _ hk => by simp only [ne_eq] at hk ⊢; simp only [hk, not_false_eq_true, and_self]))))⟩; replace HO1065 : Aside0 (Kd.R (Kd.int .i64) 3 w44 w.heap.size (fun k_ => some k_ ≠ (.slice Ao8 t1049.length co8 : Value).ownBlock ∧ some k_ ≠ (.slice Ao10 t1052.length co10 : Value).ownBlock ∧ some k_ ≠ (.slice Ao11 t1055.length co11 : Value).ownBlock ∧ some k_ ≠ (.slice Ao42 t1066.length co42 : Value).ownBlock ∧ some k_ ≠ (.slice Ao43 t1069.length co43 : Value).ownBlock) (.slice Ao39 t1063.length co39) t1063) := ⟨(by rw [hw]; exact (rl (Kd.R_mono (Kd.R_far (p := ⟨gb1073, 2, none⟩) (Kd.R_far (p := ⟨gb1073, 1, none⟩) (Kd.R_far (p := ⟨gb1073, 0, none⟩) (Kd.R_types HO1065.out BK1073.out (by decide)) (fun _ hk => hk.2) (.slice Ao39 t1063.length co39)) (fun _ hk => hk.2) (.slice Ao42 t1066.length co42)) (fun _ hk => hk.2) (.slice Ao43 t1069.length co43)) (fun _ hk => by simp only [ne_eq] at hk ⊢; simp only [hk, not_false_eq_true, and_self]))))⟩; replace HO1068 : Aside0 (Kd.R (Kd.int .i64) 3 w44 w.heap.size (fun k_ => some k_ ≠ (.slice Ao8 t1049.length co8 : Value).ownBlock ∧ some k_ ≠ (.slice Ao10 t1052.length co10 : Value).ownBlock ∧ some k_ ≠ (.slice Ao11 t1055.length co11 : Value).ownBlock ∧ some k_ ≠ (.slice Ao39 t1063.length co39 : Value).ownBlock ∧ some k_ ≠ (.slice Ao43 t1069.length co43 : Value).ownBlock) (.slice Ao42 t1066.length co42) t1066) := ⟨(by rw [hw]; exact (rl (Kd.R_mono (Kd.R_far (p := ⟨gb1073, 2, none⟩) (Kd.R_far (p := ⟨gb1073, 1, none⟩) (Kd.R_far (p := ⟨gb1073, 0, none⟩) (Kd.R_types HO1068.out BK1073.out (by decide)) (fun _ hk => hk.2) (.slice Ao39 t1063.length co39)) (fun _ hk => hk.2) (.slice Ao42 t1066.length co42)) (fun _ hk => hk.2) (.slice Ao43 t1069.length co43)) (fun _ hk => by simp only [ne_eq] at hk ⊢; simp only [hk, not_false_eq_true, and_self]))))⟩; replace HO1071 : Aside0 (Kd.R (Kd.int .i64) 3 w44 w.heap.size (fun k_ => some k_ ≠ (.slice Ao8 t1049.length co8 : Value).ownBlock ∧ some k_ ≠ (.slice Ao10 t1052.length co10 : Value).ownBlock ∧ some k_ ≠ (.slice Ao11 t1055.length co11 : Value).ownBlock ∧ some k_ ≠ (.slice Ao39 t1063.length co39 : Value).ownBlock ∧ some k_ ≠ (.slice Ao42 t1066.length co42 : Value).ownBlock) (.slice Ao43 t1069.length co43) t1069) := ⟨(by rw [hw]; exact (rl (Kd.R_mono (Kd.R_far (p := ⟨gb1073, 2, none⟩) (Kd.R_far (p := ⟨gb1073, 1, none⟩) (Kd.R_far (p := ⟨gb1073, 0, none⟩) (Kd.R_types HO1071.out BK1073.out (by decide)) (fun _ hk => hk.2) (.slice Ao39 t1063.length co39)) (fun _ hk => hk.2) (.slice Ao42 t1066.length co42)) (fun _ hk => hk.2) (.slice Ao43 t1069.length co43)) (fun _ hk => by simp only [ne_eq] at hk ⊢; simp only [hk, not_false_eq_true, and_self]))))⟩; replace BK1058 : Aside0 (w44.heap[gb1058]? = some (.cells #[.slice Ao8 t1049.length co8, .slice Ao10 t1052.length co10, .slice Ao11 t1055.length co11] 25 (0, 0))) := ⟨(by rw [hw]; exact (kf1 NB1058_1073.out BK1058.out))⟩; replace BK1073 : Aside0 (w44.heap[gb1073]? = some (.cells #[.slice Ao39 t1063.length co39, .slice Ao42 t1066.length co42, .slice Ao43 t1069.length co43] 25 (0, 0))) := ⟨(by rw [hw]; exact (kp3 (kf0 BK1073.out)))⟩; replace HB : Aside0 (Below w.heap.size w w44) := ⟨(by rw [hw]; exact (bs2 GE1058.out GE1073.out HB.out))⟩; clear hw; have hcz45_0 : w44.cell? ⟨gb1073, 0, none⟩ = some (.slice Ao39 t1063.length co39) := (blk_cell BK1073.out 0).trans rfl; have hcz45_1 : w44.cell? ⟨gb1073, 1, none⟩ = some (.slice Ao42 t1066.length co42) := (blk_cell BK1073.out 1).trans rfl; have hcz45_2 : w44.cell? ⟨gb1073, 2, none⟩ = some (.slice Ao43 t1069.length co43) := (blk_cell BK1073.out 2).trans rfl; have hfz45_0 := blk_frozen BK1073.out 0; have hfz45_1 := blk_frozen BK1073.out 1; have hfz45_2 := blk_frozen BK1073.out 2) | ((with_reducible refine gate_callee (f := 44) rfl ?_); refine goesL_ (some 38) rfl rfl Try.func44 (by kernel_rfl) rfl #[.agg #[.slice Ao39 t1063.length co39, .slice Ao42 t1066.length co42, .slice Ao43 t1069.length co43]] rfl (by (try simp only [List.map_toArray, List.map_cons, List.map_nil]); first | done | rfl | (simp only [List.length_drop, List.length_take]; rfl)) ?_; (with_reducible refine (impl_CountPointers.calls kj4 (fun k_ => some k_ = (.slice Ao39 t1063.length co39 : Value).ownBlock) _ _ t1063 (fun k_ => some k_ = (.slice Ao42 t1066.length co42 : Value).ownBlock) _ _ t1066 (fun k_ => some k_ = (.slice Ao43 t1069.length co43 : Value).ownBlock) _ _ t1069 t1074 _ ?side1 ?side2 ?side3 A30.out).mono ?_); (case side1 => exact Kd.R_V (Kd.R_tight rfl (Kd.R_types (Kd.R_types (HO1065.out) BK1058.out (by decide)) BK1073.out (by decide)))); (case side2 => exact Kd.R_V (Kd.R_tight rfl (Kd.R_types (Kd.R_types (HO1068.out) BK1058.out (by decide)) BK1073.out (by decide)))); (case side3 => exact Kd.R_V (Kd.R_tight rfl (Kd.R_types (Kd.R_types (HO1071.out) BK1058.out (by decide)) BK1073.out (by decide)))); rintro e w46 ⟨rfl, hb⟩; refine ⟨_, rfl, ?_⟩; replace HO_1059000 := am (Kd.R_below (rl HO_1059000.out) hb); replace HO_1059001 := am (Kd.R_below (rl HO_1059001.out) hb); replace HO_1059002 := am (Kd.R_below (rl HO_1059002.out) hb); replace HO1065 := am (Kd.R_below (rl HO1065.out) hb); replace HO1068 := am (Kd.R_below (rl HO1068.out) hb); replace HO1071 := am (Kd.R_below (rl HO1071.out) hb); replace BK1058 := am (blk_below (g := gb1058) (o := .cells #[.slice Ao8 t1049.length co8, .slice Ao10 t1052.length co10, .slice Ao11 t1055.length co11] 25 (0, 0)) (kl BK1058.out) hb); replace BK1073 := am (blk_below (g := gb1073) (o := .cells #[.slice Ao39 t1063.length co39, .slice Ao42 t1066.length co42, .slice Ao43 t1069.length co43] 25 (0, 0)) (kl BK1073.out) hb); replace HB := am (below_step (bs2 GE1058.out GE1073.out HB.out) hb); (try clear hb); (try clear hb2); (try clear hk); (try clear hi); have hcz47_0 : w46.cell? ⟨gb1058, 0, none⟩ = some (.slice Ao8 t1049.length co8) := (blk_cell BK1058.out 0).trans rfl; have hcz47_1 : w46.cell? ⟨gb1058, 1, none⟩ = some (.slice Ao10 t1052.length co10) := (blk_cell BK1058.out 1).trans rfl; have hcz47_2 : w46.cell? ⟨gb1058, 2, none⟩ = some (.slice Ao11 t1055.length co11) := (blk_cell BK1058.out 2).trans rfl; have hfz47_0 := blk_frozen BK1058.out 0; have hfz47_1 := blk_frozen BK1058.out 1; have hfz47_2 := blk_frozen BK1058.out 2; have p1075 : 0 ≤ (0 : Int) := (by omega); have q1075 : 0 < (t1049.length : Int) := of_decide_eq_true (by first | (with_reducible assumption) | assumption); obtain ⟨ad1075, e1075, hx1075_0⟩ := Kd.at_int (Kd.R_reads' HO_1059000.out).2.2 0 p1075 q1075; cases e1075; have qi1075 : (0 < t1049.length) = True := eq_true (by omega); (try rw [show ((0 : Int)).toNat = 0 from rfl] at hx1075_0); (try rw [Addr.add_zero'] at hx1075_0); replace p1075 := eq_true p1075; replace q1075 := eq_true q1075))
          go_ret
          exact ⟨by first | rfl | (simp [errW_none, errW_some] <;> rfl) | (simp [*, errW_none, errW_some] <;> rfl), by exact bs2 GE1058.out GE1073.out HB.out⟩
         ·rw [if_neg c35] at H
          have c35b0 : (t1074 == t1059) = false := beq_eq_false_iff_ne.mpr c35
          have c35b1 : (t1074 != t1059) = true := bne_iff_ne.mpr c35
          exact absurd H (by simp)
        ·rw [if_neg c34] at H
         have c34b0 : ((rd t1049 0) == (-1)) = false := beq_eq_false_iff_ne.mpr c34
         have c34b1 : ((rd t1049 0) != (-1)) = true := bne_iff_ne.mpr c34
         obtain rfl := Option.some.inj H
         have hcz48_0 : wc.cell? ⟨gb1058, 0, none⟩ = some (.slice Ao8 t1049.length co8) := (blk_cell BK1058.out 0).trans rfl
         have hcz48_1 : wc.cell? ⟨gb1058, 1, none⟩ = some (.slice Ao10 t1052.length co10) := (blk_cell BK1058.out 1).trans rfl
         have hcz48_2 : wc.cell? ⟨gb1058, 2, none⟩ = some (.slice Ao11 t1055.length co11) := (blk_cell BK1058.out 2).trans rfl
         have hfz48_0 := blk_frozen BK1058.out 0
         have hfz48_1 := blk_frozen BK1058.out 1
         have hfz48_2 := blk_frozen BK1058.out 2
         go_wp2_with (first | ((with_reducible refine gate_callee (f := 16) rfl ?_); refine goesL_ (some 34) rfl rfl Try.func16 (by kernel_rfl) rfl #[.agg #[.slice Ao8 t1049.length co8, .slice Ao10 t1052.length co10, .slice Ao11 t1055.length co11], .int .i64 0, .int .i64 (-1)] rfl (by (try simp only [List.map_toArray, List.map_cons, List.map_nil]); first | done | rfl | (simp only [List.length_drop, List.length_take]; rfl)) ?_; (with_reducible refine (impl_PutLeft.calls kj4 _ _ t1049 _ _ t1052 _ _ t1055 0 (-1) t1063 t1066 t1069 t1072 _ ?side1 ?side2 ?side3 ?side4 ?side5 ?side6 A29.out).mono ?_); (case side1 => exact cl ((Kd.R_reads' HO_1059000.out).2.2)); (case side2 => exact (Kd.R_reads' HO_1059000.out).2.1); (case side3 => exact cl ((Kd.R_reads' HO_1059001.out).2.2)); (case side4 => exact (Kd.R_reads' HO_1059001.out).2.1); (case side5 => exact cl ((Kd.R_reads' HO_1059002.out).2.2)); (case side6 => exact (Kd.R_reads' HO_1059002.out).2.1); rintro e w49 ⟨v1064, v1067, v1070, rfl, ho0, ho1, ho2, hb⟩; refine ⟨_, rfl, ?_⟩; have HO1065 := am (Kd.R_lower (Kd.R_new' (Kd.R_new' (Kd.R_new' ho0 (Kd.R_lt (rl HO_1059000.out))) (Kd.R_lt (rl HO_1059001.out))) (Kd.R_lt (rl HO_1059002.out))) (below_size (bs1 GE1058.out HB.out))); have HO1068 := am (Kd.R_lower (Kd.R_new' (Kd.R_new' (Kd.R_new' ho1 (Kd.R_lt (rl HO_1059000.out))) (Kd.R_lt (rl HO_1059001.out))) (Kd.R_lt (rl HO_1059002.out))) (below_size (bs1 GE1058.out HB.out))); have HO1071 := am (Kd.R_lower (Kd.R_new' (Kd.R_new' (Kd.R_new' ho2 (Kd.R_lt (rl HO_1059000.out))) (Kd.R_lt (rl HO_1059001.out))) (Kd.R_lt (rl HO_1059002.out))) (below_size (bs1 GE1058.out HB.out))); replace HO_1059000 := am (Kd.R_mono (Kd.R_told (Kd.R_told (Kd.R_told (Kd.R_old (rl HO_1059000.out) hb) (Kd.R_base ho0)) (Kd.R_base ho1)) (Kd.R_base ho2)) (fun _ h_ => h_.1)); replace HO_1059001 := am (Kd.R_mono (Kd.R_told (Kd.R_told (Kd.R_told (Kd.R_old (rl HO_1059001.out) hb) (Kd.R_base ho0)) (Kd.R_base ho1)) (Kd.R_base ho2)) (fun _ h_ => h_.1)); replace HO_1059002 := am (Kd.R_mono (Kd.R_told (Kd.R_told (Kd.R_told (Kd.R_old (rl HO_1059002.out) hb) (Kd.R_base ho0)) (Kd.R_base ho1)) (Kd.R_base ho2)) (fun _ h_ => h_.1)); replace BK1058 := am (blk_below (g := gb1058) (o := .cells #[.slice Ao8 t1049.length co8, .slice Ao10 t1052.length co10, .slice Ao11 t1055.length co11] 25 (0, 0)) (kl BK1058.out) hb); replace HB := am (below_step (bs1 GE1058.out HB.out) hb); (try clear hb); (try clear hb2); (try clear hk); (try clear hi); (try clear ho0); (try clear ho1); (try clear ho2)) | ((with_reducible refine gate_dst (N := 5) rfl ?_); (try (refine gate_guard (by rfl) ?_; dsimp only)); refine box_event ?hg (N := 5) ?hd (cs := #[.slice none 0 0, .slice none 0 0, .slice none 0 0]) (t := 25) ?hr ?_; (case hd => rfl); (case hg => rfl); (case hr => first | (go_simp; done) | (go_simp; rfl)); intro gb1073 hg w50 hbox hb; replace HO_1059000 := am (Kd.R_below (rl HO_1059000.out) hb); replace HO_1059001 := am (Kd.R_below (rl HO_1059001.out) hb); replace HO_1059002 := am (Kd.R_below (rl HO_1059002.out) hb); replace HO1065 := am (Kd.R_below (rl HO1065.out) hb); replace HO1068 := am (Kd.R_below (rl HO1068.out) hb); replace HO1071 := am (Kd.R_below (rl HO1071.out) hb); have BK1073 := am (hbox); have GW1073 := am ((by rw [hg]; exact (below_size (bs1 GE1058.out HB.out)) : w.heap.size ≤ gb1073)); have GE1073 := am ((by rw [hg]; exact (below_size (bs1 GE1058.out HB.out)) : w.heap.size ≤ gb1073)); replace HB := am (below_step (bs1 GE1058.out HB.out) hb); have NB1058_1073 := am ((by rw [hg]; exact Nat.ne_of_lt (blk_lt (g := gb1058) (o := .cells #[.slice Ao8 t1049.length co8, .slice Ao10 t1052.length co10, .slice Ao11 t1055.length co11] 25 (0, 0)) (kl BK1058.out)) : gb1058 ≠ gb1073)); have NB1073_1058 := am ((by rw [hg]; exact Nat.ne_of_gt (blk_lt (g := gb1058) (o := .cells #[.slice Ao8 t1049.length co8, .slice Ao10 t1052.length co10, .slice Ao11 t1055.length co11] 25 (0, 0)) (kl BK1058.out)) : gb1073 ≠ gb1058)); replace BK1058 := am (blk_below (g := gb1058) (o := .cells #[.slice Ao8 t1049.length co8, .slice Ao10 t1052.length co10, .slice Ao11 t1055.length co11] 25 (0, 0)) (kl BK1058.out) hb); clear hb hbox hg; obtain ⟨Ao51, co51, eo51⟩ := Kd.R_slice HO1065.out; subst eo51; have hnb52 := NB1073_1058.out; have hnc52 := NB1058_1073.out; have hcz53_0 : w50.cell? ⟨gb1073, 0, none⟩ = some (.slice none 0 0) := (blk_cell BK1073.out 0).trans rfl; have hcz53_1 : w50.cell? ⟨gb1073, 1, none⟩ = some (.slice none 0 0) := (blk_cell BK1073.out 1).trans rfl; have hcz53_2 : w50.cell? ⟨gb1073, 2, none⟩ = some (.slice none 0 0) := (blk_cell BK1073.out 2).trans rfl; have hfz53_0 := blk_frozen BK1073.out 0; have hfz53_1 := blk_frozen BK1073.out 1; have hfz53_2 := blk_frozen BK1073.out 2; obtain ⟨Ao54, co54, eo54⟩ := Kd.R_slice HO1068.out; subst eo54; obtain ⟨Ao55, co55, eo55⟩ := Kd.R_slice HO1071.out; subst eo55) | ((with_reducible refine gate_store (t := 25) (p := 5) rfl ?_); refine store_event (t := 25) (p := 5) (v := ?vo_w56) (w1 := (((w50.setCell ⟨gb1073, 0, none⟩ (.slice Ao51 t1063.length co51)).setCell ⟨gb1073, 1, none⟩ (.slice Ao54 t1066.length co54)).setCell ⟨gb1073, 2, none⟩ (.slice Ao55 t1069.length co55))) ?hg ?ho ?hn ?hr ?_; (case ho => rfl); (case hg => rfl); (case hn => rfl); (case hr => first | (go_simp; done) | (go_simp; rfl)); intro w56 hw; replace HO_1059000 : Aside0 (Kd.R (Kd.int .i64) 3 w56 w.heap.size (fun k_ => some k_ ≠ (.slice Ao10 t1052.length co10 : Value).ownBlock ∧ some k_ ≠ (.slice Ao11 t1055.length co11 : Value).ownBlock ∧ some k_ ≠ (.slice Ao51 t1063.length co51 : Value).ownBlock ∧ some k_ ≠ (.slice Ao54 t1066.length co54 : Value).ownBlock ∧ some k_ ≠ (.slice Ao55 t1069.length co55 : Value).ownBlock) (.slice Ao8 t1049.length co8) t1049) := ⟨(by rw [hw]; exact (rl (Kd.R_mono (Kd.R_far (p := ⟨gb1073, 2, none⟩) (Kd.R_far (p := ⟨gb1073, 1, none⟩) (Kd.R_far (p := ⟨gb1073, 0, none⟩) (Kd.R_types HO_1059000.out BK1073.out (by decide)) (fun _ hk => hk.2) (.slice Ao51 t1063.length co51)) (fun _ hk => hk.2) (.slice Ao54 t1066.length co54)) (fun _ hk => hk.2) (.slice Ao55 t1069.length co55)) (fun _ hk => by simp only [ne_eq] at hk ⊢; simp only [hk, not_false_eq_true, and_self]))))⟩; replace HO_1059001 : Aside0 (Kd.R (Kd.int .i64) 3 w56 w.heap.size (fun k_ => some k_ ≠ (.slice Ao8 t1049.length co8 : Value).ownBlock ∧ some k_ ≠ (.slice Ao11 t1055.length co11 : Value).ownBlock ∧ some k_ ≠ (.slice Ao51 t1063.length co51 : Value).ownBlock ∧ some k_ ≠ (.slice Ao54 t1066.length co54 : Value).ownBlock ∧ some k_ ≠ (.slice Ao55 t1069.length co55 : Value).ownBlock) (.slice Ao10 t1052.length co10) t1052) := ⟨(by rw [hw]; exact (rl (Kd.R_mono (Kd.R_far (p := ⟨gb1073, 2, none⟩) (Kd.R_far (p := ⟨gb1073, 1, none⟩) (Kd.R_far (p := ⟨gb1073, 0, none⟩) (Kd.R_types HO_1059001.out BK1073.out (by decide)) (fun _ hk => hk.2) (.slice Ao51 t1063.length co51)) (fun _ hk => hk.2) (.slice Ao54 t1066.length co54)) (fun _ hk => hk.2) (.slice Ao55 t1069.length co55)) (fun _ hk => by simp only [ne_eq] at hk ⊢; simp only [hk, not_false_eq_true, and_self]))))⟩; replace HO_1059002 : Aside0 (Kd.R (Kd.int .i64) 3 w56 w.heap.size (fun k_ => some k_ ≠ (.slice Ao8 t1049.length co8 : Value).ownBlock ∧ some k_ ≠ (.slice Ao10 t1052.length co10 : Value).ownBlock ∧ some k_ ≠ (.slice Ao51 t1063.length co51 : Value).ownBlock ∧ some k_ ≠ (.slice Ao54 t1066.length co54 : Value).ownBlock ∧ some k_ ≠ (.slice Ao55 t1069.length co55 : Value).ownBlock) (.slice Ao11 t1055.length co11) t1055) := ⟨(by rw [hw]; exact (rl (Kd.R_mono (Kd.R_far (p := ⟨gb1073, 2, none⟩) (Kd.R_far (p := ⟨gb1073, 1, none⟩) (Kd.R_far (p := ⟨gb1073, 0, none⟩) (Kd.R_types HO_1059002.out BK1073.out (by decide)) (fun _ hk => hk.2) (.slice Ao51 t1063.length co51)) (fun _ hk => hk.2) (.slice Ao54 t1066.length co54)) (fun _ hk => hk.2) (.slice Ao55 t1069.length co55)) (fun _ hk => by simp only [ne_eq] at hk ⊢; simp only [hk, not_false_eq_true, and_self]))))⟩; replace HO1065 : Aside0 (Kd.R (Kd.int .i64) 3 w56 w.heap.size (fun k_ => some k_ ≠ (.slice Ao8 t1049.length co8 : Value).ownBlock ∧ some k_ ≠ (.slice Ao10 t1052.length co10 : Value).ownBlock ∧ some k_ ≠ (.slice Ao11 t1055.length co11 : Value).ownBlock ∧ some k_ ≠ (.slice Ao54 t1066.length co54 : Value).ownBlock ∧ some k_ ≠ (.slice Ao55 t1069.length co55 : Value).ownBlock) (.slice Ao51 t1063.length co51) t1063) := ⟨(by rw [hw]; exact (rl (Kd.R_mono (Kd.R_far (p := ⟨gb1073, 2, none⟩) (Kd.R_far (p := ⟨gb1073, 1, none⟩) (Kd.R_far (p := ⟨gb1073, 0, none⟩) (Kd.R_types HO1065.out BK1073.out (by decide)) (fun _ hk => hk.2) (.slice Ao51 t1063.length co51)) (fun _ hk => hk.2) (.slice Ao54 t1066.length co54)) (fun _ hk => hk.2) (.slice Ao55 t1069.length co55)) (fun _ hk => by simp only [ne_eq] at hk ⊢; simp only [hk, not_false_eq_true, and_self]))))⟩; replace HO1068 : Aside0 (Kd.R (Kd.int .i64) 3 w56 w.heap.size (fun k_ => some k_ ≠ (.slice Ao8 t1049.length co8 : Value).ownBlock ∧ some k_ ≠ (.slice Ao10 t1052.length co10 : Value).ownBlock ∧ some k_ ≠ (.slice Ao11 t1055.length co11 : Value).ownBlock ∧ some k_ ≠ (.slice Ao51 t1063.length co51 : Value).ownBlock ∧ some k_ ≠ (.slice Ao55 t1069.length co55 : Value).ownBlock) (.slice Ao54 t1066.length co54) t1066) := ⟨(by rw [hw]; exact (rl (Kd.R_mono (Kd.R_far (p := ⟨gb1073, 2, none⟩) (Kd.R_far (p := ⟨gb1073, 1, none⟩) (Kd.R_far (p := ⟨gb1073, 0, none⟩) (Kd.R_types HO1068.out BK1073.out (by decide)) (fun _ hk => hk.2) (.slice Ao51 t1063.length co51)) (fun _ hk => hk.2) (.slice Ao54 t1066.length co54)) (fun _ hk => hk.2) (.slice Ao55 t1069.length co55)) (fun _ hk => by simp only [ne_eq] at hk ⊢; simp only [hk, not_false_eq_true, and_self]))))⟩; replace HO1071 : Aside0 (Kd.R (Kd.int .i64) 3 w56 w.heap.size (fun k_ => some k_ ≠ (.slice Ao8 t1049.length co8 : Value).ownBlock ∧ some k_ ≠ (.slice Ao10 t1052.length co10 : Value).ownBlock ∧ some k_ ≠ (.slice Ao11 t1055.length co11 : Value).ownBlock ∧ some k_ ≠ (.slice Ao51 t1063.length co51 : Value).ownBlock ∧ some k_ ≠ (.slice Ao54 t1066.length co54 : Value).ownBlock) (.slice Ao55 t1069.length co55) t1069) := ⟨(by rw [hw]; exact (rl (Kd.R_mono (Kd.R_far (p := ⟨gb1073, 2, none⟩) (Kd.R_far (p := ⟨gb1073, 1, none⟩) (Kd.R_far (p := ⟨gb1073, 0, none⟩) (Kd.R_types HO1071.out BK1073.out (by decide)) (fun _ hk => hk.2) (.slice Ao51 t1063.length co51)) (fun _ hk => hk.2) (.slice Ao54 t1066.length co54)) (fun _ hk => hk.2) (.slice Ao55 t1069.length co55)) (fun _ hk => by simp only [ne_eq] at hk ⊢; simp only [hk, not_false_eq_true, and_self]))))⟩; replace BK1058 : Aside0 (w56.heap[gb1058]? = some (.cells #[.slice Ao8 t1049.length co8, .slice Ao10 t1052.length co10, .slice Ao11 t1055.length co11] 25 (0, 0))) := ⟨(by rw [hw]; exact (kf1 NB1058_1073.out BK1058.out))⟩; replace BK1073 : Aside0 (w56.heap[gb1073]? = some (.cells #[.slice Ao51 t1063.length co51, .slice Ao54 t1066.length co54, .slice Ao55 t1069.length co55] 25 (0, 0))) := ⟨(by rw [hw]; exact (kp3 (kf0 BK1073.out)))⟩; replace HB : Aside0 (Below w.heap.size w w56) := ⟨(by rw [hw]; exact (bs2 GE1058.out GE1073.out HB.out))⟩; clear hw; have hcz57_0 : w56.cell? ⟨gb1073, 0, none⟩ = some (.slice Ao51 t1063.length co51) := (blk_cell BK1073.out 0).trans rfl; have hcz57_1 : w56.cell? ⟨gb1073, 1, none⟩ = some (.slice Ao54 t1066.length co54) := (blk_cell BK1073.out 1).trans rfl; have hcz57_2 : w56.cell? ⟨gb1073, 2, none⟩ = some (.slice Ao55 t1069.length co55) := (blk_cell BK1073.out 2).trans rfl; have hfz57_0 := blk_frozen BK1073.out 0; have hfz57_1 := blk_frozen BK1073.out 1; have hfz57_2 := blk_frozen BK1073.out 2) | ((with_reducible refine gate_callee (f := 44) rfl ?_); refine goesL_ (some 38) rfl rfl Try.func44 (by kernel_rfl) rfl #[.agg #[.slice Ao51 t1063.length co51, .slice Ao54 t1066.length co54, .slice Ao55 t1069.length co55]] rfl (by (try simp only [List.map_toArray, List.map_cons, List.map_nil]); first | done | rfl | (simp only [List.length_drop, List.length_take]; rfl)) ?_; (with_reducible refine (impl_CountPointers.calls kj4 (fun k_ => some k_ = (.slice Ao51 t1063.length co51 : Value).ownBlock) _ _ t1063 (fun k_ => some k_ = (.slice Ao54 t1066.length co54 : Value).ownBlock) _ _ t1066 (fun k_ => some k_ = (.slice Ao55 t1069.length co55 : Value).ownBlock) _ _ t1069 t1074 _ ?side1 ?side2 ?side3 A30.out).mono ?_); (case side1 => exact Kd.R_V (Kd.R_tight rfl (Kd.R_types (Kd.R_types (HO1065.out) BK1058.out (by decide)) BK1073.out (by decide)))); (case side2 => exact Kd.R_V (Kd.R_tight rfl (Kd.R_types (Kd.R_types (HO1068.out) BK1058.out (by decide)) BK1073.out (by decide)))); (case side3 => exact Kd.R_V (Kd.R_tight rfl (Kd.R_types (Kd.R_types (HO1071.out) BK1058.out (by decide)) BK1073.out (by decide)))); rintro e w58 ⟨rfl, hb⟩; refine ⟨_, rfl, ?_⟩; replace HO_1059000 := am (Kd.R_below (rl HO_1059000.out) hb); replace HO_1059001 := am (Kd.R_below (rl HO_1059001.out) hb); replace HO_1059002 := am (Kd.R_below (rl HO_1059002.out) hb); replace HO1065 := am (Kd.R_below (rl HO1065.out) hb); replace HO1068 := am (Kd.R_below (rl HO1068.out) hb); replace HO1071 := am (Kd.R_below (rl HO1071.out) hb); replace BK1058 := am (blk_below (g := gb1058) (o := .cells #[.slice Ao8 t1049.length co8, .slice Ao10 t1052.length co10, .slice Ao11 t1055.length co11] 25 (0, 0)) (kl BK1058.out) hb); replace BK1073 := am (blk_below (g := gb1073) (o := .cells #[.slice Ao51 t1063.length co51, .slice Ao54 t1066.length co54, .slice Ao55 t1069.length co55] 25 (0, 0)) (kl BK1073.out) hb); replace HB := am (below_step (bs2 GE1058.out GE1073.out HB.out) hb); (try clear hb); (try clear hb2); (try clear hk); (try clear hi); have hcz59_0 : w58.cell? ⟨gb1058, 0, none⟩ = some (.slice Ao8 t1049.length co8) := (blk_cell BK1058.out 0).trans rfl; have hcz59_1 : w58.cell? ⟨gb1058, 1, none⟩ = some (.slice Ao10 t1052.length co10) := (blk_cell BK1058.out 1).trans rfl; have hcz59_2 : w58.cell? ⟨gb1058, 2, none⟩ = some (.slice Ao11 t1055.length co11) := (blk_cell BK1058.out 2).trans rfl; have hfz59_0 := blk_frozen BK1058.out 0; have hfz59_1 := blk_frozen BK1058.out 1; have hfz59_2 := blk_frozen BK1058.out 2; have p1075 : 0 ≤ (0 : Int) := (by omega); have q1075 : 0 < (t1049.length : Int) := of_decide_eq_true (by first | (with_reducible assumption) | assumption); obtain ⟨ad1075, e1075, hx1075_0⟩ := Kd.at_int (Kd.R_reads' HO_1059000.out).2.2 0 p1075 q1075; cases e1075; have qi1075 : (0 < t1049.length) = True := eq_true (by omega); (try rw [show ((0 : Int)).toNat = 0 from rfl] at hx1075_0); (try rw [Addr.add_zero'] at hx1075_0); replace p1075 := eq_true p1075; replace q1075 := eq_true q1075; have p1077 : 0 ≤ (0 : Int) := (by omega); have q1077 : 0 < (t1049.length : Int) := of_decide_eq_true (by first | (with_reducible assumption) | assumption); obtain ⟨ad1077, e1077, hx1077_0⟩ := Kd.at_int (Kd.R_reads' HO_1059000.out).2.2 0 p1077 q1077; obtain rfl : ad1075 = ad1077 := (by injection e1077); have qi1077 : (0 < t1049.length) = True := eq_true (by omega); (try rw [show ((0 : Int)).toNat = 0 from rfl] at hx1077_0); (try rw [Addr.add_zero'] at hx1077_0); replace p1077 := eq_true p1077; replace q1077 := eq_true q1077))
         go_ret
         exact ⟨by first | rfl | (simp [errW_none, errW_some] <;> rfl) | (simp [*, errW_none, errW_some] <;> rfl), by exact bs2 GE1058.out GE1073.out HB.out⟩
       ·rw [if_neg c33] at H
        exact absurd H (by simp)
      ·rw [if_neg c32] at H
       exact absurd H (by simp)
     ·rw [if_neg c31] at H
      exact absurd H (by simp)

/-- THE ONE PURE STATEMENT of laws_FnCountPointers: yours. -/
def laws_FnCountPointers.Pure : Prop := ∀ (l0 : List Int), l0.length ≤ maxLen → l0.length * 1 ≤ 140737488351232 → (∀ x ∈ l0, (Lit.int .u8 x).wf = true) → ∃ k, laws_FnCountPointers.f k l0 = some true
theorem laws_FnCountPointers.walk (P : laws_FnCountPointers.Pure) (a0 : Option Addr) (len0 cap0 : Nat) (z0 : List Int) (w : World) (w0 : (a0 = none ∧ len0 = 0 ∧ cap0 = 0 ∧ z0 = []) ∨ ∃ x, a0 = some x ∧ len0 ≤ cap0 ∧ cap0 ≤ maxLen ∧ z0.length = cap0 ∧ (∀ i, i < z0.length → w.cell? (x.add i) = some (.int .u8 (z0.getD i 0))) ∧ ∀ n ∈ z0, (Lit.int .u8 n).wf = true) (y0 : len0 * 1 ≤ 140737488351232) :
  Calls Try.prog 11 #[.slice a0 len0 cap0] w fun e w' => e = .returned (.bool true) ∧ Below w.heap.size w w' := by
 obtain ⟨l0, rfl, hr0, hm0, hw0, hc0⟩ := ReadsInt.ofRowC w0
 obtain ⟨k, h⟩ := P l0 hm0 y0 hw0
 refine (laws_FnCountPointers.calls k _ _ l0 true w (Kd.C_of_reads (d := (0 : Int)) (h1 := fun _ => rfl) hr0) hc0 h).mono ?_
 rintro e w' ⟨rfl, hd⟩
 exact ⟨rfl, hd⟩

end Go.Proofs.Ytcofdgeelojebab.A
