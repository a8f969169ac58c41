/- Contracts of functions of the given program (CLawsFnHeapValid). No conditions beyond those stated. -/
import Derived.Test.YtkbaggfkidalfaaA0
import Derived.Test.YtkbaggfkidalfaaAImplHeapValid
import Derived.Test.YtkbaggfkidalfaaASpecDrawHeapValid
import Derived.Test.YtkbaggfkidalfaaASpecHeapValid
import Derived.Test.YtkbaggfkidalfaaA0
namespace Go.Proofs.Ytkbaggfkidalfaa.A
open Go.RowKit Go.Proofs.YtkbaggfkidalfaaW.PrintWords Go.Proofs.YtkbaggfkidalfaaW.PrintLast Go.Proofs.YtkbaggfkidalfaaW.PrintMore
attribute [local go_sem] max2_int min2_int max_two min_two max_three min_three max_four min_four   -- for this text's walks alone
set_option linter.unusedVariables false
set_option linter.unusedSimpArgs false

/-! ### laws_FnHeapValid -/
def laws_FnHeapValid.j0 : Nat → Bool → Bool → List Int → List Int → List Int → Option (Bool)
 | 0, _, _, _, _, _ => none
 | k + 1, x4, x21, x1624000, x1624001, x1624002 => if x21 = true then ((spec_HeapValid.f k x1624000 x1624001 x1624002).bind fun t1626 => (some (x4 == t1626))) else ((some (([(x1624000.length : Int)] : List Int) : List Int)).bind fun y1628 => (if 1 ≤ (x1624000.length : Int) then ((some (x1624000.drop 1 : List Int)).bind fun y1631 => (if y1628.length + y1631.length < 17592186044416 then ((impl_HeapValid.f k (y1628 ++ y1631) x1624001 x1624002).bind fun t1642 => (if t1642 = true then (none) else ((impl_HeapValid.f k x1624000 x1624001 (([] : List Int))).bind fun t1643 => (some (!t1643))))) else (none))) else (none)))
def laws_FnHeapValid.f (k : Nat) (l0 : List Int) : Option (Bool) := if (l0.length : Int) > 1048576 then (some true) else ((spec_DrawHeapValid.f k l0).bind fun bt1614 => ((impl_HeapValid.f k bt1614.1 bt1614.2.1 bt1614.2.2).bind fun t1624 => ((spec_HeapValid.f k bt1614.1 bt1614.2.1 bt1614.2.2).bind fun t1625 => (if (t1624 != t1625) = true then (laws_FnHeapValid.j0 k t1624 true bt1614.1 bt1614.2.1 bt1614.2.2) else (laws_FnHeapValid.j0 k t1624 (!t1624) bt1614.1 bt1614.2.1 bt1614.2.2)))))
theorem laws_FnHeapValid.mono_l : ∀ k, (∀ y0 y1 y2 y3 y4, LeO (laws_FnHeapValid.j0 k y0 y1 y2 y3 y4) (laws_FnHeapValid.j0 (k + 1) y0 y1 y2 y3 y4))
 | 0 => fun _ _ _ _ _ r h => by simp [laws_FnHeapValid.j0] at h
 | k + 1 => by
  have ih0 := laws_FnHeapValid.mono_l k
  ·intro y0 y1 y2 y3 y4
   unfold laws_FnHeapValid.j0
   repeat' first
   | (with_reducible exact ih0 _ _ _ _ _)
   | (with_reducible exact impl_HeapValid.mono _ _ _ _)
   | (with_reducible exact spec_DrawHeapValid.mono _ _)
   | (with_reducible exact spec_HeapValid.mono _ _ _ _)
   | (with_reducible exact LeO.refl _)
   | (with_reducible exact LeO.none _)
   | (with_reducible refine LeO.ite ?_ ?_)
   | (with_reducible refine LeO.bind ?_ (fun _ => ?_))
   | exact ih0 _ _ _ _ _
   | exact impl_HeapValid.mono _ _ _ _
   | exact spec_DrawHeapValid.mono _ _
   | exact spec_HeapValid.mono _ _ _ _
   | exact LeO.none _
   | refine LeO.ite ?_ ?_
   | refine LeO.bind ?_ (fun _ => ?_)
theorem laws_FnHeapValid.mono : ∀ a0 k, LeO (laws_FnHeapValid.f k a0) (laws_FnHeapValid.f (k + 1) a0) := by
 intro a0 k
 have ih0 := laws_FnHeapValid.mono_l k
 unfold laws_FnHeapValid.f
 repeat' first
   | (with_reducible exact ih0 _ _ _ _ _)
   | (with_reducible exact impl_HeapValid.mono _ _ _ _)
   | (with_reducible exact spec_DrawHeapValid.mono _ _)
   | (with_reducible exact spec_HeapValid.mono _ _ _ _)
   | (with_reducible exact LeO.refl _)
   | (with_reducible exact LeO.none _)
   | (with_reducible refine LeO.ite ?_ ?_)
   | (with_reducible refine LeO.bind ?_ (fun _ => ?_))
   | exact ih0 _ _ _ _ _
   | exact impl_HeapValid.mono _ _ _ _
   | exact spec_DrawHeapValid.mono _ _
   | exact spec_HeapValid.mono _ _ _ _
   | exact LeO.none _
   | refine LeO.ite ?_ ?_
   | refine LeO.bind ?_ (fun _ => ?_)
def laws_FnHeapValid.T8 : Bool × List (List Nat × List Nat) := (true, [([], []), ([0], [0]), ([1], [1]), ([2], [2]), ([], []), ([4], [4]), ([5], [5]), ([3, 6], [3, 6]), ([0, 1, 2, 3, 4, 5, 6, 7], []), ([8, 7, 7, 0, 1, 2, 3, 4, 5, 6, 7], [7, 8])])
def laws_FnHeapValid.B8 : List Nat := [0, 1, 3, 7, 0, 16, 48, 127, 255, 511]
theorem laws_FnHeapValid.tab8 : rtab .any (opsOf Try.f16 8) = laws_FnHeapValid.T8 := by kernel_rfl
theorem laws_FnHeapValid.bits8 : waitsOk laws_FnHeapValid.T8.2 laws_FnHeapValid.B8 = true := by kernel_rfl
set_option maxHeartbeats 8000000 in
set_option maxRecDepth 100000 in
theorem laws_FnHeapValid.calls (k : Nat) (A0 : Option Addr) (c0 : Nat) (l0 : List Int) (r : Bool) (w : World) (hr0 : Kd.C (Kd.int .u8) w A0 l0.length l0) (hc0 : l0.length ≤ c0) (h : laws_FnHeapValid.f k l0 = some r) :
  Calls Try.prog 16 #[.slice A0 l0.length c0] w fun e w' => e = .returned (.bool r) ∧ Below w.heap.size w w' := by
 have hu28 := Try.underlying28
 have HR0 := am hr0
 have HC0 := am hc0
 clear hr0 hc0
 have HB := am (Below.refl w.heap.size w)
 have H : (if (l0.length : Int) > 1048576 then (some true) else ((spec_DrawHeapValid.f k l0).bind fun bt1614 => ((impl_HeapValid.f k bt1614.1 bt1614.2.1 bt1614.2.2).bind fun t1624 => ((spec_HeapValid.f k bt1614.1 bt1614.2.1 bt1614.2.2).bind fun t1625 => (if (t1624 != t1625) = true then (laws_FnHeapValid.j0 k t1624 true bt1614.1 bt1614.2.1 bt1614.2.2) else (laws_FnHeapValid.j0 k t1624 (!t1624) bt1614.1 bt1614.2.1 bt1614.2.2)))))) = some r := h
 clear h
 by_cases c2 : (l0.length : Int) > 1048576
 ·rw [if_pos c2] at H
  have c2b0 : decide (1048576 < (l0.length : Int)) = true := decide_eq_true c2
  have c2b1 : decide (1048576 < l0.length) = true := decide_eq_true (by omega)
  clear c2
  obtain rfl := Option.some.inj H
  go_enter Try.func16, Try.ntmps16
  go_wp2
  go_ret
  exact ⟨by first | rfl | (simp [errW_none, errW_some] <;> rfl) | (simp [*, errW_none, errW_some] <;> rfl), by exact bs0 HB.out⟩
 ·rw [if_neg c2] at H
  have c2b0 : decide (1048576 < (l0.length : Int)) = false := decide_eq_false c2
  have c2b1 : decide (1048576 < l0.length) = false := decide_eq_false (by omega)
  clear c2
  replace H := Option.bind_eq_some_iff.mp H
  obtain ⟨⟨t1614, t1617, t1620⟩, A30, H⟩ := H
  replace H : ((impl_HeapValid.f k t1614 t1617 t1620).bind fun t1624 => ((spec_HeapValid.f k t1614 t1617 t1620).bind fun t1625 => (if (t1624 != t1625) = true then (laws_FnHeapValid.j0 k t1624 true t1614 t1617 t1620) else (laws_FnHeapValid.j0 k t1624 (!t1624) t1614 t1617 t1620)))) = some r := H
  have A3 := am A30
  clear A30
  replace H := Option.bind_eq_some_iff.mp H
  obtain ⟨t1624, A40, H⟩ := H
  replace H : ((spec_HeapValid.f k t1614 t1617 t1620).bind fun t1625 => (if (t1624 != t1625) = true then (laws_FnHeapValid.j0 k t1624 true t1614 t1617 t1620) else (laws_FnHeapValid.j0 k t1624 (!t1624) t1614 t1617 t1620))) = some r := H
  have A4 := am A40
  clear A40
  have HC5 := am H
  clear H
  go_enter Try.func16, Try.ntmps16
  go_upto_region 5 with (first | ((with_reducible refine gate_callee (f := 49) rfl ?_); refine gL (some 11) rfl rfl Try.func49 (by kernel_rfl) rfl #[.slice A0 l0.length c0] rfl ?_; (with_reducible refine (spec_DrawHeapValid.calls k _ _ l0 t1614 t1617 t1620 _ ?side1 ?side2 A3.out).mono ?_); (case side1 => exact cl (HR0.out)); (case side2 => exact HC0.out); rintro e w6 ⟨v1615, v1618, v1621, rfl, ho0, ho1, ho2, hb⟩; refine ⟨_, rfl, ?_⟩; have HO1616 := ln0 ho0 (bl HB.out); have HO1619 := ln0 ho1 (bl HB.out); have HO1622 := ln0 ho2 (bl HB.out); replace HB := am (below_step (bl HB.out) hb); (try clear hb ho0 ho1 ho2)) | ((with_reducible refine gate_dst (N := 3) rfl ?_); refine box_event ?hg (N := 3) ?hd (cs := #[.slice none 0 0, .slice none 0 0, .slice none 0 0]) (t := 28) ?hr ?_; (case hd => rfl); (case hg => rfl); (case hr => first | (go_simp; done) | (go_simp; rfl)); intro gb1623 hg w7 hbox hb; replace HO1616 := rb HO1616 hb; replace HO1619 := rb HO1619 hb; replace HO1622 := rb HO1622 hb; have BK1623 := am (hbox); have GW1623 := am ((by rw [hg]; exact (below_size (bl HB.out)) : w.heap.size ≤ gb1623)); have GE1623 := am ((by rw [hg]; exact (below_size (bl HB.out)) : w.heap.size ≤ gb1623)); replace HB := am (below_step (bl HB.out) hb); clear hb hbox hg; obtain ⟨Ao8, co8, eo8⟩ := Kd.R_slice HO1616.out; subst eo8; obtain ⟨hcz9_0, hcz9_1, hcz9_2, hfz9_0, hfz9_1, hfz9_2⟩ := cf3 BK1623; obtain ⟨Ao10, co10, eo10⟩ := Kd.R_slice HO1619.out; subst eo10; obtain ⟨Ao11, co11, eo11⟩ := Kd.R_slice HO1622.out; subst eo11) | ((with_reducible refine gate_store (t := 28) (p := 3) rfl ?_); refine store_event (t := 28) (p := 3) (v := ?vo_w12) (w1 := (((w7.setCell ⟨gb1623, 0, none⟩ (.slice Ao8 t1614.length co8)).setCell ⟨gb1623, 1, none⟩ (.slice Ao10 t1617.length co10)).setCell ⟨gb1623, 2, none⟩ (.slice Ao11 t1620.length co11))) ?hg ?ho ?hn ?hr ?_; (case ho => rfl); (case hg => rfl); (case hn => rfl); (case hr => first | (go_simp; done) | (go_simp; rfl)); intro w12 hw; replace HO1616 : Aside0 (Kd.R (Kd.int .i64) 3 w12 w.heap.size (fun k_ => some k_ ≠ (.slice Ao10 t1617.length co10 : Value).ownBlock ∧ some k_ ≠ (.slice Ao11 t1620.length co11 : Value).ownBlock) (.slice Ao8 t1614.length co8) t1614) := ⟨(by rw [hw]; exact (rl (Kd.R_mono (Kd.R_far (p := ⟨gb1623, 2, none⟩) (Kd.R_far (p := ⟨gb1623, 1, none⟩) (Kd.R_far (p := ⟨gb1623, 0, none⟩) (Kd.R_types HO1616.out BK1623.out (by decide)) (fun _ hk => hk.2) (.slice Ao8 t1614.length co8)) (fun _ hk => hk.2) (.slice Ao10 t1617.length co10)) (fun _ hk => hk.2) (.slice Ao11 t1620.length co11)) (fun _ hk => by first | exact ⟨hk.1.1, hk.1.2⟩ | (simp only [ne_eq] at hk ⊢; simp only [hk, not_false_eq_true, and_self])))))⟩; replace HO1619 : Aside0 (Kd.R (Kd.int .i64) 3 w12 w.heap.size (fun k_ => some k_ ≠ (.slice Ao8 t1614.length co8 : Value).ownBlock ∧ some k_ ≠ (.slice Ao11 t1620.length co11 : Value).ownBlock) (.slice Ao10 t1617.length co10) t1617) := ⟨(by rw [hw]; exact (rl (Kd.R_mono (Kd.R_far (p := ⟨gb1623, 2, none⟩) (Kd.R_far (p := ⟨gb1623, 1, none⟩) (Kd.R_far (p := ⟨gb1623, 0, none⟩) (Kd.R_types HO1619.out BK1623.out (by decide)) (fun _ hk => hk.2) (.slice Ao8 t1614.length co8)) (fun _ hk => hk.2) (.slice Ao10 t1617.length co10)) (fun _ hk => hk.2) (.slice Ao11 t1620.length co11)) (fun _ hk => by first | exact ⟨hk.1.1, hk.1.2⟩ | (simp only [ne_eq] at hk ⊢; simp only [hk, not_false_eq_true, and_self])))))⟩; replace HO1622 : Aside0 (Kd.R (Kd.int .i64) 3 w12 w.heap.size (fun k_ => some k_ ≠ (.slice Ao8 t1614.length co8 : Value).ownBlock ∧ some k_ ≠ (.slice Ao10 t1617.length co10 : Value).ownBlock) (.slice Ao11 t1620.length co11) t1620) := ⟨(by rw [hw]; exact (rl (Kd.R_mono (Kd.R_far (p := ⟨gb1623, 2, none⟩) (Kd.R_far (p := ⟨gb1623, 1, none⟩) (Kd.R_far (p := ⟨gb1623, 0, none⟩) (Kd.R_types HO1622.out BK1623.out (by decide)) (fun _ hk => hk.2) (.slice Ao8 t1614.length co8)) (fun _ hk => hk.2) (.slice Ao10 t1617.length co10)) (fun _ hk => hk.2) (.slice Ao11 t1620.length co11)) (fun _ hk => by first | exact ⟨hk.1.1, hk.1.2⟩ | (simp only [ne_eq] at hk ⊢; simp only [hk, not_false_eq_true, and_self])))))⟩; replace BK1623 : Aside0 (w12.heap[gb1623]? = some (.cells #[.slice Ao8 t1614.length co8, .slice Ao10 t1617.length co10, .slice Ao11 t1620.length co11] 28 (0, 0))) := ⟨(by rw [hw]; exact (kp3 (kf0 BK1623.out)))⟩; replace HB : Aside0 (Below w.heap.size w w12) := ⟨(by rw [hw]; exact (bs1 GE1623.out HB.out))⟩; clear hw; obtain ⟨hcz13_0, hcz13_1, hcz13_2, hfz13_0, hfz13_1, hfz13_2⟩ := cf3 BK1623) | ((with_reducible refine gate_callee (f := 50) rfl ?_); refine gL (some 13) rfl rfl Try.func50 (by kernel_rfl) rfl #[.agg #[.slice Ao8 t1614.length co8, .slice Ao10 t1617.length co10, .slice Ao11 t1620.length co11]] rfl ?_; (with_reducible refine (impl_HeapValid.calls k (fun k_ => some k_ = (.slice Ao8 t1614.length co8 : Value).ownBlock) _ _ t1614 (fun k_ => some k_ = (.slice Ao10 t1617.length co10 : Value).ownBlock) _ _ t1617 (fun k_ => some k_ = (.slice Ao11 t1620.length co11 : Value).ownBlock) _ _ t1620 t1624 _ ?side1 ?side2 ?side3 A4.out).mono ?_); (case side1 => exact Kd.R_V (Kd.R_tight rfl (Kd.R_types (HO1616.out) BK1623.out (by decide)))); (case side2 => exact Kd.R_V (Kd.R_tight rfl (Kd.R_types (HO1619.out) BK1623.out (by decide)))); (case side3 => exact Kd.R_V (Kd.R_tight rfl (Kd.R_types (HO1622.out) BK1623.out (by decide)))); rintro e w14 ⟨rfl, hb⟩; refine ⟨_, rfl, ?_⟩; replace HO1616 := rb HO1616 hb; replace HO1619 := rb HO1619 hb; replace HO1622 := rb HO1622 hb; replace BK1623 := bb BK1623 hb; replace HB := am (below_step (bs1 GE1623.out HB.out) hb); (try clear hb)))
  (try simp only [Act.put, List.setIfInBounds_toArray, List.set_cons_zero, List.set_cons_succ])
  go_cut [21] (fun v21 wc => ∃ (kq : Nat) (x21_4 : Bool), v21 = .bool x21_4 ∧ Aside0 (laws_FnHeapValid.j0 kq t1624 x21_4 t1614 t1617 t1620 = some r) ∧ Aside0 (kq ≤ k) ∧ Aside0 (Kd.R (Kd.int .i64) 3 wc w.heap.size (fun k_ => some k_ ≠ ((.slice Ao10 t1617.length co10) : Value).ownBlock ∧ some k_ ≠ ((.slice Ao11 t1620.length co11) : Value).ownBlock) (.slice Ao8 t1614.length co8) t1614) ∧ Aside0 (Kd.R (Kd.int .i64) 3 wc w.heap.size (fun k_ => some k_ ≠ ((.slice Ao8 t1614.length co8) : Value).ownBlock ∧ some k_ ≠ ((.slice Ao11 t1620.length co11) : Value).ownBlock) (.slice Ao10 t1617.length co10) t1617) ∧ Aside0 (Kd.R (Kd.int .i64) 3 wc w.heap.size (fun k_ => some k_ ≠ ((.slice Ao8 t1614.length co8) : Value).ownBlock ∧ some k_ ≠ ((.slice Ao10 t1617.length co10) : Value).ownBlock) (.slice Ao11 t1620.length co11) t1620) ∧ Aside0 (wc.heap[gb1623]? = some (.cells #[(.slice Ao8 t1614.length co8), (.slice Ao10 t1617.length co10), (.slice Ao11 t1620.length co11)] 28 (0, 0))) ∧ Aside0 (Below w.heap.size w wc))
  case first =>
   have H := HC5.out
   clear HC5
   replace H := Option.bind_eq_some_iff.mp H
   obtain ⟨t1625, A150, H⟩ := H
   replace H : (if (t1624 != t1625) = true then (laws_FnHeapValid.j0 k t1624 true t1614 t1617 t1620) else (laws_FnHeapValid.j0 k t1624 (!t1624) t1614 t1617 t1620)) = some r := H
   have A15 := am A150
   clear A150
   by_cases c16 : (t1624 != t1625) = true
   ·rw [if_pos c16] at H
    have c16b0 : (t1624 != t1625) = true := c16
    (try (have c16b1 : decide (t1624 = t1625) = false := by simpa using c16))
    (try (have c16b2 : (t1624 == t1625) = false := by simpa using c16))
    (try (have c16b3 : ¬ (t1624 = t1625) := by simpa using c16))
    clear c16
    (first | rw [c16b0] | (simp only [i64_w, i32_w]; rw [c16b0]) | skip)
    have H' := am H
    clear H
    obtain ⟨hcz17_0, hcz17_1, hcz17_2, hfz17_0, hfz17_1, hfz17_2⟩ := cf3 BK1623
    go_wp2_with (first | ((with_reducible refine gate_callee (f := 51) rfl ?_); refine gL (some 16) rfl rfl Try.func51 (by kernel_rfl) rfl #[.agg #[.slice Ao8 t1614.length co8, .slice Ao10 t1617.length co10, .slice Ao11 t1620.length co11]] rfl ?_; (with_reducible refine (spec_HeapValid.calls k _ _ t1614 _ _ t1617 _ _ t1620 t1625 _ ?side1 ?side2 ?side3 ?side4 ?side5 ?side6 A15.out).mono ?_); (case side1 => exact cl ((Kd.R_reads' HO1616.out).2.2)); (case side2 => exact sc HO1616); (case side3 => exact cl ((Kd.R_reads' HO1619.out).2.2)); (case side4 => exact sc HO1619); (case side5 => exact cl ((Kd.R_reads' HO1622.out).2.2)); (case side6 => exact sc HO1622); rintro e w18 ⟨rfl, hb⟩; refine ⟨_, rfl, ?_⟩; replace HO1616 := rb HO1616 hb; replace HO1619 := rb HO1619 hb; replace HO1622 := rb HO1622 hb; replace BK1623 := bb BK1623 hb; replace HB := am (below_step (bs1 GE1623.out HB.out) hb); (try clear hb)))
    go_meet
    case rel => exact ⟨_, (true), (by first | rfl | (simp; done) | (simp [*]; done)), H', ⟨by first | omega | exact Nat.le_refl _⟩, ⟨rl HO1616.out⟩, ⟨rl HO1619.out⟩, ⟨rl HO1622.out⟩, ⟨kl BK1623.out⟩, ⟨by exact bs1 GE1623.out HB.out⟩⟩
   ·rw [if_neg c16] at H
    have c16b0 : (t1624 != t1625) = false := by simpa using c16
    (try (have c16b1 : decide (t1624 = t1625) = true := by simpa using c16))
    (try (have c16b2 : (t1624 == t1625) = true := by simpa using c16))
    clear c16
    (first | rw [c16b0] | (simp only [i64_w, i32_w]; rw [c16b0]) | skip)
    have H' := am H
    clear H
    obtain ⟨hcz19_0, hcz19_1, hcz19_2, hfz19_0, hfz19_1, hfz19_2⟩ := cf3 BK1623
    go_wp2_with (first | ((with_reducible refine gate_callee (f := 51) rfl ?_); refine gL (some 16) rfl rfl Try.func51 (by kernel_rfl) rfl #[.agg #[.slice Ao8 t1614.length co8, .slice Ao10 t1617.length co10, .slice Ao11 t1620.length co11]] rfl ?_; (with_reducible refine (spec_HeapValid.calls k _ _ t1614 _ _ t1617 _ _ t1620 t1625 _ ?side1 ?side2 ?side3 ?side4 ?side5 ?side6 A15.out).mono ?_); (case side1 => exact cl ((Kd.R_reads' HO1616.out).2.2)); (case side2 => exact sc HO1616); (case side3 => exact cl ((Kd.R_reads' HO1619.out).2.2)); (case side4 => exact sc HO1619); (case side5 => exact cl ((Kd.R_reads' HO1622.out).2.2)); (case side6 => exact sc HO1622); rintro e w20 ⟨rfl, hb⟩; refine ⟨_, rfl, ?_⟩; replace HO1616 := rb HO1616 hb; replace HO1619 := rb HO1619 hb; replace HO1622 := rb HO1622 hb; replace BK1623 := bb BK1623 hb; replace HB := am (below_step (bs1 GE1623.out HB.out) hb); (try clear hb)))
    go_meet
    case rel => exact ⟨_, (!t1624), (by first | rfl | (simp; done) | (simp [*]; done)), H', ⟨by first | omega | exact Nat.le_refl _⟩, ⟨rl HO1616.out⟩, ⟨rl HO1619.out⟩, ⟨rl HO1622.out⟩, ⟨kl BK1623.out⟩, ⟨by exact bs1 GE1623.out HB.out⟩⟩
  case rest =>
   clear HC5
   try clear c1
   try clear c2
   try clear c2b0
   try clear c2b1
   try clear p2
   try clear c4
   try clear c5
   try clear c16
   try clear c16b0
   try clear c16b1
   try clear c16b2
   obtain ⟨kq, x21_4, rfl, HA, HJ4, HO_1624000, HO_1624001, HO_1624002, BK1623, HB⟩ := hcut
   cases kq with
   | zero => exact absurd HA.out (by simp [laws_FnHeapValid.j0])
   | succ kj4 =>
    have H := HA.out
    clear HA
    simp only [laws_FnHeapValid.j0] at H
    by_cases c21 : x21_4 = true
    ·subst c21
     have H1 : ((spec_HeapValid.f kj4 t1614 t1617 t1620).bind fun t1626 => (some (t1624 == t1626))) = some r := by rw [if_pos rfl] at H; exact H
     clear H
     have H := H1
     clear H1
     replace H := Option.bind_eq_some_iff.mp H
     obtain ⟨t1626, A220, H⟩ := H
     replace H : (some (t1624 == t1626)) = some r := H
     have A22 := am A220
     clear A220
     obtain rfl := Option.some.inj H
     obtain ⟨hcz23_0, hcz23_1, hcz23_2, hfz23_0, hfz23_1, hfz23_2⟩ := cf3 BK1623
     go_wp2_with (first | ((with_reducible refine gate_callee (f := 51) rfl ?_); refine gL (some 24) rfl rfl Try.func51 (by kernel_rfl) rfl #[.agg #[.slice Ao8 t1614.length co8, .slice Ao10 t1617.length co10, .slice Ao11 t1620.length co11]] rfl ?_; (with_reducible refine (spec_HeapValid.calls kj4 _ _ t1614 _ _ t1617 _ _ t1620 t1626 _ ?side1 ?side2 ?side3 ?side4 ?side5 ?side6 A22.out).mono ?_); (case side1 => exact cl ((Kd.R_reads' HO_1624000.out).2.2)); (case side2 => exact sc HO_1624000); (case side3 => exact cl ((Kd.R_reads' HO_1624001.out).2.2)); (case side4 => exact sc HO_1624001); (case side5 => exact cl ((Kd.R_reads' HO_1624002.out).2.2)); (case side6 => exact sc HO_1624002); rintro e w24 ⟨rfl, hb⟩; refine ⟨_, rfl, ?_⟩; replace HO_1624000 := rb HO_1624000 hb; replace HO_1624001 := rb HO_1624001 hb; replace HO_1624002 := rb HO_1624002 hb; replace BK1623 := bb BK1623 hb; replace HB := am (below_step (bs1 GE1623.out HB.out) hb); (try clear hb)))
     go_ret
     exact ⟨by first | rfl | (simp [errW_none, errW_some] <;> rfl) | (simp [*, errW_none, errW_some] <;> rfl), by exact bs1 GE1623.out HB.out⟩
    ·replace c21 := Bool.eq_false_iff.mpr c21
     subst c21
     have H1 : ((some (([(t1614.length : Int)] : List Int) : List Int)).bind fun y1628 => (if 1 ≤ (t1614.length : Int) then ((some (t1614.drop 1 : List Int)).bind fun y1631 => (if y1628.length + y1631.length < 17592186044416 then ((impl_HeapValid.f kj4 (y1628 ++ y1631) t1617 t1620).bind fun t1642 => (if t1642 = true then (none) else ((impl_HeapValid.f kj4 t1614 t1617 (([] : List Int))).bind fun t1643 => (some (!t1643))))) else (none))) else (none))) = some r := by rw [if_neg (show ¬ (false = true) by decide)] at H; exact H
     clear H
     have H := H1
     clear H1
     obtain ⟨y1628, hy1628⟩ : ∃ y_ : List Int, y_ = (([(t1614.length : Int)] : List Int)) := ⟨_, rfl⟩
     replace H : (if 1 ≤ (t1614.length : Int) then ((some (t1614.drop 1 : List Int)).bind fun y1631 => (if y1628.length + y1631.length < 17592186044416 then ((impl_HeapValid.f kj4 (y1628 ++ y1631) t1617 t1620).bind fun t1642 => (if t1642 = true then (none) else ((impl_HeapValid.f kj4 t1614 t1617 (([] : List Int))).bind fun t1643 => (some (!t1643))))) else (none))) else (none)) = some r := by first | (rw [hy1628]; with_reducible exact H) | (have H2_ := (Option.bind_some _ _).symm.trans H; rw [hy1628]; with_reducible exact H2_) | (have H2_ := (Option.bind_some _ _).symm.trans H; with_reducible exact H2_) | with_reducible exact H | (rw [hy1628]; exact H) | exact H
     have Ny1628 := am hy1628
     clear hy1628
     by_cases c25 : 1 ≤ (t1614.length : Int)
     ·rw [if_pos c25] at H
      have c25b0 := eq_true c25
      have c25b1 : decide (1 ≤ (t1614.length : Int)) = true := decide_eq_true c25
      clear c25
      obtain ⟨y1631, hy1631⟩ : ∃ y_ : List Int, y_ = (t1614.drop 1) := ⟨_, rfl⟩
      replace H : (if y1628.length + y1631.length < 17592186044416 then ((impl_HeapValid.f kj4 (y1628 ++ y1631) t1617 t1620).bind fun t1642 => (if t1642 = true then (none) else ((impl_HeapValid.f kj4 t1614 t1617 (([] : List Int))).bind fun t1643 => (some (!t1643))))) else (none)) = some r := by first | (rw [hy1631]; with_reducible exact H) | (have H2_ := (Option.bind_some _ _).symm.trans H; rw [hy1631]; with_reducible exact H2_) | (have H2_ := (Option.bind_some _ _).symm.trans H; with_reducible exact H2_) | with_reducible exact H | (rw [hy1631]; exact H) | exact H
      have Ny1631 := am hy1631
      clear hy1631
      by_cases c26 : y1628.length + y1631.length < 17592186044416
      ·rw [if_pos c26] at H
       have LMc26 := am c26
       clear c26
       obtain ⟨y1635, hy1635⟩ : ∃ y_ : List Int, y_ = (y1628 ++ y1631) := ⟨_, rfl⟩
       replace H : ((impl_HeapValid.f kj4 y1635 t1617 t1620).bind fun t1642 => (if t1642 = true then (none) else ((impl_HeapValid.f kj4 t1614 t1617 (([] : List Int))).bind fun t1643 => (some (!t1643))))) = some r := by first | (rw [hy1635]; with_reducible exact H) | (have H2_ := (Option.bind_some _ _).symm.trans H; rw [hy1635]; with_reducible exact H2_) | (have H2_ := (Option.bind_some _ _).symm.trans H; with_reducible exact H2_) | with_reducible exact H | (rw [hy1635]; exact H) | exact H
       have Ny1635 := am hy1635
       clear hy1635
       obtain ⟨y1639, hy1639⟩ : ∃ y_ : List Int, y_ = (([] : List Int)) := ⟨_, rfl⟩
       replace H : ((impl_HeapValid.f kj4 y1635 t1617 t1620).bind fun t1642 => (if t1642 = true then (none) else ((impl_HeapValid.f kj4 t1614 t1617 y1639).bind fun t1643 => (some (!t1643))))) = some r := by first | (rw [hy1639]; with_reducible exact H) | (have H2_ := (Option.bind_some _ _).symm.trans H; rw [hy1639]; with_reducible exact H2_) | (have H2_ := (Option.bind_some _ _).symm.trans H; with_reducible exact H2_) | with_reducible exact H | (rw [hy1639]; exact H) | exact H
       have Ny1639 := am hy1639
       clear hy1639
       replace H := Option.bind_eq_some_iff.mp H
       obtain ⟨t1642, A270, H⟩ := H
       replace H : (if t1642 = true then (none) else ((impl_HeapValid.f kj4 t1614 t1617 y1639).bind fun t1643 => (some (!t1643)))) = some r := H
       have A27 := am A270
       clear A270
       by_cases c28 : t1642 = true
       ·subst c28
        have H1 : (none) = some r := by rw [if_pos rfl] at H; exact H
        clear H
        have H := H1
        clear H1
        exact absurd H (by simp)
       ·replace c28 := Bool.eq_false_iff.mpr c28
        subst c28
        have H1 : ((impl_HeapValid.f kj4 t1614 t1617 y1639).bind fun t1643 => (some (!t1643))) = some r := by rw [if_neg (show ¬ (false = true) by decide)] at H; exact H
        clear H
        have H := H1
        clear H1
        replace H := Option.bind_eq_some_iff.mp H
        obtain ⟨t1643, A290, H⟩ := H
        replace H : (some (!t1643)) = some r := H
        have A29 := am A290
        clear A290
        obtain rfl := Option.some.inj H
        obtain ⟨hcz30_0, hcz30_1, hcz30_2, hfz30_0, hfz30_1, hfz30_2⟩ := cf3 BK1623
        try go_wp2_with (first | ((with_reducible refine gate_dst (N := 5) rfl ?_); refine box_event ?hg (N := 5) ?hd (cs := #[.slice none 0 0, .slice none 0 0, .slice none 0 0]) (t := 28) ?hr ?_; (case hd => rfl); (case hg => rfl); (case hr => first | (go_simp; done) | (go_simp; rfl)); intro gb1627 hg w31 hbox hb; replace HO_1624000 := rb HO_1624000 hb; replace HO_1624001 := rb HO_1624001 hb; replace HO_1624002 := rb HO_1624002 hb; have BK1627 := am (hbox); have GW1627 := am ((by rw [hg]; exact (below_size (bs1 GE1623.out HB.out)) : w.heap.size ≤ gb1627)); have GE1627 := am ((by rw [hg]; exact (below_size (bs1 GE1623.out HB.out)) : w.heap.size ≤ gb1627)); replace HB := am (below_step (bs1 GE1623.out HB.out) hb); have NB1623_1627 := nb BK1623 hg; have NB1627_1623 := nc BK1623 hg; replace BK1623 := bb BK1623 hb; clear hb hbox hg; have hnb32 := NB1627_1623.out; have hnc32 := NB1623_1627.out; obtain ⟨hcz33_0, hcz33_1, hcz33_2, hfz33_0, hfz33_1, hfz33_2⟩ := cf3 BK1627))
        have n0_ : Aside0 (Kd.R (Kd.int .i64) 3 (((w31.setCell ⟨gb1627, 0, none⟩ (.slice Ao8 t1614.length co8)).setCell ⟨gb1627, 1, none⟩ (.slice Ao10 t1617.length co10)).setCell ⟨gb1627, 2, none⟩ (.slice Ao11 t1620.length co11)) w.heap.size (fun k_ => some k_ ≠ (.slice Ao10 t1617.length co10 : Value).ownBlock ∧ some k_ ≠ (.slice Ao11 t1620.length co11 : Value).ownBlock) (.slice Ao8 t1614.length co8) t1614) := ⟨rl (Kd.R_mono (Kd.R_far (p := ⟨gb1627, 2, none⟩) (Kd.R_far (p := ⟨gb1627, 1, none⟩) (Kd.R_far (p := ⟨gb1627, 0, none⟩) (Kd.R_types HO_1624000.out BK1627.out (by decide)) (fun _ hk => hk.2) (.slice Ao8 t1614.length co8)) (fun _ hk => hk.2) (.slice Ao10 t1617.length co10)) (fun _ hk => hk.2) (.slice Ao11 t1620.length co11)) (fun _ hk => by first | exact ⟨hk.1.1, hk.1.2⟩ | (simp only [ne_eq] at hk ⊢; simp only [hk, not_false_eq_true, and_self])))⟩
        have n1_ : Aside0 (Kd.R (Kd.int .i64) 3 (((w31.setCell ⟨gb1627, 0, none⟩ (.slice Ao8 t1614.length co8)).setCell ⟨gb1627, 1, none⟩ (.slice Ao10 t1617.length co10)).setCell ⟨gb1627, 2, none⟩ (.slice Ao11 t1620.length co11)) w.heap.size (fun k_ => some k_ ≠ (.slice Ao8 t1614.length co8 : Value).ownBlock ∧ some k_ ≠ (.slice Ao11 t1620.length co11 : Value).ownBlock) (.slice Ao10 t1617.length co10) t1617) := ⟨rl (Kd.R_mono (Kd.R_far (p := ⟨gb1627, 2, none⟩) (Kd.R_far (p := ⟨gb1627, 1, none⟩) (Kd.R_far (p := ⟨gb1627, 0, none⟩) (Kd.R_types HO_1624001.out BK1627.out (by decide)) (fun _ hk => hk.2) (.slice Ao8 t1614.length co8)) (fun _ hk => hk.2) (.slice Ao10 t1617.length co10)) (fun _ hk => hk.2) (.slice Ao11 t1620.length co11)) (fun _ hk => by first | exact ⟨hk.1.1, hk.1.2⟩ | (simp only [ne_eq] at hk ⊢; simp only [hk, not_false_eq_true, and_self])))⟩
        have n2_ : Aside0 (Kd.R (Kd.int .i64) 3 (((w31.setCell ⟨gb1627, 0, none⟩ (.slice Ao8 t1614.length co8)).setCell ⟨gb1627, 1, none⟩ (.slice Ao10 t1617.length co10)).setCell ⟨gb1627, 2, none⟩ (.slice Ao11 t1620.length co11)) w.heap.size (fun k_ => some k_ ≠ (.slice Ao8 t1614.length co8 : Value).ownBlock ∧ some k_ ≠ (.slice Ao10 t1617.length co10 : Value).ownBlock) (.slice Ao11 t1620.length co11) t1620) := ⟨rl (Kd.R_mono (Kd.R_far (p := ⟨gb1627, 2, none⟩) (Kd.R_far (p := ⟨gb1627, 1, none⟩) (Kd.R_far (p := ⟨gb1627, 0, none⟩) (Kd.R_types HO_1624002.out BK1627.out (by decide)) (fun _ hk => hk.2) (.slice Ao8 t1614.length co8)) (fun _ hk => hk.2) (.slice Ao10 t1617.length co10)) (fun _ hk => hk.2) (.slice Ao11 t1620.length co11)) (fun _ hk => by first | exact ⟨hk.1.1, hk.1.2⟩ | (simp only [ne_eq] at hk ⊢; simp only [hk, not_false_eq_true, and_self])))⟩
        have n3_ : Aside0 ((((w31.setCell ⟨gb1627, 0, none⟩ (.slice Ao8 t1614.length co8)).setCell ⟨gb1627, 1, none⟩ (.slice Ao10 t1617.length co10)).setCell ⟨gb1627, 2, none⟩ (.slice Ao11 t1620.length co11)).heap[gb1623]? = some (.cells #[.slice Ao8 t1614.length co8, .slice Ao10 t1617.length co10, .slice Ao11 t1620.length co11] 28 (0, 0))) := ⟨kf1 NB1623_1627.out BK1623.out⟩
        have n4_ : Aside0 ((((w31.setCell ⟨gb1627, 0, none⟩ (.slice Ao8 t1614.length co8)).setCell ⟨gb1627, 1, none⟩ (.slice Ao10 t1617.length co10)).setCell ⟨gb1627, 2, none⟩ (.slice Ao11 t1620.length co11)).heap[gb1627]? = some (.cells #[.slice Ao8 t1614.length co8, .slice Ao10 t1617.length co10, .slice Ao11 t1620.length co11] 28 (0, 0))) := ⟨kp3 (kf0 BK1627.out)⟩
        have n5_ : Aside0 (Below w.heap.size w (((w31.setCell ⟨gb1627, 0, none⟩ (.slice Ao8 t1614.length co8)).setCell ⟨gb1627, 1, none⟩ (.slice Ao10 t1617.length co10)).setCell ⟨gb1627, 2, none⟩ (.slice Ao11 t1620.length co11))) := ⟨by exact bs2 GE1623.out GE1627.out HB.out⟩
        (try clear HO_1624000)
        (try clear HO_1624001)
        (try clear HO_1624002)
        (try clear BK1623)
        (try clear BK1627)
        (try clear HB)
        generalize (((w31.setCell ⟨gb1627, 0, none⟩ (.slice Ao8 t1614.length co8)).setCell ⟨gb1627, 1, none⟩ (.slice Ao10 t1617.length co10)).setCell ⟨gb1627, 2, none⟩ (.slice Ao11 t1620.length co11)) = w34 at n0_ n1_ n2_ n3_ n4_ n5_ ⊢
        have HO_1624000 := n0_
        have HO_1624001 := n1_
        have HO_1624002 := n2_
        have BK1623 := n3_
        have BK1627 := n4_
        have HB := n5_
        clear n0_ n1_ n2_ n3_ n4_ n5_
        replace HO_1624000 := am (Kd.R_drew HO_1624000.out)
        replace HO_1624001 := am (Kd.R_drew HO_1624001.out)
        replace HO_1624002 := am (Kd.R_drew HO_1624002.out)
        replace BK1623 := am (blk_drew BK1623.out)
        replace BK1627 := am (blk_drew BK1627.out)
        replace HB := am (below_drew1 HB.out)
        have q36 : (1 : Int) ≤ ((t1614.length : Int) : Int) := of_decide_eq_true (by first | (with_reducible assumption) | assumption)
        obtain ⟨i036, hi036, _, hsz36, _⟩ := info_parts info3
        have hroom36 : t1614.length ≤ co8 := (Kd.R_reads' HO_1624000.out).2.1
        have hC36 : Kd.C (Kd.int .i64) _ Ao8 t1614.length t1614 := (Kd.R_reads' HO_1624000.out).2.2
        have hcut36 := cut_from (P := Try.prog) 22 3 .i64 Try.underlying22 hi036 1 hsz36 Ao8 t1614.length co8 1 (by omega) q36
        have hr36 := Kd.C_drop (m := (1 : Int).toNat) (c := co8) hC36 (by omega) hroom36
        obtain ⟨A36, hA36⟩ : ∃ A1, A1 = (if co8 = (1 : Int).toNat then Ao8 else (Ao8 : Option Addr).map (·.add ((1 : Int).toNat * 1))) := ⟨_, rfl⟩
        obtain ⟨c36, hc36⟩ : ∃ c1, c1 = co8 - (1 : Int).toNat := ⟨_, rfl⟩
        have hy36 : y1631.length = t1614.length - (1 : Int).toNat := (by rw [Ny1631.out, List.length_drop] <;> omega)
        rw [show (t1614).drop (1 : Int).toNat = y1631 from Ny1631.out.symm] at hr36
        replace hr36 : Kd.C (Kd.int .i64) _ A36 y1631.length y1631 := (by rw [hA36]; exact hr36)
        rw [← hy36, ← hA36, ← hc36] at hcut36
        have HR1634 := am hr36
        have HC1634 := am (show y1631.length ≤ c36 from by rw [hy36, hc36]; exact Nat.sub_le_sub_right hroom36 _)
        clear hr36 hC36 hroom36 hi036 hsz36 hc36
        have KY36 := am hy36
        have KA36 := am hA36
        clear hy36 hA36
        have KL36 := am (show 1 ≤ t1614.length from by omega)
        replace q36 := eq_true q36
        refine start_ (n := 10) (S := fun w' => w'.cell? ⟨gb1623, 0, none⟩ = some (.slice Ao8 t1614.length co8) ∧ w'.cell? ⟨gb1623, 1, none⟩ = some (.slice Ao10 t1617.length co10) ∧ w'.cell? ⟨gb1623, 2, none⟩ = some (.slice Ao11 t1620.length co11)) (ds := []) #[false, false, false, false, false, false, false, false, false, false] (by kernel_rfl) rfl rfl ⟨(blk_cell BK1623.out 0).trans rfl, (blk_cell BK1623.out 1).trans rfl, (blk_cell BK1623.out 2).trans rfl⟩ (fun hHeld => ?_); refine with_tabW laws_FnHeapValid.tab8 laws_FnHeapValid.bits8 (fun HT_ HW_ => ?_)
        generalize w34.drew = w35 at HO_1624000 HO_1624001 HO_1624002 BK1623 BK1627 HB HR1634 hHeld ⊢
        refine pure_ (i := 0) (N := some 27) (v := ?_) (a' := ?_) #[true, false, false, false, false, false, false, false, false, false] rfl rfl (any_of HT_.out (by kernel_rfl)) (fun _ _ _ h => h) (Or.inl ⟨by rfl, ?_⟩) ?_ ?_
        rotate_left
        ·intro w'
         go_simp
         with_reducible rfl
        rotate_left
        ·simp only [Act.put, List.setIfInBounds_toArray, List.set_cons_zero, List.set_cons_succ, i64_w, i32_w]
         rfl
        refine pure_ (i := 4) (N := some 31) (v := ?_) (a' := ?_) #[true, false, false, false, true, false, false, false, false, false] rfl rfl (any_of HT_.out (by kernel_rfl)) (fun _ _ _ h => h) (Or.inl ⟨by rfl, ?_⟩) ?_ ?_
        rotate_left
        ·intro w'
         go_simp
         with_reducible rfl
        rotate_left
        ·simp only [Act.put, List.setIfInBounds_toArray, List.set_cons_zero, List.set_cons_succ, i64_w, i32_w]
         rfl
        refine take_ (i := 1) (N := some 28) (v := ?_) (a' := ?_) #[true, true, false, false, true, false, false, false, false, false] rfl rfl (take_ofW HT_.out HW_.out (by kernel_rfl)) (fun _ _ _ h => h) (Or.inl ⟨by rfl, ?_⟩) hHeld ?_ ?_
        rotate_left
        ·rintro w' ⟨s0, s1, s2⟩
         go_simp
         with_reducible rfl
        rotate_left
        ·simp only [Act.put, List.setIfInBounds_toArray, List.set_cons_zero, List.set_cons_succ, i64_w, i32_w]
         rfl
        refine pure_ (i := 2) (N := some 29) (v := ?_) (a' := ?_) #[true, true, true, false, true, false, false, false, false, false] rfl rfl (any_of HT_.out (by kernel_rfl)) (fun _ _ _ h => h) (Or.inl ⟨by rfl, ?_⟩) ?_ ?_
        rotate_left
        ·intro w'
         go_simp
         with_reducible rfl
        rotate_left
        ·simp only [Act.put, List.setIfInBounds_toArray, List.set_cons_zero, List.set_cons_succ, i64_w, i32_w]
         rfl
        refine take_ (i := 5) (N := some 32) (v := ?_) (a' := ?_) #[true, true, true, false, true, true, false, false, false, false] rfl rfl (take_ofW HT_.out HW_.out (by kernel_rfl)) (fun _ _ _ h => h) (Or.inl ⟨by rfl, ?_⟩) hHeld ?_ ?_
        rotate_left
        ·rintro w' ⟨s0, s1, s2⟩
         go_simp
         with_reducible rfl
        rotate_left
        ·simp only [Act.put, List.setIfInBounds_toArray, List.set_cons_zero, List.set_cons_succ, i64_w, i32_w]
         rfl
        refine pure_ (i := 6) (N := some 33) (v := ?_) (a' := ?_) #[true, true, true, false, true, true, true, false, false, false] rfl rfl (any_of HT_.out (by kernel_rfl)) (fun _ _ _ h => h) (Or.inl ⟨by rfl, ?_⟩) ?_ ?_
        rotate_left
        ·intro w'
         go_simp
         with_reducible rfl
        rotate_left
        ·simp only [Act.put, List.setIfInBounds_toArray, List.set_cons_zero, List.set_cons_succ, i64_w, i32_w]
         rfl
        refine one_ (i := 3) (N := some 30) #[true, true, true, true, true, true, true, false, false, false] rfl rfl (one_of HT_.out (by kernel_rfl)) (by decide) (fun K hK => ?_)
        refine Kd.R_lit_step (Kd.int .i64) _ 3 ?hg (N := 30) ?hd (xs := ([(t1614.length : Int)] : List Int)) (inner := [.int .i64 (t1614.length : Int)]) (ok := fun _ => True) (okp := fun _ => True) ?hr ?hp (fun _ hk => hk) trivial (Below.refl _ _) (Nat.le_refl _) (by simp) ?_; (case hd => rfl); (case hg => rfl); (case hr => first | (go_simp; done) | (go_simp; rfl)); (case hp => exact (Reps.one (show Kd.M (Kd.int .i64) _ _ _ (t1614.length : Int) [.int .i64 (t1614.length : Int)] from rfl) (Reps.none _ _)))
        intro v1629 w37 ho38 hb hg_ hnew_
        clear hg_ hnew_
        (first | rw [← Ny1628.out] at ho38 | (simp only [Int.reduceToNat] at ho38; rw [← Ny1628.out] at ho38))
        have HO1630 := ln3 ho38 (rl HO_1624000.out) (rl HO_1624001.out) (rl HO_1624002.out) (bs2 GE1623.out GE1627.out HB.out)
        replace HO_1624000 := am (Kd.R_elder' (rl HO_1624000.out) (Kd.R_base ho38) hb)
        replace HO_1624001 := am (Kd.R_elder' (rl HO_1624001.out) (Kd.R_base ho38) hb)
        replace HO_1624002 := am (Kd.R_elder' (rl HO_1624002.out) (Kd.R_base ho38) hb)
        replace BK1623 := bb BK1623 hb
        replace BK1627 := bb BK1627 hb
        replace HR1634 := am (Kd.C_below (by repeat (first | (with_reducible exact HR1634.out) | (with_reducible refine Kd.C_alloc ?_ _) | (with_reducible refine Kd.C_drewN ?_ _) | (with_reducible refine Kd.C_drew ?_) | exact HR1634.out)) hb)
        replace HB := am (below_step (bs2 GE1623.out GE1627.out HB.out) hb)
        clear hb ho38
        refine hK.out _ _ ⟨(blk_cell BK1623.out 0).trans rfl, (blk_cell BK1623.out 1).trans rfl, (blk_cell BK1623.out 2).trans rfl⟩ (fun hHeld => ?_)
        clear hK K
        refine norm_ (a' := ?_) ?_ ?_
        rotate_left
        ·show Act.put _ (some 30) _ = _
         simp only [Act.put, List.setIfInBounds_toArray, List.set_cons_zero, List.set_cons_succ, i64_w, i32_w]
         rfl
        refine one_ (i := 7) (N := some 34) #[true, true, true, true, true, true, true, true, false, false] rfl rfl (one_of HT_.out (by kernel_rfl)) (by decide) (fun K hK => ?_)
        refine Kd.R_append_rows_step (Kd.int .i64) (w0 := w) w.heap.size (by rfl) (.tmp 30) (.tmp 33) 22 3 (.int .i64 0) 8 rfl Try.underlying22 info3 rfl (by decide) (by omega) v1629 y1628 y1631 _ _ _ (fun k_ => some k_ ≠ (.slice Ao8 t1614.length co8 : Value).ownBlock ∧ some k_ ≠ (.slice Ao10 t1617.length co10 : Value).ownBlock ∧ some k_ ≠ (.slice Ao11 t1620.length co11 : Value).ownBlock) (fun _ => False) rfl rfl ?aO ?aR (fun _ _ h => h) (fun _ h => h.elim) ?aF ?aB ?aS ?aL ?_
        (case aR => repeat (first | exact (by repeat (first | (with_reducible exact HR1634.out) | (with_reducible refine Kd.C_alloc ?_ _) | (with_reducible refine Kd.C_drewN ?_ _) | (with_reducible refine Kd.C_drew ?_) | exact HR1634.out)) | (with_reducible refine Kd.C_alloc ?_ _) | (with_reducible refine Kd.C_drewN ?_ _) | (with_reducible refine Kd.C_drew ?_)))
        (case aB => exact (bs2 GE1623.out GE1627.out HB.out))
        (case aF => exact (fun k_ hk => ⟨Kd.fresh' (Kd.R_lt (rl HO_1624000.out)) k_ hk, Kd.fresh' (Kd.R_lt (rl HO_1624001.out)) k_ hk, Kd.fresh' (Kd.R_lt (rl HO_1624002.out)) k_ hk⟩))
        (case aO => exact (rl (Kd.R_mono HO1630.out (fun _ hk => by first | exact ⟨hk.1.1.2, ⟨hk.1.2, hk.2⟩⟩ | (simp only [ne_eq] at hk ⊢; simp only [hk, not_false_eq_true, and_self])))))
        (case aS => exact (below_size (bs2 GE1623.out GE1627.out HB.out)))
        (case aL => have := LMc26.out; omega)
        intro v1636 w39 ho hb hg hat
        rw [← Ny1635.out] at ho
        replace HO_1624001 := am (Kd.R_after (ok := (fun k_ => some k_ ≠ (.slice Ao8 t1614.length co8 : Value).ownBlock ∧ some k_ ≠ (.slice Ao11 t1620.length co11 : Value).ownBlock)) (rl HO_1624001.out) hg hat)
        replace HO_1624002 := am (Kd.R_after (ok := (fun k_ => some k_ ≠ (.slice Ao8 t1614.length co8 : Value).ownBlock ∧ some k_ ≠ (.slice Ao10 t1617.length co10 : Value).ownBlock)) (rl HO_1624002.out) hg hat)
        replace BK1623 := am (blk_grown (g := gb1623) (o := .cells #[.slice Ao8 t1614.length co8, .slice Ao10 t1617.length co10, .slice Ao11 t1620.length co11] 28 (0, 0)) (kl BK1623.out) hg (Kd.R_ne HO1630.out BK1623.out (by decide)))
        replace BK1627 := am (blk_grown (g := gb1627) (o := .cells #[.slice Ao8 t1614.length co8, .slice Ao10 t1617.length co10, .slice Ao11 t1620.length co11] 28 (0, 0)) (kl BK1627.out) hg (Kd.R_ne HO1630.out BK1627.out (by decide)))
        replace HB := am (hb)
        replace HR1634 := am ((show Kd.C (Kd.int .i64) w39 A36 y1631.length y1631 from by rw [Ny1631.out, KA36.out]; exact Kd.C_drop (m := 1) (c := co8) ((Kd.R_reads' (Kd.R_after (ok := (fun k_ => some k_ ≠ (.slice Ao10 t1617.length co10 : Value).ownBlock ∧ some k_ ≠ (.slice Ao11 t1620.length co11 : Value).ownBlock)) (rl HO_1624000.out) hg hat)).2.2) KL36.out ((Kd.R_reads' (Kd.R_after (ok := (fun k_ => some k_ ≠ (.slice Ao10 t1617.length co10 : Value).ownBlock ∧ some k_ ≠ (.slice Ao11 t1620.length co11 : Value).ownBlock)) (rl HO_1624000.out) hg hat)).2.1)))
        replace HO_1624000 := am (Kd.R_after (ok := (fun k_ => some k_ ≠ (.slice Ao10 t1617.length co10 : Value).ownBlock ∧ some k_ ≠ (.slice Ao11 t1620.length co11 : Value).ownBlock)) (rl HO_1624000.out) hg hat)
        have HO1637 := am (ho)
        clear HO1630
        clear ho hb hg hat
        obtain ⟨Ao40, co40, eo40⟩ := Kd.R_slice HO1637.out
        (first | subst eo40 | (injection eo40 with f1_ f2_ f3_; have f4_ := f1_.symm; have f5_ := f3_.symm; clear f1_ f2_ f3_; subst f4_; subst f5_))
        refine hK.out _ _ ⟨(blk_cell BK1623.out 0).trans rfl, (blk_cell BK1623.out 1).trans rfl, (blk_cell BK1623.out 2).trans rfl⟩ (fun hHeld => ?_)
        clear hK K
        refine norm_ (a' := ?_) ?_ ?_
        rotate_left
        ·show Act.put _ (some 34) _ = _
         simp only [Act.put, List.setIfInBounds_toArray, List.set_cons_zero, List.set_cons_succ, i64_w, i32_w]
         rfl
        refine pure_ (i := 8) (N := some 35) (v := ?_) (a' := ?_) #[true, true, true, true, true, true, true, true, true, false] rfl rfl (any_of HT_.out (by kernel_rfl)) (fun _ _ _ h => h) (Or.inl ⟨by rfl, ?_⟩) ?_ ?_
        rotate_left
        ·intro w'
         go_simp
         with_reducible rfl
        rotate_left
        ·simp only [Act.put, List.setIfInBounds_toArray, List.set_cons_zero, List.set_cons_succ, i64_w, i32_w]
         rfl
        refine one_ (i := 9) (N := none) #[true, true, true, true, true, true, true, true, true, true] rfl rfl (one_of HT_.out (by kernel_rfl)) (by decide) (fun K hK => ?_)
        have hs41 : w39.cell? ⟨gb1627, 0, none⟩ = some (.slice Ao8 t1614.length co8) := (blk_cell BK1627.out 0).trans rfl
        have hfs41 := blk_frozen BK1627.out 0
        have hns41_0 := NB1623_1627.out
        have hms41_0 := NB1627_1623.out
        refine skip_ (w1 := ?_) (by rfl) rfl ?_ ?_
        rotate_left
        ·go_simp
         rfl
        refine hK.out _ _ ⟨((cell_far (p := ⟨gb1627, _, none⟩) NB1623_1627.out _).trans (hHeld.1)), ((cell_far (p := ⟨gb1627, _, none⟩) NB1623_1627.out _).trans (hHeld.2.1)), ((cell_far (p := ⟨gb1627, _, none⟩) NB1623_1627.out _).trans (hHeld.2.2))⟩ (fun hHeld => ?_)
        clear hK K
        refine done_ (done_of HT_.out (by kernel_rfl)) ?_
        obtain ⟨hcz42_0, hcz42_1, hcz42_2, hfz42_0, hfz42_1, hfz42_2⟩ := cf3 BK1623
        try go_wp2_with (first | ((with_reducible refine gate_dst (N := 6) rfl ?_); refine box_event ?hg (N := 6) ?hd (cs := #[.slice none 0 0, .slice none 0 0, .slice none 0 0]) (t := 28) ?hr ?_; (case hd => rfl); (case hg => rfl); (case hr => first | (go_simp; done) | (go_simp; rfl)); intro gb1638 hg w43 hbox hb; replace HO_1624000 := am (Kd.R_below (rg BK1627 HO_1624000) hb); replace HO_1624001 := am (Kd.R_below (rg BK1627 HO_1624001) hb); replace HO_1624002 := am (Kd.R_below (rg BK1627 HO_1624002) hb); replace HO1637 := am (Kd.R_below (rg BK1627 HO1637) hb); have BK1638 := am (hbox); have GW1638 := am ((by rw [hg]; exact (below_size (bs2 GE1623.out GE1627.out HB.out)) : w.heap.size ≤ gb1638)); have GE1638 := am ((by rw [hg]; exact (below_size (bs2 GE1623.out GE1627.out HB.out)) : w.heap.size ≤ gb1638)); replace HB := am (below_step (bs2 GE1623.out GE1627.out HB.out) hb); have NB1623_1638 := am ((by rw [hg]; exact Nat.ne_of_lt (blk_lt (g := gb1623) (o := .cells #[.slice Ao8 t1614.length co8, .slice Ao10 t1617.length co10, .slice Ao11 t1620.length co11] 28 (0, 0)) (kf1 NB1623_1627.out BK1623.out)) : gb1623 ≠ gb1638)); have NB1638_1623 := am ((by rw [hg]; exact Nat.ne_of_gt (blk_lt (g := gb1623) (o := .cells #[.slice Ao8 t1614.length co8, .slice Ao10 t1617.length co10, .slice Ao11 t1620.length co11] 28 (0, 0)) (kf1 NB1623_1627.out BK1623.out)) : gb1638 ≠ gb1623)); replace BK1623 := am (blk_below (g := gb1623) (o := .cells #[.slice Ao8 t1614.length co8, .slice Ao10 t1617.length co10, .slice Ao11 t1620.length co11] 28 (0, 0)) (kf1 NB1623_1627.out BK1623.out) hb); have NB1627_1638 := am ((by rw [hg]; exact Nat.ne_of_lt (blk_lt (g := gb1627) (o := .cells #[.slice Ao40 y1635.length co40, .slice Ao10 t1617.length co10, .slice Ao11 t1620.length co11] 28 (0, 0)) (by (with_reducible repeat (first | refine blk_drewN ?_ _ | refine blk_drew ?_ | refine blk_alloc ?_ _)); refine blk_put (cs := #[.slice Ao8 t1614.length co8, .slice Ao10 t1617.length co10, .slice Ao11 t1620.length co11]) ?_ 0 _ rfl; (with_reducible repeat (first | refine blk_drewN ?_ _ | refine blk_drew ?_ | refine blk_alloc ?_ _)); exact BK1627.out)) : gb1627 ≠ gb1638)); have NB1638_1627 := am ((by rw [hg]; exact Nat.ne_of_gt (blk_lt (g := gb1627) (o := .cells #[.slice Ao40 y1635.length co40, .slice Ao10 t1617.length co10, .slice Ao11 t1620.length co11] 28 (0, 0)) (by (with_reducible repeat (first | refine blk_drewN ?_ _ | refine blk_drew ?_ | refine blk_alloc ?_ _)); refine blk_put (cs := #[.slice Ao8 t1614.length co8, .slice Ao10 t1617.length co10, .slice Ao11 t1620.length co11]) ?_ 0 _ rfl; (with_reducible repeat (first | refine blk_drewN ?_ _ | refine blk_drew ?_ | refine blk_alloc ?_ _)); exact BK1627.out)) : gb1638 ≠ gb1627)); replace BK1627 := am (blk_below (g := gb1627) (o := .cells #[.slice Ao40 y1635.length co40, .slice Ao10 t1617.length co10, .slice Ao11 t1620.length co11] 28 (0, 0)) (by (with_reducible repeat (first | refine blk_drewN ?_ _ | refine blk_drew ?_ | refine blk_alloc ?_ _)); refine blk_put (cs := #[.slice Ao8 t1614.length co8, .slice Ao10 t1617.length co10, .slice Ao11 t1620.length co11]) ?_ 0 _ rfl; (with_reducible repeat (first | refine blk_drewN ?_ _ | refine blk_drew ?_ | refine blk_alloc ?_ _)); exact BK1627.out) hb); clear hb hbox hg; have hnb44 := NB1638_1623.out; have hnc44 := NB1623_1638.out; have hnb45 := NB1638_1627.out; have hnc45 := NB1627_1638.out; obtain ⟨hcz46_0, hcz46_1, hcz46_2, hfz46_0, hfz46_1, hfz46_2⟩ := cf3 BK1638) | ((with_reducible refine gate_dst (N := 37) rfl ?_); refine Kd.R_lit (Kd.int .i64) _ 3 ?hg (N := 37) ?hd (xs := ([] : List Int)) (inner := []) (ok := fun _ => True) (okp := fun _ => True) ?hr ?hp (fun _ hk => hk) trivial (Below.refl _ _) (Nat.le_refl _) (by simp) ?_; (case hd => rfl); (case hg => rfl); (case hr => first | (go_simp; done) | (go_simp; rfl)); (case hp => exact (Reps.none _ _)); intro v1640 w47 ho48 hb hg_ hnew_; clear hg_ hnew_; (first | rw [← Ny1639.out] at ho48 | (simp only [Int.reduceToNat] at ho48; rw [← Ny1639.out] at ho48)); have HO1641 := ln4 ho48 (rg BK1638 HO_1624000) (rg BK1638 HO_1624001) (rg BK1638 HO_1624002) (rg BK1638 HO1637) (bs3 GE1623.out GE1627.out GE1638.out HB.out); replace HO_1624000 := am (Kd.R_elder' (rg BK1638 HO_1624000) (Kd.R_base ho48) hb); replace HO_1624001 := am (Kd.R_elder' (rg BK1638 HO_1624001) (Kd.R_base ho48) hb); replace HO_1624002 := am (Kd.R_elder' (rg BK1638 HO_1624002) (Kd.R_base ho48) hb); replace HO1637 := am (Kd.R_elder' (rg BK1638 HO1637) (Kd.R_base ho48) hb); replace BK1623 := am (blk_below (g := gb1623) (o := .cells #[.slice Ao8 t1614.length co8, .slice Ao10 t1617.length co10, .slice Ao11 t1620.length co11] 28 (0, 0)) (kf1 NB1623_1638.out BK1623.out) hb); replace BK1627 := am (blk_below (g := gb1627) (o := .cells #[.slice Ao40 y1635.length co40, .slice Ao10 t1617.length co10, .slice Ao11 t1620.length co11] 28 (0, 0)) (kf1 NB1627_1638.out BK1627.out) hb); replace BK1638 := bp3 (kf0 BK1638.out) hb; replace HB := am (below_step (bs3 GE1623.out GE1627.out GE1638.out HB.out) hb); clear hb ho48; obtain ⟨Ao49, co49, eo49⟩ := Kd.R_slice HO1641.out; subst eo49; obtain ⟨hcz50_0, hcz50_1, hcz50_2, hfz50_0, hfz50_1, hfz50_2⟩ := cf3 BK1638) | ((with_reducible refine gate_store (t := 22) (p := 38) rfl ?_); refine store_event (t := 22) (p := 38) (v := ?vo_w51) (w1 := (w47.setCell ⟨gb1638, 2, none⟩ (.slice Ao49 y1639.length co49))) ?hg ?ho ?hn ?hr ?_; (case ho => rfl); (case hg => rfl); (case hn => rfl); (case hr => first | (go_simp; done) | (go_simp; rfl)); intro w51 hw; replace HO_1624000 : Aside0 (Kd.R (Kd.int .i64) 3 w51 w.heap.size (fun k_ => some k_ ≠ (.slice Ao10 t1617.length co10 : Value).ownBlock ∧ some k_ ≠ (.slice Ao11 t1620.length co11 : Value).ownBlock ∧ some k_ ≠ (.slice Ao40 y1635.length co40 : Value).ownBlock ∧ some k_ ≠ (.slice Ao49 y1639.length co49 : Value).ownBlock) (.slice Ao8 t1614.length co8) t1614) := ⟨(by rw [hw]; exact (rl (Kd.R_mono (Kd.R_far (p := ⟨gb1638, 2, none⟩) (Kd.R_types HO_1624000.out BK1638.out (by decide)) (fun _ hk => hk.2) (.slice Ao49 y1639.length co49)) (fun _ hk => by first | exact ⟨hk.1.1.1.1, ⟨hk.1.1.1.2, ⟨hk.1.1.2, hk.1.2⟩⟩⟩ | (simp only [ne_eq] at hk ⊢; simp only [hk, not_false_eq_true, and_self])))))⟩; replace HO_1624001 : Aside0 (Kd.R (Kd.int .i64) 3 w51 w.heap.size (fun k_ => some k_ ≠ (.slice Ao8 t1614.length co8 : Value).ownBlock ∧ some k_ ≠ (.slice Ao11 t1620.length co11 : Value).ownBlock ∧ some k_ ≠ (.slice Ao40 y1635.length co40 : Value).ownBlock ∧ some k_ ≠ (.slice Ao49 y1639.length co49 : Value).ownBlock) (.slice Ao10 t1617.length co10) t1617) := ⟨(by rw [hw]; exact (rl (Kd.R_mono (Kd.R_far (p := ⟨gb1638, 2, none⟩) (Kd.R_types HO_1624001.out BK1638.out (by decide)) (fun _ hk => hk.2) (.slice Ao49 y1639.length co49)) (fun _ hk => by first | exact ⟨hk.1.1.1.1, ⟨hk.1.1.1.2, ⟨hk.1.1.2, hk.1.2⟩⟩⟩ | (simp only [ne_eq] at hk ⊢; simp only [hk, not_false_eq_true, and_self])))))⟩; replace HO_1624002 : Aside0 (Kd.R (Kd.int .i64) 3 w51 w.heap.size (fun k_ => some k_ ≠ (.slice Ao8 t1614.length co8 : Value).ownBlock ∧ some k_ ≠ (.slice Ao10 t1617.length co10 : Value).ownBlock ∧ some k_ ≠ (.slice Ao40 y1635.length co40 : Value).ownBlock ∧ some k_ ≠ (.slice Ao49 y1639.length co49 : Value).ownBlock) (.slice Ao11 t1620.length co11) t1620) := ⟨(by rw [hw]; exact (rl (Kd.R_mono (Kd.R_far (p := ⟨gb1638, 2, none⟩) (Kd.R_types HO_1624002.out BK1638.out (by decide)) (fun _ hk => hk.2) (.slice Ao49 y1639.length co49)) (fun _ hk => by first | exact ⟨hk.1.1.1.1, ⟨hk.1.1.1.2, ⟨hk.1.1.2, hk.1.2⟩⟩⟩ | (simp only [ne_eq] at hk ⊢; simp only [hk, not_false_eq_true, and_self])))))⟩; replace HO1637 : Aside0 (Kd.R (Kd.int .i64) 3 w51 w.heap.size (fun k_ => some k_ ≠ (.slice Ao8 t1614.length co8 : Value).ownBlock ∧ some k_ ≠ (.slice Ao10 t1617.length co10 : Value).ownBlock ∧ some k_ ≠ (.slice Ao11 t1620.length co11 : Value).ownBlock ∧ some k_ ≠ (.slice Ao49 y1639.length co49 : Value).ownBlock) (.slice Ao40 y1635.length co40) y1635) := ⟨(by rw [hw]; exact (rl (Kd.R_mono (Kd.R_far (p := ⟨gb1638, 2, none⟩) (Kd.R_types HO1637.out BK1638.out (by decide)) (fun _ hk => hk.2) (.slice Ao49 y1639.length co49)) (fun _ hk => by first | exact ⟨hk.1.1.1, ⟨hk.1.1.2.1, ⟨hk.1.1.2.2, hk.1.2⟩⟩⟩ | (simp only [ne_eq] at hk ⊢; simp only [hk, not_false_eq_true, and_self])))))⟩; replace HO1641 : Aside0 (Kd.R (Kd.int .i64) 3 w51 w.heap.size (fun k_ => some k_ ≠ (.slice Ao8 t1614.length co8 : Value).ownBlock ∧ some k_ ≠ (.slice Ao10 t1617.length co10 : Value).ownBlock ∧ some k_ ≠ (.slice Ao11 t1620.length co11 : Value).ownBlock ∧ some k_ ≠ (.slice Ao40 y1635.length co40 : Value).ownBlock) (.slice Ao49 y1639.length co49) y1639) := ⟨(by rw [hw]; exact (rl (Kd.R_mono (Kd.R_far (p := ⟨gb1638, 2, none⟩) (Kd.R_types HO1641.out BK1638.out (by decide)) (fun _ hk => hk.2) (.slice Ao49 y1639.length co49)) (fun _ hk => by first | exact ⟨hk.1.1.1.1.2, ⟨hk.1.1.1.2, ⟨hk.1.1.2, hk.1.2⟩⟩⟩ | (simp only [ne_eq] at hk ⊢; simp only [hk, not_false_eq_true, and_self])))))⟩; replace BK1623 : Aside0 (w51.heap[gb1623]? = some (.cells #[.slice Ao8 t1614.length co8, .slice Ao10 t1617.length co10, .slice Ao11 t1620.length co11] 28 (0, 0))) := ⟨(by rw [hw]; exact (kf1 NB1623_1638.out BK1623.out))⟩; replace BK1627 : Aside0 (w51.heap[gb1627]? = some (.cells #[.slice Ao40 y1635.length co40, .slice Ao10 t1617.length co10, .slice Ao11 t1620.length co11] 28 (0, 0))) := ⟨(by rw [hw]; exact (kf1 NB1627_1638.out BK1627.out))⟩; replace BK1638 : Aside0 (w51.heap[gb1638]? = some (.cells #[.slice Ao8 t1614.length co8, .slice Ao10 t1617.length co10, .slice Ao49 y1639.length co49] 28 (0, 0))) := ⟨(by rw [hw]; exact (by (with_reducible repeat (first | refine blk_drewN ?_ _ | refine blk_drew ?_ | refine blk_alloc ?_ _)); refine blk_put (cs := #[.slice Ao8 t1614.length co8, .slice Ao10 t1617.length co10, .slice Ao11 t1620.length co11]) ?_ 2 _ rfl; (with_reducible repeat (first | refine blk_drewN ?_ _ | refine blk_drew ?_ | refine blk_alloc ?_ _)); exact BK1638.out))⟩; replace HB : Aside0 (Below w.heap.size w w51) := ⟨(by rw [hw]; exact (bs3 GE1623.out GE1627.out GE1638.out HB.out))⟩; clear hw; obtain ⟨hcz52_0, hcz52_1, hcz52_2, hfz52_0, hfz52_1, hfz52_2⟩ := cf3 BK1627) | ((with_reducible refine gate_callee (f := 50) rfl ?_); refine gL (some 40) rfl rfl Try.func50 (by kernel_rfl) rfl #[.agg #[.slice Ao40 y1635.length co40, .slice Ao10 t1617.length co10, .slice Ao11 t1620.length co11]] rfl ?_; (with_reducible refine (impl_HeapValid.calls kj4 (fun k_ => some k_ = (.slice Ao40 y1635.length co40 : Value).ownBlock) _ _ y1635 (fun k_ => some k_ = (.slice Ao10 t1617.length co10 : Value).ownBlock) _ _ t1617 (fun k_ => some k_ = (.slice Ao11 t1620.length co11 : Value).ownBlock) _ _ t1620 false _ ?side1 ?side2 ?side3 A27.out).mono ?_); (case side1 => exact Kd.R_V (Kd.R_tight rfl (Kd.R_types (Kd.R_types (Kd.R_types (HO1637.out) BK1623.out (by decide)) BK1627.out (by decide)) BK1638.out (by decide)))); (case side2 => exact Kd.R_V (Kd.R_tight rfl (Kd.R_types (Kd.R_types (Kd.R_types (HO_1624001.out) BK1623.out (by decide)) BK1627.out (by decide)) BK1638.out (by decide)))); (case side3 => exact Kd.R_V (Kd.R_tight rfl (Kd.R_types (Kd.R_types (Kd.R_types (HO_1624002.out) BK1623.out (by decide)) BK1627.out (by decide)) BK1638.out (by decide)))); rintro e w53 ⟨rfl, hb⟩; refine ⟨_, rfl, ?_⟩; replace HO_1624000 := rb HO_1624000 hb; replace HO_1624001 := rb HO_1624001 hb; replace HO_1624002 := rb HO_1624002 hb; replace HO1637 := rb HO1637 hb; replace HO1641 := rb HO1641 hb; replace BK1623 := bb BK1623 hb; replace BK1627 := bb BK1627 hb; replace BK1638 := bb BK1638 hb; replace HB := am (below_step (bs3 GE1623.out GE1627.out GE1638.out HB.out) hb); (try clear hb); obtain ⟨hcz54_0, hcz54_1, hcz54_2, hfz54_0, hfz54_1, hfz54_2⟩ := cf3 BK1638) | (go_at_call 50; (with_reducible refine (impl_HeapValid.calls kj4 (fun k_ => some k_ = (.slice Ao8 t1614.length co8 : Value).ownBlock) _ _ t1614 (fun k_ => some k_ = (.slice Ao10 t1617.length co10 : Value).ownBlock) _ _ t1617 (fun k_ => some k_ = (.slice Ao49 y1639.length co49 : Value).ownBlock) _ _ y1639 t1643 _ ?side1 ?side2 ?side3 A29.out).mono ?_); (case side1 => exact Kd.R_V (Kd.R_tight rfl (Kd.R_types (Kd.R_types (Kd.R_types (HO_1624000.out) BK1623.out (by decide)) BK1627.out (by decide)) BK1638.out (by decide)))); (case side2 => exact Kd.R_V (Kd.R_tight rfl (Kd.R_types (Kd.R_types (Kd.R_types (HO_1624001.out) BK1623.out (by decide)) BK1627.out (by decide)) BK1638.out (by decide)))); (case side3 => exact Kd.R_V (Kd.R_tight rfl (Kd.R_types (Kd.R_types (Kd.R_types (HO1641.out) BK1623.out (by decide)) BK1627.out (by decide)) BK1638.out (by decide)))); rintro e w55 ⟨rfl, hb⟩; replace HO_1624000 := rb HO_1624000 hb; replace HO_1624001 := rb HO_1624001 hb; replace HO_1624002 := rb HO_1624002 hb; replace HO1637 := rb HO1637 hb; replace HO1641 := rb HO1641 hb; replace BK1623 := bb BK1623 hb; replace BK1627 := bb BK1627 hb; replace BK1638 := bb BK1638 hb; replace HB := am (below_step (bs3 GE1623.out GE1627.out GE1638.out HB.out) hb); (try clear hb)))
        go_ret
        exact ⟨by first | rfl | (simp [errW_none, errW_some] <;> rfl) | (simp [*, errW_none, errW_some] <;> rfl), by exact bs3 GE1623.out GE1627.out GE1638.out HB.out⟩
      ·rw [if_neg c26] at H
       exact absurd H (by simp)
     ·rw [if_neg c25] at H
      exact absurd H (by simp)

/-- THE ONE PURE STATEMENT of laws_FnHeapValid: yours. -/
def laws_FnHeapValid.Pure : Prop := ∀ (l0 : List Int), l0.length ≤ maxLen → l0.length * 1 ≤ 140737488351232 → (∀ x ∈ l0, (Lit.int .u8 x).wf = true) → ∃ k, laws_FnHeapValid.f k l0 = some true
theorem laws_FnHeapValid.walk (P : laws_FnHeapValid.Pure) (a0 : Option Addr) (len0 cap0 : Nat) (z0 : List Int) (w : World) (w0 : (a0 = none ∧ len0 = 0 ∧ cap0 = 0 ∧ z0 = []) ∨ ∃ x, a0 = some x ∧ len0 ≤ cap0 ∧ cap0 ≤ maxLen ∧ z0.length = cap0 ∧ (∀ i, i < z0.length → w.cell? (x.add i) = some (.int .u8 (z0.getD i 0))) ∧ ∀ n ∈ z0, (Lit.int .u8 n).wf = true) (y0 : len0 * 1 ≤ 140737488351232) :
  Calls Try.prog 16 #[.slice a0 len0 cap0] w fun e w' => e = .returned (.bool true) ∧ Below w.heap.size w w' := by
 obtain ⟨l0, rfl, hr0, hm0, hw0, hc0⟩ := ReadsInt.ofRowC w0
 obtain ⟨k, h⟩ := P l0 hm0 y0 hw0
 refine (laws_FnHeapValid.calls k _ _ l0 true w (Kd.C_of_reads (d := (0 : Int)) (h1 := fun _ => rfl) hr0) hc0 h).mono ?_
 rintro e w' ⟨rfl, hd⟩
 exact ⟨rfl, hd⟩

end Go.Proofs.Ytkbaggfkidalfaa.A
