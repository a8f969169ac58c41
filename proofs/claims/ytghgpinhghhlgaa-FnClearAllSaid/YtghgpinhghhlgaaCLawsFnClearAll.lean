/- Contracts of functions of the given program (CLawsFnClearAll). No conditions beyond those stated. -/
import Derived.Test.YtghgpinhghhlgaaA0
import Derived.Test.YtghgpinhghhlgaaAImplCountPointers
import Derived.Test.YtghgpinhghhlgaaAImplHeapSame
import Derived.Test.YtghgpinhghhlgaaAImplHeapValid
import Derived.Test.YtghgpinhghhlgaaAImplNewHeap
import Derived.Test.YtghgpinhghhlgaaAImplPutLeft
import Derived.Test.YtghgpinhghhlgaaAImplPutRight
import Derived.Test.YtghgpinhghhlgaaAImplPutRoot
import Derived.Test.YtghgpinhghhlgaaASpecCountPointers
import Derived.Test.YtghgpinhghhlgaaASpecDrawCountPointers
import Derived.Test.YtghgpinhghhlgaaA0
namespace Go.Proofs.Ytghgpinhghhlgaa.A
open Go.RowKit Go.Proofs.YtghgpinhghhlgaaW.PrintWords Go.Proofs.YtghgpinhghhlgaaW.PrintLast Go.Proofs.YtghgpinhghhlgaaW.PrintMore
attribute [local go_sem] max2_int min2_int max_two min_two max_three min_three max_four min_four   -- for this text's walks alone
set_option linter.unusedVariables false
set_option linter.unusedSimpArgs false

/-! ### laws_FnClearAll -/
mutual
def laws_FnClearAll.j0 : Nat → Int → Bool → List Int → List Int → List Int → Option (Bool)
 | 0, _, _, _, _, _ => none
 | k + 1, x4, x26, x977000, x977001, x977002 => if x26 = true then ((spec_CountPointers.f k x977000 x977001 x977002).bind fun t980 => (some (x4 == t980))) else (laws_FnClearAll.l0 k 0 x977000 x977001 x977002)
def laws_FnClearAll.l0 : Nat → Int → List Int → List Int → List Int → Option (Bool)
 | 0, _, _, _, _ => none
 | k + 1, x5, x977000, x977001, x977002 => if x5 < (x977000.length : Int) then ((impl_PutLeft.f k x977000 x977001 x977002 x5 (-1)).bind fun bt981 => ((impl_PutRight.f k bt981.1 bt981.2.1 bt981.2.2.1 x5 (-1)).bind fun bt992 => (laws_FnClearAll.l0 k (wrap64 (x5 + 1)) bt992.1 bt992.2.1 bt992.2.2.1))) else (laws_FnClearAll.l1 k 0 x977000 x977001 x977002)
def laws_FnClearAll.l1 : Nat → Int → List Int → List Int → List Int → Option (Bool)
 | 0, _, _, _, _ => none
 | k + 1, x8, x977000, x977001, x977002 => if x8 < (x977002.length : Int) then ((impl_PutRoot.f k x977000 x977001 x977002 x8 (-1)).bind fun bt1002 => (laws_FnClearAll.l1 k (wrap64 (x8 + 1)) bt1002.1 bt1002.2.1 bt1002.2.2.1)) else ((impl_NewHeap.f k (x977000.length : Int) (x977002.length : Int)).bind fun bt1012 => (if bt1012.2.2.2 = true then ((impl_HeapSame.f k x977000 x977001 x977002 bt1012.1 bt1012.2.1 bt1012.2.2.1).bind fun t1023 => (if t1023 = true then ((impl_CountPointers.f k x977000 x977001 x977002).bind fun t1024 => (some (t1024 == 0))) else (none))) else (none)))
end
def laws_FnClearAll.f (k : Nat) (l0 : List Int) : Option (Bool) := if (l0.length : Int) > 1048576 then (some true) else ((spec_DrawCountPointers.f k l0).bind fun bt967 => ((impl_CountPointers.f k bt967.1 bt967.2.1 bt967.2.2).bind fun t977 => ((spec_CountPointers.f k bt967.1 bt967.2.1 bt967.2.2).bind fun t978 => (if t977 = t978 then ((impl_HeapValid.f k bt967.1 bt967.2.1 bt967.2.2).bind fun t979 => (laws_FnClearAll.j0 k t977 (!t979) bt967.1 bt967.2.1 bt967.2.2)) else (laws_FnClearAll.j0 k t977 true bt967.1 bt967.2.1 bt967.2.2)))))
theorem laws_FnClearAll.mono_l : ∀ k, (∀ y0 y1 y2 y3 y4, LeO (laws_FnClearAll.j0 k y0 y1 y2 y3 y4) (laws_FnClearAll.j0 (k + 1) y0 y1 y2 y3 y4)) ∧ (∀ y0 y1 y2 y3, LeO (laws_FnClearAll.l0 k y0 y1 y2 y3) (laws_FnClearAll.l0 (k + 1) y0 y1 y2 y3)) ∧ (∀ y0 y1 y2 y3, LeO (laws_FnClearAll.l1 k y0 y1 y2 y3) (laws_FnClearAll.l1 (k + 1) y0 y1 y2 y3))
 | 0 => ⟨fun _ _ _ _ _ r h => by simp [laws_FnClearAll.j0] at h, fun _ _ _ _ r h => by simp [laws_FnClearAll.l0] at h, fun _ _ _ _ r h => by simp [laws_FnClearAll.l1] at h⟩
 | k + 1 => by
  obtain ⟨ih0, ih1, ih2⟩ := laws_FnClearAll.mono_l k
  refine ⟨?_, ?_, ?_⟩
  ·intro y0 y1 y2 y3 y4
   unfold laws_FnClearAll.j0
   repeat' first
   | (with_reducible exact ih0 _ _ _ _ _)
   | (with_reducible exact ih1 _ _ _ _)
   | (with_reducible exact ih2 _ _ _ _)
   | (with_reducible exact impl_CountPointers.mono _ _ _ _)
   | (with_reducible exact impl_HeapSame.mono _ _ _ _ _ _ _)
   | (with_reducible exact impl_HeapValid.mono _ _ _ _)
   | (with_reducible exact impl_NewHeap.mono _ _ _)
   | (with_reducible exact impl_PutLeft.mono _ _ _ _ _ _)
   | (with_reducible exact impl_PutRight.mono _ _ _ _ _ _)
   | (with_reducible exact impl_PutRoot.mono _ _ _ _ _ _)
   | (with_reducible exact spec_CountPointers.mono _ _ _ _)
   | (with_reducible exact spec_DrawCountPointers.mono _ _)
   | (with_reducible exact LeO.refl _)
   | (with_reducible exact LeO.none _)
   | (with_reducible refine LeO.ite ?_ ?_)
   | (with_reducible refine LeO.bind ?_ (fun _ => ?_))
   | exact ih0 _ _ _ _ _
   | exact ih1 _ _ _ _
   | exact ih2 _ _ _ _
   | exact impl_CountPointers.mono _ _ _ _
   | exact impl_HeapSame.mono _ _ _ _ _ _ _
   | exact impl_HeapValid.mono _ _ _ _
   | exact impl_NewHeap.mono _ _ _
   | exact impl_PutLeft.mono _ _ _ _ _ _
   | exact impl_PutRight.mono _ _ _ _ _ _
   | exact impl_PutRoot.mono _ _ _ _ _ _
   | exact spec_CountPointers.mono _ _ _ _
   | exact spec_DrawCountPointers.mono _ _
   | exact LeO.none _
   | refine LeO.ite ?_ ?_
   | refine LeO.bind ?_ (fun _ => ?_)
  ·intro y0 y1 y2 y3
   unfold laws_FnClearAll.l0
   repeat' first
   | (with_reducible exact ih0 _ _ _ _ _)
   | (with_reducible exact ih1 _ _ _ _)
   | (with_reducible exact ih2 _ _ _ _)
   | (with_reducible exact impl_CountPointers.mono _ _ _ _)
   | (with_reducible exact impl_HeapSame.mono _ _ _ _ _ _ _)
   | (with_reducible exact impl_HeapValid.mono _ _ _ _)
   | (with_reducible exact impl_NewHeap.mono _ _ _)
   | (with_reducible exact impl_PutLeft.mono _ _ _ _ _ _)
   | (with_reducible exact impl_PutRight.mono _ _ _ _ _ _)
   | (with_reducible exact impl_PutRoot.mono _ _ _ _ _ _)
   | (with_reducible exact spec_CountPointers.mono _ _ _ _)
   | (with_reducible exact spec_DrawCountPointers.mono _ _)
   | (with_reducible exact LeO.refl _)
   | (with_reducible exact LeO.none _)
   | (with_reducible refine LeO.ite ?_ ?_)
   | (with_reducible refine LeO.bind ?_ (fun _ => ?_))
   | exact ih0 _ _ _ _ _
   | exact ih1 _ _ _ _
   | exact ih2 _ _ _ _
   | exact impl_CountPointers.mono _ _ _ _
   | exact impl_HeapSame.mono _ _ _ _ _ _ _
   | exact impl_HeapValid.mono _ _ _ _
   | exact impl_NewHeap.mono _ _ _
   | exact impl_PutLeft.mono _ _ _ _ _ _
   | exact impl_PutRight.mono _ _ _ _ _ _
   | exact impl_PutRoot.mono _ _ _ _ _ _
   | exact spec_CountPointers.mono _ _ _ _
   | exact spec_DrawCountPointers.mono _ _
   | exact LeO.none _
   | refine LeO.ite ?_ ?_
   | refine LeO.bind ?_ (fun _ => ?_)
  ·intro y0 y1 y2 y3
   unfold laws_FnClearAll.l1
   repeat' first
   | (with_reducible exact ih0 _ _ _ _ _)
   | (with_reducible exact ih1 _ _ _ _)
   | (with_reducible exact ih2 _ _ _ _)
   | (with_reducible exact impl_CountPointers.mono _ _ _ _)
   | (with_reducible exact impl_HeapSame.mono _ _ _ _ _ _ _)
   | (with_reducible exact impl_HeapValid.mono _ _ _ _)
   | (with_reducible exact impl_NewHeap.mono _ _ _)
   | (with_reducible exact impl_PutLeft.mono _ _ _ _ _ _)
   | (with_reducible exact impl_PutRight.mono _ _ _ _ _ _)
   | (with_reducible exact impl_PutRoot.mono _ _ _ _ _ _)
   | (with_reducible exact spec_CountPointers.mono _ _ _ _)
   | (with_reducible exact spec_DrawCountPointers.mono _ _)
   | (with_reducible exact LeO.refl _)
   | (with_reducible exact LeO.none _)
   | (with_reducible refine LeO.ite ?_ ?_)
   | (with_reducible refine LeO.bind ?_ (fun _ => ?_))
   | exact ih0 _ _ _ _ _
   | exact ih1 _ _ _ _
   | exact ih2 _ _ _ _
   | exact impl_CountPointers.mono _ _ _ _
   | exact impl_HeapSame.mono _ _ _ _ _ _ _
   | exact impl_HeapValid.mono _ _ _ _
   | exact impl_NewHeap.mono _ _ _
   | exact impl_PutLeft.mono _ _ _ _ _ _
   | exact impl_PutRight.mono _ _ _ _ _ _
   | exact impl_PutRoot.mono _ _ _ _ _ _
   | exact spec_CountPointers.mono _ _ _ _
   | exact spec_DrawCountPointers.mono _ _
   | exact LeO.none _
   | refine LeO.ite ?_ ?_
   | refine LeO.bind ?_ (fun _ => ?_)
theorem laws_FnClearAll.mono : ∀ a0 k, LeO (laws_FnClearAll.f k a0) (laws_FnClearAll.f (k + 1) a0) := by
 intro a0 k
 obtain ⟨ih0, ih1, ih2⟩ := laws_FnClearAll.mono_l k
 unfold laws_FnClearAll.f
 repeat' first
   | (with_reducible exact ih0 _ _ _ _ _)
   | (with_reducible exact ih1 _ _ _ _)
   | (with_reducible exact ih2 _ _ _ _)
   | (with_reducible exact impl_CountPointers.mono _ _ _ _)
   | (with_reducible exact impl_HeapSame.mono _ _ _ _ _ _ _)
   | (with_reducible exact impl_HeapValid.mono _ _ _ _)
   | (with_reducible exact impl_NewHeap.mono _ _ _)
   | (with_reducible exact impl_PutLeft.mono _ _ _ _ _ _)
   | (with_reducible exact impl_PutRight.mono _ _ _ _ _ _)
   | (with_reducible exact impl_PutRoot.mono _ _ _ _ _ _)
   | (with_reducible exact spec_CountPointers.mono _ _ _ _)
   | (with_reducible exact spec_DrawCountPointers.mono _ _)
   | (with_reducible exact LeO.refl _)
   | (with_reducible exact LeO.none _)
   | (with_reducible refine LeO.ite ?_ ?_)
   | (with_reducible refine LeO.bind ?_ (fun _ => ?_))
   | exact ih0 _ _ _ _ _
   | exact ih1 _ _ _ _
   | exact ih2 _ _ _ _
   | exact impl_CountPointers.mono _ _ _ _
   | exact impl_HeapSame.mono _ _ _ _ _ _ _
   | exact impl_HeapValid.mono _ _ _ _
   | exact impl_NewHeap.mono _ _ _
   | exact impl_PutLeft.mono _ _ _ _ _ _
   | exact impl_PutRight.mono _ _ _ _ _ _
   | exact impl_PutRoot.mono _ _ _ _ _ _
   | exact spec_CountPointers.mono _ _ _ _
   | exact spec_DrawCountPointers.mono _ _
   | exact LeO.none _
   | refine LeO.ite ?_ ?_
   | refine LeO.bind ?_ (fun _ => ?_)
set_option maxHeartbeats 8000000 in
set_option maxRecDepth 100000 in
theorem laws_FnClearAll.calls (k : Nat) (A0 : Option Addr) (c0 : Nat) (l0 : List Int) (r : Bool) (w : World) (hr0 : Kd.C (Kd.int .u8) w A0 l0.length l0) (hc0 : l0.length ≤ c0) (h : laws_FnClearAll.f k l0 = some r) :
  Calls Try.prog 11 #[.slice A0 l0.length c0] w fun e w' => e = .returned (.bool r) ∧ Below w.heap.size w w' := by
 have hu25 := Try.underlying25
 have HR0 := am hr0
 have HC0 := am hc0
 clear hr0 hc0
 have HB := am (Below.refl w.heap.size w)
 have H : (if (l0.length : Int) > 1048576 then (some true) else ((spec_DrawCountPointers.f k l0).bind fun bt967 => ((impl_CountPointers.f k bt967.1 bt967.2.1 bt967.2.2).bind fun t977 => ((spec_CountPointers.f k bt967.1 bt967.2.1 bt967.2.2).bind fun t978 => (if t977 = t978 then ((impl_HeapValid.f k bt967.1 bt967.2.1 bt967.2.2).bind fun t979 => (laws_FnClearAll.j0 k t977 (!t979) bt967.1 bt967.2.1 bt967.2.2)) else (laws_FnClearAll.j0 k t977 true bt967.1 bt967.2.1 bt967.2.2)))))) = some r := h
 clear h
 by_cases c2 : (l0.length : Int) > 1048576
 ·rw [if_pos c2] at H
  have c2b0 : decide (1048576 < (l0.length : Int)) = true := decide_eq_true c2
  have c2b1 : decide (1048576 < l0.length) = true := decide_eq_true (by omega)
  clear c2
  obtain rfl := Option.some.inj H
  go_enter Try.func11, Try.ntmps11
  go_wp2
  go_ret
  exact ⟨by first | rfl | (simp [errW_none, errW_some] <;> rfl) | (simp [*, errW_none, errW_some] <;> rfl), by exact bs0 HB.out⟩
 ·rw [if_neg c2] at H
  have c2b0 : decide (1048576 < (l0.length : Int)) = false := decide_eq_false c2
  have c2b1 : decide (1048576 < l0.length) = false := decide_eq_false (by omega)
  clear c2
  replace H := Option.bind_eq_some_iff.mp H
  obtain ⟨⟨t967, t970, t973⟩, A30, H⟩ := H
  replace H : ((impl_CountPointers.f k t967 t970 t973).bind fun t977 => ((spec_CountPointers.f k t967 t970 t973).bind fun t978 => (if t977 = t978 then ((impl_HeapValid.f k t967 t970 t973).bind fun t979 => (laws_FnClearAll.j0 k t977 (!t979) t967 t970 t973)) else (laws_FnClearAll.j0 k t977 true t967 t970 t973)))) = some r := H
  have A3 := am A30
  clear A30
  replace H := Option.bind_eq_some_iff.mp H
  obtain ⟨t977, A40, H⟩ := H
  replace H : ((spec_CountPointers.f k t967 t970 t973).bind fun t978 => (if t977 = t978 then ((impl_HeapValid.f k t967 t970 t973).bind fun t979 => (laws_FnClearAll.j0 k t977 (!t979) t967 t970 t973)) else (laws_FnClearAll.j0 k t977 true t967 t970 t973))) = some r := H
  have A4 := am A40
  clear A40
  have HC5 := am H
  clear H
  go_enter Try.func11, Try.ntmps11
  go_upto_region 5 with (first | ((with_reducible refine gate_callee (f := 33) rfl ?_); refine goesL_ (some 15) rfl rfl Try.func33 (by kernel_rfl) rfl #[.slice A0 l0.length c0] rfl (by (try simp only [List.map_toArray, List.map_cons, List.map_nil]); first | done | rfl | (simp only [List.length_drop, List.length_take]; rfl)) ?_; (with_reducible refine (spec_DrawCountPointers.calls k _ _ l0 t967 t970 t973 _ ?side1 ?side2 A3.out).mono ?_); (case side1 => exact cl (HR0.out)); (case side2 => exact HC0.out); rintro e w6 ⟨v968, v971, v974, rfl, ho0, ho1, ho2, hb⟩; refine ⟨_, rfl, ?_⟩; have HO969 := am (Kd.R_lower ho0 (below_size (bl HB.out))); have HO972 := am (Kd.R_lower ho1 (below_size (bl HB.out))); have HO975 := am (Kd.R_lower ho2 (below_size (bl HB.out))); replace HB := am (below_step (bl HB.out) hb); (try clear hb); (try clear hb2); (try clear hk); (try clear hi); (try clear ho0); (try clear ho1); (try clear ho2)) | ((with_reducible refine gate_dst (N := 3) rfl ?_); refine box_event ?hg (N := 3) ?hd (cs := #[.slice none 0 0, .slice none 0 0, .slice none 0 0]) (t := 25) ?hr ?_; (case hd => rfl); (case hg => rfl); (case hr => first | (go_simp; done) | (go_simp; rfl)); intro gb976 hg w7 hbox hb; replace HO969 := am (Kd.R_below (rl HO969.out) hb); replace HO972 := am (Kd.R_below (rl HO972.out) hb); replace HO975 := am (Kd.R_below (rl HO975.out) hb); have BK976 := am (hbox); have GW976 := am ((by rw [hg]; exact (below_size (bl HB.out)) : w.heap.size ≤ gb976)); have GE976 := am ((by rw [hg]; exact (below_size (bl HB.out)) : w.heap.size ≤ gb976)); replace HB := am (below_step (bl HB.out) hb); clear hb hbox hg; obtain ⟨Ao8, co8, eo8⟩ := Kd.R_slice HO969.out; subst eo8; have hcz9_0 : w7.cell? ⟨gb976, 0, none⟩ = some (.slice none 0 0) := (blk_cell BK976.out 0).trans rfl; have hcz9_1 : w7.cell? ⟨gb976, 1, none⟩ = some (.slice none 0 0) := (blk_cell BK976.out 1).trans rfl; have hcz9_2 : w7.cell? ⟨gb976, 2, none⟩ = some (.slice none 0 0) := (blk_cell BK976.out 2).trans rfl; have hfz9_0 := blk_frozen BK976.out 0; have hfz9_1 := blk_frozen BK976.out 1; have hfz9_2 := blk_frozen BK976.out 2; obtain ⟨Ao10, co10, eo10⟩ := Kd.R_slice HO972.out; subst eo10; obtain ⟨Ao11, co11, eo11⟩ := Kd.R_slice HO975.out; subst eo11) | ((with_reducible refine gate_store (t := 25) (p := 3) rfl ?_); refine store_event (t := 25) (p := 3) (v := ?vo_w12) (w1 := (((w7.setCell ⟨gb976, 0, none⟩ (.slice Ao8 t967.length co8)).setCell ⟨gb976, 1, none⟩ (.slice Ao10 t970.length co10)).setCell ⟨gb976, 2, none⟩ (.slice Ao11 t973.length co11))) ?hg ?ho ?hn ?hr ?_; (case ho => rfl); (case hg => rfl); (case hn => rfl); (case hr => first | (go_simp; done) | (go_simp; rfl)); intro w12 hw; replace HO969 : Aside0 (Kd.R (Kd.int .i64) 3 w12 w.heap.size (fun k_ => some k_ ≠ (.slice Ao10 t970.length co10 : Value).ownBlock ∧ some k_ ≠ (.slice Ao11 t973.length co11 : Value).ownBlock) (.slice Ao8 t967.length co8) t967) := ⟨(by rw [hw]; exact (rl (Kd.R_mono (Kd.R_far (p := ⟨gb976, 2, none⟩) (Kd.R_far (p := ⟨gb976, 1, none⟩) (Kd.R_far (p := ⟨gb976, 0, none⟩) (Kd.R_types HO969.out BK976.out (by decide)) (fun _ hk => hk.2) (.slice Ao8 t967.length co8)) (fun _ hk => hk.2) (.slice Ao10 t970.length co10)) (fun _ hk => hk.2) (.slice Ao11 t973.length co11)) (fun _ hk => by first | exact ⟨hk.1.1, hk.1.2⟩ | (simp only [ne_eq] at hk ⊢; simp only [hk, not_false_eq_true, and_self])))))⟩; replace HO972 : Aside0 (Kd.R (Kd.int .i64) 3 w12 w.heap.size (fun k_ => some k_ ≠ (.slice Ao8 t967.length co8 : Value).ownBlock ∧ some k_ ≠ (.slice Ao11 t973.length co11 : Value).ownBlock) (.slice Ao10 t970.length co10) t970) := ⟨(by rw [hw]; exact (rl (Kd.R_mono (Kd.R_far (p := ⟨gb976, 2, none⟩) (Kd.R_far (p := ⟨gb976, 1, none⟩) (Kd.R_far (p := ⟨gb976, 0, none⟩) (Kd.R_types HO972.out BK976.out (by decide)) (fun _ hk => hk.2) (.slice Ao8 t967.length co8)) (fun _ hk => hk.2) (.slice Ao10 t970.length co10)) (fun _ hk => hk.2) (.slice Ao11 t973.length co11)) (fun _ hk => by first | exact ⟨hk.1.1, hk.1.2⟩ | (simp only [ne_eq] at hk ⊢; simp only [hk, not_false_eq_true, and_self])))))⟩; replace HO975 : Aside0 (Kd.R (Kd.int .i64) 3 w12 w.heap.size (fun k_ => some k_ ≠ (.slice Ao8 t967.length co8 : Value).ownBlock ∧ some k_ ≠ (.slice Ao10 t970.length co10 : Value).ownBlock) (.slice Ao11 t973.length co11) t973) := ⟨(by rw [hw]; exact (rl (Kd.R_mono (Kd.R_far (p := ⟨gb976, 2, none⟩) (Kd.R_far (p := ⟨gb976, 1, none⟩) (Kd.R_far (p := ⟨gb976, 0, none⟩) (Kd.R_types HO975.out BK976.out (by decide)) (fun _ hk => hk.2) (.slice Ao8 t967.length co8)) (fun _ hk => hk.2) (.slice Ao10 t970.length co10)) (fun _ hk => hk.2) (.slice Ao11 t973.length co11)) (fun _ hk => by first | exact ⟨hk.1.1, hk.1.2⟩ | (simp only [ne_eq] at hk ⊢; simp only [hk, not_false_eq_true, and_self])))))⟩; replace BK976 : Aside0 (w12.heap[gb976]? = some (.cells #[.slice Ao8 t967.length co8, .slice Ao10 t970.length co10, .slice Ao11 t973.length co11] 25 (0, 0))) := ⟨(by rw [hw]; exact (kp3 (kf0 BK976.out)))⟩; replace HB : Aside0 (Below w.heap.size w w12) := ⟨(by rw [hw]; exact (bs1 GE976.out HB.out))⟩; clear hw; have hcz13_0 : w12.cell? ⟨gb976, 0, none⟩ = some (.slice Ao8 t967.length co8) := (blk_cell BK976.out 0).trans rfl; have hcz13_1 : w12.cell? ⟨gb976, 1, none⟩ = some (.slice Ao10 t970.length co10) := (blk_cell BK976.out 1).trans rfl; have hcz13_2 : w12.cell? ⟨gb976, 2, none⟩ = some (.slice Ao11 t973.length co11) := (blk_cell BK976.out 2).trans rfl; have hfz13_0 := blk_frozen BK976.out 0; have hfz13_1 := blk_frozen BK976.out 1; have hfz13_2 := blk_frozen BK976.out 2) | ((with_reducible refine gate_callee (f := 18) rfl ?_); refine goesL_ (some 17) rfl rfl Try.func18 (by kernel_rfl) rfl #[.agg #[.slice Ao8 t967.length co8, .slice Ao10 t970.length co10, .slice Ao11 t973.length co11]] rfl (by (try simp only [List.map_toArray, List.map_cons, List.map_nil]); first | done | rfl | (simp only [List.length_drop, List.length_take]; rfl)) ?_; (with_reducible refine (impl_CountPointers.calls k (fun k_ => some k_ = (.slice Ao8 t967.length co8 : Value).ownBlock) _ _ t967 (fun k_ => some k_ = (.slice Ao10 t970.length co10 : Value).ownBlock) _ _ t970 (fun k_ => some k_ = (.slice Ao11 t973.length co11 : Value).ownBlock) _ _ t973 t977 _ ?side1 ?side2 ?side3 A4.out).mono ?_); (case side1 => exact Kd.R_V (Kd.R_tight rfl (Kd.R_types (HO969.out) BK976.out (by decide)))); (case side2 => exact Kd.R_V (Kd.R_tight rfl (Kd.R_types (HO972.out) BK976.out (by decide)))); (case side3 => exact Kd.R_V (Kd.R_tight rfl (Kd.R_types (HO975.out) BK976.out (by decide)))); rintro e w14 ⟨rfl, hb⟩; refine ⟨_, rfl, ?_⟩; replace HO969 := am (Kd.R_below (rl HO969.out) hb); replace HO972 := am (Kd.R_below (rl HO972.out) hb); replace HO975 := am (Kd.R_below (rl HO975.out) hb); replace BK976 := am (blk_below (g := gb976) (o := .cells #[.slice Ao8 t967.length co8, .slice Ao10 t970.length co10, .slice Ao11 t973.length co11] 25 (0, 0)) (kl BK976.out) hb); replace HB := am (below_step (bs1 GE976.out HB.out) hb); (try clear hb); (try clear hb2); (try clear hk); (try clear hi)))
  (try simp only [Act.put, List.setIfInBounds_toArray, List.set_cons_zero, List.set_cons_succ])
  go_cut [26] (fun v26 wc => ∃ (kq : Nat) (x26_4 : Bool), v26 = .bool x26_4 ∧ Aside0 (laws_FnClearAll.j0 kq t977 x26_4 t967 t970 t973 = some r) ∧ Aside0 (kq ≤ k) ∧ Aside0 (Kd.R (Kd.int .i64) 3 wc w.heap.size (fun k_ => some k_ ≠ ((.slice Ao10 t970.length co10) : Value).ownBlock ∧ some k_ ≠ ((.slice Ao11 t973.length co11) : Value).ownBlock) (.slice Ao8 t967.length co8) t967) ∧ Aside0 (Kd.R (Kd.int .i64) 3 wc w.heap.size (fun k_ => some k_ ≠ ((.slice Ao8 t967.length co8) : Value).ownBlock ∧ some k_ ≠ ((.slice Ao11 t973.length co11) : Value).ownBlock) (.slice Ao10 t970.length co10) t970) ∧ Aside0 (Kd.R (Kd.int .i64) 3 wc w.heap.size (fun k_ => some k_ ≠ ((.slice Ao8 t967.length co8) : Value).ownBlock ∧ some k_ ≠ ((.slice Ao10 t970.length co10) : Value).ownBlock) (.slice Ao11 t973.length co11) t973) ∧ Aside0 (wc.heap[gb976]? = some (.cells #[(.slice Ao8 t967.length co8), (.slice Ao10 t970.length co10), (.slice Ao11 t973.length co11)] 25 (0, 0))) ∧ Aside0 (Below w.heap.size w wc))
  case first =>
   have H := HC5.out
   clear HC5
   replace H := Option.bind_eq_some_iff.mp H
   obtain ⟨t978, A150, H⟩ := H
   replace H : (if t977 = t978 then ((impl_HeapValid.f k t967 t970 t973).bind fun t979 => (laws_FnClearAll.j0 k t977 (!t979) t967 t970 t973)) else (laws_FnClearAll.j0 k t977 true t967 t970 t973)) = some r := H
   have A15 := am A150
   clear A150
   by_cases c16 : t977 = t978
   ·rw [if_pos c16] at H
    have c16b0 : (t977 == t978) = true := beq_iff_eq.mpr c16
    have c16b1 : (t977 != t978) = false := bne_eq_false_iff_eq.mpr c16
    clear c16
    (first | rw [c16b0] | (simp only [i64_w, i32_w]; rw [c16b0]) | skip)
    replace H := Option.bind_eq_some_iff.mp H
    obtain ⟨t979, A170, H⟩ := H
    replace H : (laws_FnClearAll.j0 k t977 (!t979) t967 t970 t973) = some r := H
    have A17 := am A170
    clear A170
    have H' := am H
    clear H
    have hcz18_0 : w14.cell? ⟨gb976, 0, none⟩ = some (.slice Ao8 t967.length co8) := (blk_cell BK976.out 0).trans rfl
    have hcz18_1 : w14.cell? ⟨gb976, 1, none⟩ = some (.slice Ao10 t970.length co10) := (blk_cell BK976.out 1).trans rfl
    have hcz18_2 : w14.cell? ⟨gb976, 2, none⟩ = some (.slice Ao11 t973.length co11) := (blk_cell BK976.out 2).trans rfl
    have hfz18_0 := blk_frozen BK976.out 0
    have hfz18_1 := blk_frozen BK976.out 1
    have hfz18_2 := blk_frozen BK976.out 2
    go_wp2_with (first | ((with_reducible refine gate_callee (f := 34) rfl ?_); refine goesL_ (some 20) rfl rfl Try.func34 (by kernel_rfl) rfl #[.agg #[.slice Ao8 t967.length co8, .slice Ao10 t970.length co10, .slice Ao11 t973.length co11]] rfl (by (try simp only [List.map_toArray, List.map_cons, List.map_nil]); first | done | rfl | (simp only [List.length_drop, List.length_take]; rfl)) ?_; (with_reducible refine (spec_CountPointers.calls k _ _ t967 _ _ t970 _ _ t973 t978 _ ?side1 ?side2 ?side3 ?side4 ?side5 ?side6 A15.out).mono ?_); (case side1 => exact cl ((Kd.R_reads' HO969.out).2.2)); (case side2 => exact (Kd.R_reads' HO969.out).2.1); (case side3 => exact cl ((Kd.R_reads' HO972.out).2.2)); (case side4 => exact (Kd.R_reads' HO972.out).2.1); (case side5 => exact cl ((Kd.R_reads' HO975.out).2.2)); (case side6 => exact (Kd.R_reads' HO975.out).2.1); rintro e w19 ⟨rfl, hb⟩; refine ⟨_, rfl, ?_⟩; replace HO969 := am (Kd.R_below (rl HO969.out) hb); replace HO972 := am (Kd.R_below (rl HO972.out) hb); replace HO975 := am (Kd.R_below (rl HO975.out) hb); replace BK976 := am (blk_below (g := gb976) (o := .cells #[.slice Ao8 t967.length co8, .slice Ao10 t970.length co10, .slice Ao11 t973.length co11] 25 (0, 0)) (kl BK976.out) hb); replace HB := am (below_step (bs1 GE976.out HB.out) hb); (try clear hb); (try clear hb2); (try clear hk); (try clear hi); have hcz20_0 : w19.cell? ⟨gb976, 0, none⟩ = some (.slice Ao8 t967.length co8) := (blk_cell BK976.out 0).trans rfl; have hcz20_1 : w19.cell? ⟨gb976, 1, none⟩ = some (.slice Ao10 t970.length co10) := (blk_cell BK976.out 1).trans rfl; have hcz20_2 : w19.cell? ⟨gb976, 2, none⟩ = some (.slice Ao11 t973.length co11) := (blk_cell BK976.out 2).trans rfl; have hfz20_0 := blk_frozen BK976.out 0; have hfz20_1 := blk_frozen BK976.out 1; have hfz20_2 := blk_frozen BK976.out 2) | (go_at_call 17; (with_reducible refine (impl_HeapValid.calls k (fun k_ => some k_ = (.slice Ao8 t967.length co8 : Value).ownBlock) _ _ t967 (fun k_ => some k_ = (.slice Ao10 t970.length co10 : Value).ownBlock) _ _ t970 (fun k_ => some k_ = (.slice Ao11 t973.length co11 : Value).ownBlock) _ _ t973 t979 _ ?side1 ?side2 ?side3 A17.out).mono ?_); (case side1 => exact Kd.R_V (Kd.R_tight rfl (Kd.R_types (HO969.out) BK976.out (by decide)))); (case side2 => exact Kd.R_V (Kd.R_tight rfl (Kd.R_types (HO972.out) BK976.out (by decide)))); (case side3 => exact Kd.R_V (Kd.R_tight rfl (Kd.R_types (HO975.out) BK976.out (by decide)))); rintro e w21 ⟨rfl, hb⟩; replace HO969 := am (Kd.R_below (rl HO969.out) hb); replace HO972 := am (Kd.R_below (rl HO972.out) hb); replace HO975 := am (Kd.R_below (rl HO975.out) hb); replace BK976 := am (blk_below (g := gb976) (o := .cells #[.slice Ao8 t967.length co8, .slice Ao10 t970.length co10, .slice Ao11 t973.length co11] 25 (0, 0)) (kl BK976.out) hb); replace HB := am (below_step (bs1 GE976.out HB.out) hb); (try clear hb); (try clear hb2); (try clear hk); (try clear hi)))
    go_meet
    case rel => exact ⟨_, (!t979), (by first | rfl | (simp; done) | (simp [*]; done)), H', ⟨by first | omega | exact Nat.le_refl _⟩, ⟨rl HO969.out⟩, ⟨rl HO972.out⟩, ⟨rl HO975.out⟩, ⟨kl BK976.out⟩, ⟨by exact bs1 GE976.out HB.out⟩⟩
   ·rw [if_neg c16] at H
    have c16b0 : (t977 == t978) = false := beq_eq_false_iff_ne.mpr c16
    have c16b1 : (t977 != t978) = true := bne_iff_ne.mpr c16
    (first | rw [c16b0] | (simp only [i64_w, i32_w]; rw [c16b0]) | skip)
    have H' := am H
    clear H
    have hcz22_0 : w14.cell? ⟨gb976, 0, none⟩ = some (.slice Ao8 t967.length co8) := (blk_cell BK976.out 0).trans rfl
    have hcz22_1 : w14.cell? ⟨gb976, 1, none⟩ = some (.slice Ao10 t970.length co10) := (blk_cell BK976.out 1).trans rfl
    have hcz22_2 : w14.cell? ⟨gb976, 2, none⟩ = some (.slice Ao11 t973.length co11) := (blk_cell BK976.out 2).trans rfl
    have hfz22_0 := blk_frozen BK976.out 0
    have hfz22_1 := blk_frozen BK976.out 1
    have hfz22_2 := blk_frozen BK976.out 2
    go_wp2_with (first | ((with_reducible refine gate_callee (f := 34) rfl ?_); refine goesL_ (some 20) rfl rfl Try.func34 (by kernel_rfl) rfl #[.agg #[.slice Ao8 t967.length co8, .slice Ao10 t970.length co10, .slice Ao11 t973.length co11]] rfl (by (try simp only [List.map_toArray, List.map_cons, List.map_nil]); first | done | rfl | (simp only [List.length_drop, List.length_take]; rfl)) ?_; (with_reducible refine (spec_CountPointers.calls k _ _ t967 _ _ t970 _ _ t973 t978 _ ?side1 ?side2 ?side3 ?side4 ?side5 ?side6 A15.out).mono ?_); (case side1 => exact cl ((Kd.R_reads' HO969.out).2.2)); (case side2 => exact (Kd.R_reads' HO969.out).2.1); (case side3 => exact cl ((Kd.R_reads' HO972.out).2.2)); (case side4 => exact (Kd.R_reads' HO972.out).2.1); (case side5 => exact cl ((Kd.R_reads' HO975.out).2.2)); (case side6 => exact (Kd.R_reads' HO975.out).2.1); rintro e w23 ⟨rfl, hb⟩; refine ⟨_, rfl, ?_⟩; replace HO969 := am (Kd.R_below (rl HO969.out) hb); replace HO972 := am (Kd.R_below (rl HO972.out) hb); replace HO975 := am (Kd.R_below (rl HO975.out) hb); replace BK976 := am (blk_below (g := gb976) (o := .cells #[.slice Ao8 t967.length co8, .slice Ao10 t970.length co10, .slice Ao11 t973.length co11] 25 (0, 0)) (kl BK976.out) hb); replace HB := am (below_step (bs1 GE976.out HB.out) hb); (try clear hb); (try clear hb2); (try clear hk); (try clear hi)))
    go_meet
    case rel => exact ⟨_, (true), (by first | rfl | (simp; done) | (simp [*]; done)), H', ⟨by first | omega | exact Nat.le_refl _⟩, ⟨rl HO969.out⟩, ⟨rl HO972.out⟩, ⟨rl HO975.out⟩, ⟨kl BK976.out⟩, ⟨by exact bs1 GE976.out HB.out⟩⟩
  case rest =>
   clear HC5
   try clear c1
   try clear c2
   try clear c2b0
   try clear c2b1
   try clear p2
   try clear c3
   try clear c11
   try clear c16
   try clear c16b0
   try clear c16b1
   try clear c18
   try clear hcz13_0
   try clear hcz13_1
   try clear hcz13_2
   try clear hcz18_0
   try clear hcz18_1
   try clear hcz18_2
   try clear hcz20_0
   try clear hcz20_1
   try clear hcz20_2
   try clear hcz22_0
   try clear hcz22_1
   try clear hcz22_2
   try clear hcz9_0
   try clear hcz9_1
   try clear hcz9_2
   try clear hfz13_0
   try clear hfz13_1
   try clear hfz13_2
   try clear hfz18_0
   try clear hfz18_1
   try clear hfz18_2
   try clear hfz20_0
   try clear hfz20_1
   try clear hfz20_2
   try clear hfz22_0
   try clear hfz22_1
   try clear hfz22_2
   try clear hfz9_0
   try clear hfz9_1
   try clear hfz9_2
   obtain ⟨kq, x26_4, rfl, HA, HJ4, HO_977000, HO_977001, HO_977002, BK976, HB⟩ := hcut
   cases kq with
   | zero => exact absurd HA.out (by simp [laws_FnClearAll.j0])
   | succ kj4 =>
    have H := HA.out
    clear HA
    simp only [laws_FnClearAll.j0] at H
    by_cases c24 : x26_4 = true
    ·subst c24
     have H1 : ((spec_CountPointers.f kj4 t967 t970 t973).bind fun t980 => (some (t977 == t980))) = some r := by rw [if_pos rfl] at H; exact H
     clear H
     have H := H1
     clear H1
     replace H := Option.bind_eq_some_iff.mp H
     obtain ⟨t980, A250, H⟩ := H
     replace H : (some (t977 == t980)) = some r := H
     have A25 := am A250
     clear A250
     obtain rfl := Option.some.inj H
     have hcz26_0 : wc.cell? ⟨gb976, 0, none⟩ = some (.slice Ao8 t967.length co8) := (blk_cell BK976.out 0).trans rfl
     have hcz26_1 : wc.cell? ⟨gb976, 1, none⟩ = some (.slice Ao10 t970.length co10) := (blk_cell BK976.out 1).trans rfl
     have hcz26_2 : wc.cell? ⟨gb976, 2, none⟩ = some (.slice Ao11 t973.length co11) := (blk_cell BK976.out 2).trans rfl
     have hfz26_0 := blk_frozen BK976.out 0
     have hfz26_1 := blk_frozen BK976.out 1
     have hfz26_2 := blk_frozen BK976.out 2
     go_wp2_with (first | ((with_reducible refine gate_callee (f := 34) rfl ?_); refine goesL_ (some 29) rfl rfl Try.func34 (by kernel_rfl) rfl #[.agg #[.slice Ao8 t967.length co8, .slice Ao10 t970.length co10, .slice Ao11 t973.length co11]] rfl (by (try simp only [List.map_toArray, List.map_cons, List.map_nil]); first | done | rfl | (simp only [List.length_drop, List.length_take]; rfl)) ?_; (with_reducible refine (spec_CountPointers.calls kj4 _ _ t967 _ _ t970 _ _ t973 t980 _ ?side1 ?side2 ?side3 ?side4 ?side5 ?side6 A25.out).mono ?_); (case side1 => exact cl ((Kd.R_reads' HO_977000.out).2.2)); (case side2 => exact (Kd.R_reads' HO_977000.out).2.1); (case side3 => exact cl ((Kd.R_reads' HO_977001.out).2.2)); (case side4 => exact (Kd.R_reads' HO_977001.out).2.1); (case side5 => exact cl ((Kd.R_reads' HO_977002.out).2.2)); (case side6 => exact (Kd.R_reads' HO_977002.out).2.1); rintro e w27 ⟨rfl, hb⟩; refine ⟨_, rfl, ?_⟩; replace HO_977000 := am (Kd.R_below (rl HO_977000.out) hb); replace HO_977001 := am (Kd.R_below (rl HO_977001.out) hb); replace HO_977002 := am (Kd.R_below (rl HO_977002.out) hb); replace BK976 := am (blk_below (g := gb976) (o := .cells #[.slice Ao8 t967.length co8, .slice Ao10 t970.length co10, .slice Ao11 t973.length co11] 25 (0, 0)) (kl BK976.out) hb); replace HB := am (below_step (bs1 GE976.out HB.out) hb); (try clear hb); (try clear hb2); (try clear hk); (try clear hi)))
     go_ret
     exact ⟨by first | rfl | (simp [errW_none, errW_some] <;> rfl) | (simp [*, errW_none, errW_some] <;> rfl), by exact bs1 GE976.out HB.out⟩
    ·replace c24 := Bool.eq_false_iff.mpr c24
     subst c24
     have H1 : (laws_FnClearAll.l0 kj4 0 t967 t970 t973) = some r := by rw [if_neg (show ¬ (false = true) by decide)] at H; exact H
     clear H
     have H := H1
     clear H1
     have H' := am H
     clear H
     go_wp2
     go_loopg [5] kj4 (fun kq v5 w' => ∃ (x5_2 : Int) (x977000_2 : List Int) (x977001_2 : List Int) (x977002_2 : List Int) (u977000 : Value) (u977001 : Value) (u977002 : Value), v5 = .int .i64 x5_2 ∧ Aside0 (laws_FnClearAll.l0 kq x5_2 x977000_2 x977001_2 x977002_2 = some r) ∧ Aside0 (kq ≤ kj4) ∧ Aside0 (Kd.R (Kd.int .i64) 3 w' w.heap.size (fun k_ => some k_ ≠ (u977001 : Value).ownBlock ∧ some k_ ≠ (u977002 : Value).ownBlock) u977000 x977000_2) ∧ Aside0 (Kd.R (Kd.int .i64) 3 w' w.heap.size (fun k_ => some k_ ≠ (u977000 : Value).ownBlock ∧ some k_ ≠ (u977002 : Value).ownBlock) u977001 x977001_2) ∧ Aside0 (Kd.R (Kd.int .i64) 3 w' w.heap.size (fun k_ => some k_ ≠ (u977000 : Value).ownBlock ∧ some k_ ≠ (u977001 : Value).ownBlock) u977002 x977002_2) ∧ Aside0 (w'.heap[gb976]? = some (.cells #[u977000, u977001, u977002] 25 (0, 0))) ∧ Aside0 (Below w.heap.size w w'))
     case atStart => exact ⟨(0), (t967), (t970), (t973), (.slice Ao8 t967.length co8), (.slice Ao10 t970.length co10), (.slice Ao11 t973.length co11), (by first | rfl | (simp; done) | (simp [*]; done)), H', ⟨Nat.le_refl _⟩, ⟨rl HO_977000.out⟩, ⟨rl HO_977001.out⟩, ⟨rl HO_977002.out⟩, ⟨kl BK976.out⟩, ⟨by exact bs1 GE976.out HB.out⟩⟩
     case round =>
      clear H'
      try clear c1
      try clear c2
      try clear c2b0
      try clear c2b1
      try clear p2
      try clear c3
      try clear c11
      try clear c16
      try clear c16b0
      try clear c16b1
      try clear c18
      try clear c24
      try clear hcz13_0
      try clear hcz13_1
      try clear hcz13_2
      try clear hcz18_0
      try clear hcz18_1
      try clear hcz18_2
      try clear hcz20_0
      try clear hcz20_1
      try clear hcz20_2
      try clear hcz22_0
      try clear hcz22_1
      try clear hcz22_2
      try clear hcz26_0
      try clear hcz26_1
      try clear hcz26_2
      try clear hcz9_0
      try clear hcz9_1
      try clear hcz9_2
      try clear hfz13_0
      try clear hfz13_1
      try clear hfz13_2
      try clear hfz18_0
      try clear hfz18_1
      try clear hfz18_2
      try clear hfz20_0
      try clear hfz20_1
      try clear hfz20_2
      try clear hfz22_0
      try clear hfz22_1
      try clear hfz22_2
      try clear hfz26_0
      try clear hfz26_1
      try clear hfz26_2
      try clear hfz9_0
      try clear hfz9_1
      try clear hfz9_2
      try clear p2
      obtain ⟨x5_2, x977000_2, x977001_2, x977002_2, u977000, u977001, u977002, rfl, HA, HK2, HO_977000, HO_977001, HO_977002, BK976, HB⟩ := hrel
      cases gk with
      | zero => exact absurd HA.out (by simp [laws_FnClearAll.l0])
      | succ k2 =>
       have H := HA.out
       clear HA
       simp only [laws_FnClearAll.l0] at H
       by_cases c28 : x5_2 < (x977000_2.length : Int)
       ·rw [if_pos c28] at H
        have c28b0 : decide (x5_2 < (x977000_2.length : Int)) = true := decide_eq_true c28
        clear c28
        replace H := Option.bind_eq_some_iff.mp H
        obtain ⟨⟨t981, t984, t987, t990⟩, A290, H⟩ := H
        replace H : ((impl_PutRight.f k2 t981 t984 t987 x5_2 (-1)).bind fun bt992 => (laws_FnClearAll.l0 k2 (wrap64 (x5_2 + 1)) bt992.1 bt992.2.1 bt992.2.2.1)) = some r := H
        have A29 := am A290
        clear A290
        replace H := Option.bind_eq_some_iff.mp H
        obtain ⟨⟨t992, t995, t998, t1001⟩, A300, H⟩ := H
        replace H : (laws_FnClearAll.l0 k2 (wrap64 (x5_2 + 1)) t992 t995 t998) = some r := H
        have A30 := am A300
        clear A300
        have H' := am H
        clear H
        have hcz31_0 : wr.cell? ⟨gb976, 0, none⟩ = some (u977000) := (blk_cell BK976.out 0).trans rfl
        have hcz31_1 : wr.cell? ⟨gb976, 1, none⟩ = some (u977001) := (blk_cell BK976.out 1).trans rfl
        have hcz31_2 : wr.cell? ⟨gb976, 2, none⟩ = some (u977002) := (blk_cell BK976.out 2).trans rfl
        have hfz31_0 := blk_frozen BK976.out 0
        have hfz31_1 := blk_frozen BK976.out 1
        have hfz31_2 := blk_frozen BK976.out 2
        obtain ⟨Ao32, co32, eo32⟩ := Kd.R_slice HO_977000.out
        subst eo32
        obtain ⟨Ao33, co33, eo33⟩ := Kd.R_slice HO_977001.out
        subst eo33
        obtain ⟨Ao34, co34, eo34⟩ := Kd.R_slice HO_977002.out
        subst eo34
        go_wp2_with (first | ((with_reducible refine gate_callee (f := 31) rfl ?_); refine goesL_ (some 41) rfl rfl Try.func31 (by kernel_rfl) rfl #[.agg #[.slice Ao32 x977000_2.length co32, .slice Ao33 x977001_2.length co33, .slice Ao34 x977002_2.length co34], .int .i64 x5_2, .int .i64 (-1)] rfl (by (try simp only [List.map_toArray, List.map_cons, List.map_nil]); first | done | rfl | (simp only [List.length_drop, List.length_take]; rfl)) ?_; (with_reducible refine (impl_PutLeft.calls k2 _ _ x977000_2 _ _ x977001_2 _ _ x977002_2 x5_2 (-1) t981 t984 t987 t990 _ ?side1 ?side2 ?side3 ?side4 ?side5 ?side6 A29.out).mono ?_); (case side1 => exact cl ((Kd.R_reads' HO_977000.out).2.2)); (case side2 => exact (Kd.R_reads' HO_977000.out).2.1); (case side3 => exact cl ((Kd.R_reads' HO_977001.out).2.2)); (case side4 => exact (Kd.R_reads' HO_977001.out).2.1); (case side5 => exact cl ((Kd.R_reads' HO_977002.out).2.2)); (case side6 => exact (Kd.R_reads' HO_977002.out).2.1); rintro e w35 ⟨v982, v985, v988, rfl, ho0, ho1, ho2, hb⟩; refine ⟨_, rfl, ?_⟩; have HO983 := am (Kd.R_lower (Kd.R_new' (Kd.R_new' (Kd.R_new' ho0 (Kd.R_lt (rl HO_977000.out))) (Kd.R_lt (rl HO_977001.out))) (Kd.R_lt (rl HO_977002.out))) (below_size (bs1 GE976.out HB.out))); have HO986 := am (Kd.R_lower (Kd.R_new' (Kd.R_new' (Kd.R_new' ho1 (Kd.R_lt (rl HO_977000.out))) (Kd.R_lt (rl HO_977001.out))) (Kd.R_lt (rl HO_977002.out))) (below_size (bs1 GE976.out HB.out))); have HO989 := am (Kd.R_lower (Kd.R_new' (Kd.R_new' (Kd.R_new' ho2 (Kd.R_lt (rl HO_977000.out))) (Kd.R_lt (rl HO_977001.out))) (Kd.R_lt (rl HO_977002.out))) (below_size (bs1 GE976.out HB.out))); replace HO_977000 := am (Kd.R_mono (Kd.R_told (Kd.R_told (Kd.R_told (Kd.R_old (rl HO_977000.out) hb) (Kd.R_base ho0)) (Kd.R_base ho1)) (Kd.R_base ho2)) (fun _ h_ => h_.1)); replace HO_977001 := am (Kd.R_mono (Kd.R_told (Kd.R_told (Kd.R_told (Kd.R_old (rl HO_977001.out) hb) (Kd.R_base ho0)) (Kd.R_base ho1)) (Kd.R_base ho2)) (fun _ h_ => h_.1)); replace HO_977002 := am (Kd.R_mono (Kd.R_told (Kd.R_told (Kd.R_told (Kd.R_old (rl HO_977002.out) hb) (Kd.R_base ho0)) (Kd.R_base ho1)) (Kd.R_base ho2)) (fun _ h_ => h_.1)); replace BK976 := am (blk_below (g := gb976) (o := .cells #[.slice Ao32 x977000_2.length co32, .slice Ao33 x977001_2.length co33, .slice Ao34 x977002_2.length co34] 25 (0, 0)) (kl BK976.out) hb); replace HB := am (below_step (bs1 GE976.out HB.out) hb); (try clear hb); (try clear hb2); (try clear hk); (try clear hi); (try clear ho0); (try clear ho1); (try clear ho2)) | ((with_reducible refine gate_dst (N := 6) rfl ?_); refine box_event ?hg (N := 6) ?hd (cs := #[.slice none 0 0, .slice none 0 0, .slice none 0 0]) (t := 25) ?hr ?_; (case hd => rfl); (case hg => rfl); (case hr => first | (go_simp; done) | (go_simp; rfl)); intro gb991 hg w36 hbox hb; replace HO_977000 := am (Kd.R_below (rl HO_977000.out) hb); replace HO_977001 := am (Kd.R_below (rl HO_977001.out) hb); replace HO_977002 := am (Kd.R_below (rl HO_977002.out) hb); replace HO983 := am (Kd.R_below (rl HO983.out) hb); replace HO986 := am (Kd.R_below (rl HO986.out) hb); replace HO989 := am (Kd.R_below (rl HO989.out) hb); have BK991 := am (hbox); have GW991 := am ((by rw [hg]; exact (below_size (bs1 GE976.out HB.out)) : w.heap.size ≤ gb991)); have GE991 := am ((by rw [hg]; exact (below_size (bs1 GE976.out HB.out)) : w.heap.size ≤ gb991)); replace HB := am (below_step (bs1 GE976.out HB.out) hb); have NB976_991 := am ((by rw [hg]; exact Nat.ne_of_lt (blk_lt (g := gb976) (o := .cells #[.slice Ao32 x977000_2.length co32, .slice Ao33 x977001_2.length co33, .slice Ao34 x977002_2.length co34] 25 (0, 0)) (kl BK976.out)) : gb976 ≠ gb991)); have NB991_976 := am ((by rw [hg]; exact Nat.ne_of_gt (blk_lt (g := gb976) (o := .cells #[.slice Ao32 x977000_2.length co32, .slice Ao33 x977001_2.length co33, .slice Ao34 x977002_2.length co34] 25 (0, 0)) (kl BK976.out)) : gb991 ≠ gb976)); replace BK976 := am (blk_below (g := gb976) (o := .cells #[.slice Ao32 x977000_2.length co32, .slice Ao33 x977001_2.length co33, .slice Ao34 x977002_2.length co34] 25 (0, 0)) (kl BK976.out) hb); clear hb hbox hg; obtain ⟨Ao37, co37, eo37⟩ := Kd.R_slice HO983.out; subst eo37; have hnb38 := NB991_976.out; have hnc38 := NB976_991.out; have hcz39_0 : w36.cell? ⟨gb991, 0, none⟩ = some (.slice none 0 0) := (blk_cell BK991.out 0).trans rfl; have hcz39_1 : w36.cell? ⟨gb991, 1, none⟩ = some (.slice none 0 0) := (blk_cell BK991.out 1).trans rfl; have hcz39_2 : w36.cell? ⟨gb991, 2, none⟩ = some (.slice none 0 0) := (blk_cell BK991.out 2).trans rfl; have hfz39_0 := blk_frozen BK991.out 0; have hfz39_1 := blk_frozen BK991.out 1; have hfz39_2 := blk_frozen BK991.out 2; obtain ⟨Ao40, co40, eo40⟩ := Kd.R_slice HO986.out; subst eo40; obtain ⟨Ao41, co41, eo41⟩ := Kd.R_slice HO989.out; subst eo41) | ((with_reducible refine gate_callee (f := 32) rfl ?_); refine goesL_ (some 47) rfl rfl Try.func32 (by kernel_rfl) rfl #[.agg #[.slice Ao37 t981.length co37, .slice Ao40 t984.length co40, .slice Ao41 t987.length co41], .int .i64 x5_2, .int .i64 (-1)] rfl (by (try simp only [List.map_toArray, List.map_cons, List.map_nil]); first | done | rfl | (simp only [List.length_drop, List.length_take]; rfl)) ?_; (with_reducible refine (impl_PutRight.calls k2 _ _ t981 _ _ t984 _ _ t987 x5_2 (-1) t992 t995 t998 t1001 _ ?side1 ?side2 ?side3 ?side4 ?side5 ?side6 A30.out).mono ?_); (case side1 => exact (Kd.R_reads' (rf1 BK991.out HO983.out)).2.2); (case side2 => exact (Kd.R_reads' HO983.out).2.1); (case side3 => exact (Kd.R_reads' (rf1 BK991.out HO986.out)).2.2); (case side4 => exact (Kd.R_reads' HO986.out).2.1); (case side5 => exact (Kd.R_reads' (rf1 BK991.out HO989.out)).2.2); (case side6 => exact (Kd.R_reads' HO989.out).2.1); rintro e w42 ⟨v993, v996, v999, rfl, ho0, ho1, ho2, hb⟩; refine ⟨_, rfl, ?_⟩; have HO994 := am (Kd.R_lower (Kd.R_new' (Kd.R_new' (Kd.R_new' (Kd.R_new' (Kd.R_new' (Kd.R_new' ho0 (Kd.R_lt (rf1 BK991.out HO_977000.out))) (Kd.R_lt (rf1 BK991.out HO_977001.out))) (Kd.R_lt (rf1 BK991.out HO_977002.out))) (Kd.R_lt (rf1 BK991.out HO983.out))) (Kd.R_lt (rf1 BK991.out HO986.out))) (Kd.R_lt (rf1 BK991.out HO989.out))) (below_size (bs2 GE976.out GE991.out HB.out))); have HO997 := am (Kd.R_lower (Kd.R_new' (Kd.R_new' (Kd.R_new' (Kd.R_new' (Kd.R_new' (Kd.R_new' ho1 (Kd.R_lt (rf1 BK991.out HO_977000.out))) (Kd.R_lt (rf1 BK991.out HO_977001.out))) (Kd.R_lt (rf1 BK991.out HO_977002.out))) (Kd.R_lt (rf1 BK991.out HO983.out))) (Kd.R_lt (rf1 BK991.out HO986.out))) (Kd.R_lt (rf1 BK991.out HO989.out))) (below_size (bs2 GE976.out GE991.out HB.out))); have HO1000 := am (Kd.R_lower (Kd.R_new' (Kd.R_new' (Kd.R_new' (Kd.R_new' (Kd.R_new' (Kd.R_new' ho2 (Kd.R_lt (rf1 BK991.out HO_977000.out))) (Kd.R_lt (rf1 BK991.out HO_977001.out))) (Kd.R_lt (rf1 BK991.out HO_977002.out))) (Kd.R_lt (rf1 BK991.out HO983.out))) (Kd.R_lt (rf1 BK991.out HO986.out))) (Kd.R_lt (rf1 BK991.out HO989.out))) (below_size (bs2 GE976.out GE991.out HB.out))); replace HO_977000 := am (Kd.R_mono (Kd.R_told (Kd.R_told (Kd.R_told (Kd.R_old (rf1 BK991.out HO_977000.out) hb) (Kd.R_base ho0)) (Kd.R_base ho1)) (Kd.R_base ho2)) (fun _ h_ => h_.1)); replace HO_977001 := am (Kd.R_mono (Kd.R_told (Kd.R_told (Kd.R_told (Kd.R_old (rf1 BK991.out HO_977001.out) hb) (Kd.R_base ho0)) (Kd.R_base ho1)) (Kd.R_base ho2)) (fun _ h_ => h_.1)); replace HO_977002 := am (Kd.R_mono (Kd.R_told (Kd.R_told (Kd.R_told (Kd.R_old (rf1 BK991.out HO_977002.out) hb) (Kd.R_base ho0)) (Kd.R_base ho1)) (Kd.R_base ho2)) (fun _ h_ => h_.1)); replace HO983 := am (Kd.R_mono (Kd.R_told (Kd.R_told (Kd.R_told (Kd.R_old (rf1 BK991.out HO983.out) hb) (Kd.R_base ho0)) (Kd.R_base ho1)) (Kd.R_base ho2)) (fun _ h_ => h_.1)); replace HO986 := am (Kd.R_mono (Kd.R_told (Kd.R_told (Kd.R_told (Kd.R_old (rf1 BK991.out HO986.out) hb) (Kd.R_base ho0)) (Kd.R_base ho1)) (Kd.R_base ho2)) (fun _ h_ => h_.1)); replace HO989 := am (Kd.R_mono (Kd.R_told (Kd.R_told (Kd.R_told (Kd.R_old (rf1 BK991.out HO989.out) hb) (Kd.R_base ho0)) (Kd.R_base ho1)) (Kd.R_base ho2)) (fun _ h_ => h_.1)); replace BK976 := am (blk_below (g := gb976) (o := .cells #[.slice Ao32 x977000_2.length co32, .slice Ao33 x977001_2.length co33, .slice Ao34 x977002_2.length co34] 25 (0, 0)) (kf1 NB976_991.out BK976.out) hb); replace BK991 := am (blk_below (g := gb991) (o := .cells #[.slice Ao37 t981.length co37, .slice Ao40 t984.length co40, .slice Ao41 t987.length co41] 25 (0, 0)) (kp3 (kf0 BK991.out)) hb); replace HB := am (below_step (bs2 GE976.out GE991.out HB.out) hb); (try clear hb); (try clear hb2); (try clear hk); (try clear hi); (try clear ho0); (try clear ho1); (try clear ho2); obtain ⟨Ao43, co43, eo43⟩ := Kd.R_slice HO994.out; subst eo43; have hcz44_0 : w42.cell? ⟨gb976, 0, none⟩ = some (.slice Ao32 x977000_2.length co32) := (blk_cell BK976.out 0).trans rfl; have hcz44_1 : w42.cell? ⟨gb976, 1, none⟩ = some (.slice Ao33 x977001_2.length co33) := (blk_cell BK976.out 1).trans rfl; have hcz44_2 : w42.cell? ⟨gb976, 2, none⟩ = some (.slice Ao34 x977002_2.length co34) := (blk_cell BK976.out 2).trans rfl; have hfz44_0 := blk_frozen BK976.out 0; have hfz44_1 := blk_frozen BK976.out 1; have hfz44_2 := blk_frozen BK976.out 2; obtain ⟨Ao45, co45, eo45⟩ := Kd.R_slice HO997.out; subst eo45; obtain ⟨Ao46, co46, eo46⟩ := Kd.R_slice HO1000.out; subst eo46))
        go_roundg k2
        case measure => have := HJ4.out; have := HK2.out; omega
        case rel => exact ⟨(wrap64 (x5_2 + 1)), (t992), (t995), (t998), (.slice Ao43 t992.length co43), (.slice Ao45 t995.length co45), (.slice Ao46 t998.length co46), (by first | rfl | (simp; done) | (simp [*]; done)), H', ⟨by have := HJ4.out; have := HK2.out; omega⟩, ⟨rl (Kd.R_mono (Kd.R_far (p := ⟨gb976, 2, none⟩) (Kd.R_far (p := ⟨gb976, 1, none⟩) (Kd.R_far (p := ⟨gb976, 0, none⟩) (Kd.R_types HO994.out BK976.out (by decide)) (fun _ hk => hk.2) (.slice Ao43 t992.length co43)) (fun _ hk => hk.2) (.slice Ao45 t995.length co45)) (fun _ hk => hk.2) (.slice Ao46 t998.length co46)) (fun _ hk => by first | exact ⟨hk.1.1.1.1.1.1.1.1, hk.1.1.1.1.1.1.1.2⟩ | (simp only [ne_eq] at hk ⊢; simp only [hk, not_false_eq_true, and_self])))⟩, ⟨rl (Kd.R_mono (Kd.R_far (p := ⟨gb976, 2, none⟩) (Kd.R_far (p := ⟨gb976, 1, none⟩) (Kd.R_far (p := ⟨gb976, 0, none⟩) (Kd.R_types HO997.out BK976.out (by decide)) (fun _ hk => hk.2) (.slice Ao43 t992.length co43)) (fun _ hk => hk.2) (.slice Ao45 t995.length co45)) (fun _ hk => hk.2) (.slice Ao46 t998.length co46)) (fun _ hk => by first | exact ⟨hk.1.1.1.1.1.1.1.1, hk.1.1.1.1.1.1.1.2⟩ | (simp only [ne_eq] at hk ⊢; simp only [hk, not_false_eq_true, and_self])))⟩, ⟨rl (Kd.R_mono (Kd.R_far (p := ⟨gb976, 2, none⟩) (Kd.R_far (p := ⟨gb976, 1, none⟩) (Kd.R_far (p := ⟨gb976, 0, none⟩) (Kd.R_types HO1000.out BK976.out (by decide)) (fun _ hk => hk.2) (.slice Ao43 t992.length co43)) (fun _ hk => hk.2) (.slice Ao45 t995.length co45)) (fun _ hk => hk.2) (.slice Ao46 t998.length co46)) (fun _ hk => by first | exact ⟨hk.1.1.1.1.1.1.1.1, hk.1.1.1.1.1.1.1.2⟩ | (simp only [ne_eq] at hk ⊢; simp only [hk, not_false_eq_true, and_self])))⟩, ⟨kp3 (kf0 BK976.out)⟩, ⟨by exact bs2 GE976.out GE991.out HB.out⟩⟩
       ·rw [if_neg c28] at H
        have c28b0 : decide (x5_2 < (x977000_2.length : Int)) = false := decide_eq_false c28
        clear c28
        have H' := am H
        clear H
        have hcz47_0 : wr.cell? ⟨gb976, 0, none⟩ = some (u977000) := (blk_cell BK976.out 0).trans rfl
        have hcz47_1 : wr.cell? ⟨gb976, 1, none⟩ = some (u977001) := (blk_cell BK976.out 1).trans rfl
        have hcz47_2 : wr.cell? ⟨gb976, 2, none⟩ = some (u977002) := (blk_cell BK976.out 2).trans rfl
        have hfz47_0 := blk_frozen BK976.out 0
        have hfz47_1 := blk_frozen BK976.out 1
        have hfz47_2 := blk_frozen BK976.out 2
        obtain ⟨Ao48, co48, eo48⟩ := Kd.R_slice HO_977000.out
        subst eo48
        go_wp2
        go_loopg [8] k2 (fun kq v8 w' => ∃ (x8_3 : Int) (x977000_3 : List Int) (x977001_3 : List Int) (x977002_3 : List Int) (u977000 : Value) (u977001 : Value) (u977002 : Value), v8 = .int .i64 x8_3 ∧ Aside0 (laws_FnClearAll.l1 kq x8_3 x977000_3 x977001_3 x977002_3 = some r) ∧ Aside0 (kq ≤ k2) ∧ Aside0 (Kd.R (Kd.int .i64) 3 w' w.heap.size (fun k_ => some k_ ≠ (u977001 : Value).ownBlock ∧ some k_ ≠ (u977002 : Value).ownBlock) u977000 x977000_3) ∧ Aside0 (Kd.R (Kd.int .i64) 3 w' w.heap.size (fun k_ => some k_ ≠ (u977000 : Value).ownBlock ∧ some k_ ≠ (u977002 : Value).ownBlock) u977001 x977001_3) ∧ Aside0 (Kd.R (Kd.int .i64) 3 w' w.heap.size (fun k_ => some k_ ≠ (u977000 : Value).ownBlock ∧ some k_ ≠ (u977001 : Value).ownBlock) u977002 x977002_3) ∧ Aside0 (w'.heap[gb976]? = some (.cells #[u977000, u977001, u977002] 25 (0, 0))) ∧ Aside0 (Below w.heap.size w w'))
        case atStart => exact ⟨(0), (x977000_2), (x977001_2), (x977002_2), (.slice Ao48 x977000_2.length co48), (u977001), (u977002), (by first | rfl | (simp; done) | (simp [*]; done)), H', ⟨Nat.le_refl _⟩, ⟨rl HO_977000.out⟩, ⟨rl HO_977001.out⟩, ⟨rl HO_977002.out⟩, ⟨kl BK976.out⟩, ⟨by exact bs1 GE976.out HB.out⟩⟩
        case round =>
         clear H'
         try clear c1
         try clear c2
         try clear c2b0
         try clear c2b1
         try clear p2
         try clear c3
         try clear p6
         try clear c11
         try clear c16
         try clear c16b0
         try clear c16b1
         try clear c18
         try clear c24
         try clear c28
         try clear c28b0
         try clear c31
         try clear c32
         try clear c33
         try clear c34
         try clear c38
         try clear hcz13_0
         try clear hcz13_1
         try clear hcz13_2
         try clear hcz18_0
         try clear hcz18_1
         try clear hcz18_2
         try clear hcz20_0
         try clear hcz20_1
         try clear hcz20_2
         try clear hcz22_0
         try clear hcz22_1
         try clear hcz22_2
         try clear hcz26_0
         try clear hcz26_1
         try clear hcz26_2
         try clear hcz31_0
         try clear hcz31_1
         try clear hcz31_2
         try clear hcz39_0
         try clear hcz39_1
         try clear hcz39_2
         try clear hcz44_0
         try clear hcz44_1
         try clear hcz44_2
         try clear hcz47_0
         try clear hcz47_1
         try clear hcz47_2
         try clear hcz9_0
         try clear hcz9_1
         try clear hcz9_2
         try clear hfz13_0
         try clear hfz13_1
         try clear hfz13_2
         try clear hfz18_0
         try clear hfz18_1
         try clear hfz18_2
         try clear hfz20_0
         try clear hfz20_1
         try clear hfz20_2
         try clear hfz22_0
         try clear hfz22_1
         try clear hfz22_2
         try clear hfz26_0
         try clear hfz26_1
         try clear hfz26_2
         try clear hfz31_0
         try clear hfz31_1
         try clear hfz31_2
         try clear hfz39_0
         try clear hfz39_1
         try clear hfz39_2
         try clear hfz44_0
         try clear hfz44_1
         try clear hfz44_2
         try clear hfz47_0
         try clear hfz47_1
         try clear hfz47_2
         try clear hfz9_0
         try clear hfz9_1
         try clear hfz9_2
         try clear p2
         obtain ⟨x8_3, x977000_3, x977001_3, x977002_3, u977000, u977001, u977002, rfl, HA, HK3, HO_977000, HO_977001, HO_977002, BK976, HB⟩ := hrel
         cases gk with
         | zero => exact absurd HA.out (by simp [laws_FnClearAll.l1])
         | succ k3 =>
          have H := HA.out
          clear HA
          simp only [laws_FnClearAll.l1] at H
          by_cases c49 : x8_3 < (x977002_3.length : Int)
          ·rw [if_pos c49] at H
           have c49b0 : decide (x8_3 < (x977002_3.length : Int)) = true := decide_eq_true c49
           clear c49
           replace H := Option.bind_eq_some_iff.mp H
           obtain ⟨⟨t1002, t1005, t1008, t1011⟩, A500, H⟩ := H
           replace H : (laws_FnClearAll.l1 k3 (wrap64 (x8_3 + 1)) t1002 t1005 t1008) = some r := H
           have A50 := am A500
           clear A500
           have H' := am H
           clear H
           have hcz51_0 : wr.cell? ⟨gb976, 0, none⟩ = some (u977000) := (blk_cell BK976.out 0).trans rfl
           have hcz51_1 : wr.cell? ⟨gb976, 1, none⟩ = some (u977001) := (blk_cell BK976.out 1).trans rfl
           have hcz51_2 : wr.cell? ⟨gb976, 2, none⟩ = some (u977002) := (blk_cell BK976.out 2).trans rfl
           have hfz51_0 := blk_frozen BK976.out 0
           have hfz51_1 := blk_frozen BK976.out 1
           have hfz51_2 := blk_frozen BK976.out 2
           obtain ⟨Ao52, co52, eo52⟩ := Kd.R_slice HO_977002.out
           subst eo52
           obtain ⟨Ao53, co53, eo53⟩ := Kd.R_slice HO_977000.out
           subst eo53
           obtain ⟨Ao54, co54, eo54⟩ := Kd.R_slice HO_977001.out
           subst eo54
           go_wp2_with (first | ((with_reducible refine gate_callee (f := 14) rfl ?_); refine goesL_ (some 60) rfl rfl Try.func14 (by kernel_rfl) rfl #[.agg #[.slice Ao53 x977000_3.length co53, .slice Ao54 x977001_3.length co54, .slice Ao52 x977002_3.length co52], .int .i64 x8_3, .int .i64 (-1)] rfl (by (try simp only [List.map_toArray, List.map_cons, List.map_nil]); first | done | rfl | (simp only [List.length_drop, List.length_take]; rfl)) ?_; (with_reducible refine (impl_PutRoot.calls k3 _ _ x977000_3 _ _ x977001_3 _ _ x977002_3 x8_3 (-1) t1002 t1005 t1008 t1011 _ ?side1 ?side2 ?side3 ?side4 ?side5 ?side6 A50.out).mono ?_); (case side1 => exact cl ((Kd.R_reads' HO_977000.out).2.2)); (case side2 => exact (Kd.R_reads' HO_977000.out).2.1); (case side3 => exact cl ((Kd.R_reads' HO_977001.out).2.2)); (case side4 => exact (Kd.R_reads' HO_977001.out).2.1); (case side5 => exact cl ((Kd.R_reads' HO_977002.out).2.2)); (case side6 => exact (Kd.R_reads' HO_977002.out).2.1); rintro e w55 ⟨v1003, v1006, v1009, rfl, ho0, ho1, ho2, hb⟩; refine ⟨_, rfl, ?_⟩; have HO1004 := am (Kd.R_lower (Kd.R_new' (Kd.R_new' (Kd.R_new' ho0 (Kd.R_lt (rl HO_977000.out))) (Kd.R_lt (rl HO_977001.out))) (Kd.R_lt (rl HO_977002.out))) (below_size (bs1 GE976.out HB.out))); have HO1007 := am (Kd.R_lower (Kd.R_new' (Kd.R_new' (Kd.R_new' ho1 (Kd.R_lt (rl HO_977000.out))) (Kd.R_lt (rl HO_977001.out))) (Kd.R_lt (rl HO_977002.out))) (below_size (bs1 GE976.out HB.out))); have HO1010 := am (Kd.R_lower (Kd.R_new' (Kd.R_new' (Kd.R_new' ho2 (Kd.R_lt (rl HO_977000.out))) (Kd.R_lt (rl HO_977001.out))) (Kd.R_lt (rl HO_977002.out))) (below_size (bs1 GE976.out HB.out))); replace HO_977000 := am (Kd.R_mono (Kd.R_told (Kd.R_told (Kd.R_told (Kd.R_old (rl HO_977000.out) hb) (Kd.R_base ho0)) (Kd.R_base ho1)) (Kd.R_base ho2)) (fun _ h_ => h_.1)); replace HO_977001 := am (Kd.R_mono (Kd.R_told (Kd.R_told (Kd.R_told (Kd.R_old (rl HO_977001.out) hb) (Kd.R_base ho0)) (Kd.R_base ho1)) (Kd.R_base ho2)) (fun _ h_ => h_.1)); replace HO_977002 := am (Kd.R_mono (Kd.R_told (Kd.R_told (Kd.R_told (Kd.R_old (rl HO_977002.out) hb) (Kd.R_base ho0)) (Kd.R_base ho1)) (Kd.R_base ho2)) (fun _ h_ => h_.1)); replace BK976 := am (blk_below (g := gb976) (o := .cells #[.slice Ao53 x977000_3.length co53, .slice Ao54 x977001_3.length co54, .slice Ao52 x977002_3.length co52] 25 (0, 0)) (kl BK976.out) hb); replace HB := am (below_step (bs1 GE976.out HB.out) hb); (try clear hb); (try clear hb2); (try clear hk); (try clear hi); (try clear ho0); (try clear ho1); (try clear ho2); obtain ⟨Ao56, co56, eo56⟩ := Kd.R_slice HO1004.out; subst eo56; have hcz57_0 : w55.cell? ⟨gb976, 0, none⟩ = some (.slice Ao53 x977000_3.length co53) := (blk_cell BK976.out 0).trans rfl; have hcz57_1 : w55.cell? ⟨gb976, 1, none⟩ = some (.slice Ao54 x977001_3.length co54) := (blk_cell BK976.out 1).trans rfl; have hcz57_2 : w55.cell? ⟨gb976, 2, none⟩ = some (.slice Ao52 x977002_3.length co52) := (blk_cell BK976.out 2).trans rfl; have hfz57_0 := blk_frozen BK976.out 0; have hfz57_1 := blk_frozen BK976.out 1; have hfz57_2 := blk_frozen BK976.out 2; obtain ⟨Ao58, co58, eo58⟩ := Kd.R_slice HO1007.out; subst eo58; obtain ⟨Ao59, co59, eo59⟩ := Kd.R_slice HO1010.out; subst eo59))
           go_roundg k3
           case measure => have := HJ4.out; have := HK2.out; have := HK3.out; omega
           case rel => exact ⟨(wrap64 (x8_3 + 1)), (t1002), (t1005), (t1008), (.slice Ao56 t1002.length co56), (.slice Ao58 t1005.length co58), (.slice Ao59 t1008.length co59), (by first | rfl | (simp; done) | (simp [*]; done)), H', ⟨by have := HJ4.out; have := HK2.out; have := HK3.out; omega⟩, ⟨rl (Kd.R_mono (Kd.R_far (p := ⟨gb976, 2, none⟩) (Kd.R_far (p := ⟨gb976, 1, none⟩) (Kd.R_far (p := ⟨gb976, 0, none⟩) (Kd.R_types HO1004.out BK976.out (by decide)) (fun _ hk => hk.2) (.slice Ao56 t1002.length co56)) (fun _ hk => hk.2) (.slice Ao58 t1005.length co58)) (fun _ hk => hk.2) (.slice Ao59 t1008.length co59)) (fun _ hk => by first | exact ⟨hk.1.1.1.1.1, hk.1.1.1.1.2⟩ | (simp only [ne_eq] at hk ⊢; simp only [hk, not_false_eq_true, and_self])))⟩, ⟨rl (Kd.R_mono (Kd.R_far (p := ⟨gb976, 2, none⟩) (Kd.R_far (p := ⟨gb976, 1, none⟩) (Kd.R_far (p := ⟨gb976, 0, none⟩) (Kd.R_types HO1007.out BK976.out (by decide)) (fun _ hk => hk.2) (.slice Ao56 t1002.length co56)) (fun _ hk => hk.2) (.slice Ao58 t1005.length co58)) (fun _ hk => hk.2) (.slice Ao59 t1008.length co59)) (fun _ hk => by first | exact ⟨hk.1.1.1.1.1, hk.1.1.1.1.2⟩ | (simp only [ne_eq] at hk ⊢; simp only [hk, not_false_eq_true, and_self])))⟩, ⟨rl (Kd.R_mono (Kd.R_far (p := ⟨gb976, 2, none⟩) (Kd.R_far (p := ⟨gb976, 1, none⟩) (Kd.R_far (p := ⟨gb976, 0, none⟩) (Kd.R_types HO1010.out BK976.out (by decide)) (fun _ hk => hk.2) (.slice Ao56 t1002.length co56)) (fun _ hk => hk.2) (.slice Ao58 t1005.length co58)) (fun _ hk => hk.2) (.slice Ao59 t1008.length co59)) (fun _ hk => by first | exact ⟨hk.1.1.1.1.1, hk.1.1.1.1.2⟩ | (simp only [ne_eq] at hk ⊢; simp only [hk, not_false_eq_true, and_self])))⟩, ⟨kp3 (kf0 BK976.out)⟩, ⟨by exact bs1 GE976.out HB.out⟩⟩
          ·rw [if_neg c49] at H
           have c49b0 : decide (x8_3 < (x977002_3.length : Int)) = false := decide_eq_false c49
           clear c49
           replace H := Option.bind_eq_some_iff.mp H
           obtain ⟨⟨t1012, t1015, t1018, t1021⟩, A600, H⟩ := H
           replace H : (if t1021 = true then ((impl_HeapSame.f k3 x977000_3 x977001_3 x977002_3 t1012 t1015 t1018).bind fun t1023 => (if t1023 = true then ((impl_CountPointers.f k3 x977000_3 x977001_3 x977002_3).bind fun t1024 => (some (t1024 == 0))) else (none))) else (none)) = some r := H
           have A60 := am A600
           clear A600
           by_cases c61 : t1021 = true
           ·subst c61
            have H1 : ((impl_HeapSame.f k3 x977000_3 x977001_3 x977002_3 t1012 t1015 t1018).bind fun t1023 => (if t1023 = true then ((impl_CountPointers.f k3 x977000_3 x977001_3 x977002_3).bind fun t1024 => (some (t1024 == 0))) else (none))) = some r := by rw [if_pos rfl] at H; exact H
            clear H
            have H := H1
            clear H1
            replace H := Option.bind_eq_some_iff.mp H
            obtain ⟨t1023, A620, H⟩ := H
            replace H : (if t1023 = true then ((impl_CountPointers.f k3 x977000_3 x977001_3 x977002_3).bind fun t1024 => (some (t1024 == 0))) else (none)) = some r := H
            have A62 := am A620
            clear A620
            by_cases c63 : t1023 = true
            ·subst c63
             have H1 : ((impl_CountPointers.f k3 x977000_3 x977001_3 x977002_3).bind fun t1024 => (some (t1024 == 0))) = some r := by rw [if_pos rfl] at H; exact H
             clear H
             have H := H1
             clear H1
             replace H := Option.bind_eq_some_iff.mp H
             obtain ⟨t1024, A640, H⟩ := H
             replace H : (some (t1024 == 0)) = some r := H
             have A64 := am A640
             clear A640
             obtain rfl := Option.some.inj H
             have hcz65_0 : wr.cell? ⟨gb976, 0, none⟩ = some (u977000) := (blk_cell BK976.out 0).trans rfl
             have hcz65_1 : wr.cell? ⟨gb976, 1, none⟩ = some (u977001) := (blk_cell BK976.out 1).trans rfl
             have hcz65_2 : wr.cell? ⟨gb976, 2, none⟩ = some (u977002) := (blk_cell BK976.out 2).trans rfl
             have hfz65_0 := blk_frozen BK976.out 0
             have hfz65_1 := blk_frozen BK976.out 1
             have hfz65_2 := blk_frozen BK976.out 2
             obtain ⟨Ao66, co66, eo66⟩ := Kd.R_slice HO_977002.out
             subst eo66
             obtain ⟨Ao67, co67, eo67⟩ := Kd.R_slice HO_977000.out
             subst eo67
             go_wp2_with (first | ((with_reducible refine gate_callee (f := 35) rfl ?_); refine goesL_ (some 70) rfl rfl Try.func35 (by kernel_rfl) rfl #[.int .i64 (x977000_3.length : Int), .int .i64 (x977002_3.length : Int)] rfl (by (try simp only [List.map_toArray, List.map_cons, List.map_nil]); first | done | rfl | (simp only [List.length_drop, List.length_take]; rfl)) ?_; (with_reducible refine (impl_NewHeap.calls k3 (x977000_3.length : Int) (x977002_3.length : Int) t1012 t1015 t1018 true _ A60.out).mono ?_); rintro e w68 ⟨v1013, v1016, v1019, rfl, ho0, ho1, ho2, hb⟩; refine ⟨_, rfl, ?_⟩; have HO1014 := am (Kd.R_lower (Kd.R_new' (Kd.R_new' (Kd.R_new' ho0 (Kd.R_lt (rl HO_977000.out))) (Kd.R_lt (rl HO_977001.out))) (Kd.R_lt (rl HO_977002.out))) (below_size (bs1 GE976.out HB.out))); have HO1017 := am (Kd.R_lower (Kd.R_new' (Kd.R_new' (Kd.R_new' ho1 (Kd.R_lt (rl HO_977000.out))) (Kd.R_lt (rl HO_977001.out))) (Kd.R_lt (rl HO_977002.out))) (below_size (bs1 GE976.out HB.out))); have HO1020 := am (Kd.R_lower (Kd.R_new' (Kd.R_new' (Kd.R_new' ho2 (Kd.R_lt (rl HO_977000.out))) (Kd.R_lt (rl HO_977001.out))) (Kd.R_lt (rl HO_977002.out))) (below_size (bs1 GE976.out HB.out))); replace HO_977000 := am (Kd.R_mono (Kd.R_told (Kd.R_told (Kd.R_told (Kd.R_old (rl HO_977000.out) hb) (Kd.R_base ho0)) (Kd.R_base ho1)) (Kd.R_base ho2)) (fun _ h_ => h_.1)); replace HO_977001 := am (Kd.R_mono (Kd.R_told (Kd.R_told (Kd.R_told (Kd.R_old (rl HO_977001.out) hb) (Kd.R_base ho0)) (Kd.R_base ho1)) (Kd.R_base ho2)) (fun _ h_ => h_.1)); replace HO_977002 := am (Kd.R_mono (Kd.R_told (Kd.R_told (Kd.R_told (Kd.R_old (rl HO_977002.out) hb) (Kd.R_base ho0)) (Kd.R_base ho1)) (Kd.R_base ho2)) (fun _ h_ => h_.1)); replace BK976 := am (blk_below (g := gb976) (o := .cells #[.slice Ao67 x977000_3.length co67, u977001, .slice Ao66 x977002_3.length co66] 25 (0, 0)) (kl BK976.out) hb); replace HB := am (below_step (bs1 GE976.out HB.out) hb); (try clear hb); (try clear hb2); (try clear hk); (try clear hi); (try clear ho0); (try clear ho1); (try clear ho2)) | ((with_reducible refine gate_dst (N := 9) rfl ?_); refine box_event ?hg (N := 9) ?hd (cs := #[.slice none 0 0, .slice none 0 0, .slice none 0 0]) (t := 25) ?hr ?_; (case hd => rfl); (case hg => rfl); (case hr => first | (go_simp; done) | (go_simp; rfl)); intro gb1022 hg w69 hbox hb; replace HO_977000 := am (Kd.R_below (rl HO_977000.out) hb); replace HO_977001 := am (Kd.R_below (rl HO_977001.out) hb); replace HO_977002 := am (Kd.R_below (rl HO_977002.out) hb); replace HO1014 := am (Kd.R_below (rl HO1014.out) hb); replace HO1017 := am (Kd.R_below (rl HO1017.out) hb); replace HO1020 := am (Kd.R_below (rl HO1020.out) hb); have BK1022 := am (hbox); have GW1022 := am ((by rw [hg]; exact (below_size (bs1 GE976.out HB.out)) : w.heap.size ≤ gb1022)); have GE1022 := am ((by rw [hg]; exact (below_size (bs1 GE976.out HB.out)) : w.heap.size ≤ gb1022)); replace HB := am (below_step (bs1 GE976.out HB.out) hb); have NB976_1022 := am ((by rw [hg]; exact Nat.ne_of_lt (blk_lt (g := gb976) (o := .cells #[.slice Ao67 x977000_3.length co67, u977001, .slice Ao66 x977002_3.length co66] 25 (0, 0)) (kl BK976.out)) : gb976 ≠ gb1022)); have NB1022_976 := am ((by rw [hg]; exact Nat.ne_of_gt (blk_lt (g := gb976) (o := .cells #[.slice Ao67 x977000_3.length co67, u977001, .slice Ao66 x977002_3.length co66] 25 (0, 0)) (kl BK976.out)) : gb1022 ≠ gb976)); replace BK976 := am (blk_below (g := gb976) (o := .cells #[.slice Ao67 x977000_3.length co67, u977001, .slice Ao66 x977002_3.length co66] 25 (0, 0)) (kl BK976.out) hb); clear hb hbox hg; obtain ⟨Ao70, co70, eo70⟩ := Kd.R_slice HO1014.out; subst eo70; have hnb71 := NB1022_976.out; have hnc71 := NB976_1022.out; have hcz72_0 : w69.cell? ⟨gb1022, 0, none⟩ = some (.slice none 0 0) := (blk_cell BK1022.out 0).trans rfl; have hcz72_1 : w69.cell? ⟨gb1022, 1, none⟩ = some (.slice none 0 0) := (blk_cell BK1022.out 1).trans rfl; have hcz72_2 : w69.cell? ⟨gb1022, 2, none⟩ = some (.slice none 0 0) := (blk_cell BK1022.out 2).trans rfl; have hfz72_0 := blk_frozen BK1022.out 0; have hfz72_1 := blk_frozen BK1022.out 1; have hfz72_2 := blk_frozen BK1022.out 2; obtain ⟨Ao73, co73, eo73⟩ := Kd.R_slice HO1017.out; subst eo73; obtain ⟨Ao74, co74, eo74⟩ := Kd.R_slice HO1020.out; subst eo74; have hcz75_0 : w69.cell? ⟨gb976, 0, none⟩ = some (.slice Ao67 x977000_3.length co67) := (blk_cell BK976.out 0).trans rfl; have hcz75_1 : w69.cell? ⟨gb976, 1, none⟩ = some (u977001) := (blk_cell BK976.out 1).trans rfl; have hcz75_2 : w69.cell? ⟨gb976, 2, none⟩ = some (.slice Ao66 x977002_3.length co66) := (blk_cell BK976.out 2).trans rfl; have hfz75_0 := blk_frozen BK976.out 0; have hfz75_1 := blk_frozen BK976.out 1; have hfz75_2 := blk_frozen BK976.out 2; obtain ⟨Ao76, co76, eo76⟩ := Kd.R_slice HO_977001.out; subst eo76) | (go_at_call 16; (with_reducible refine (impl_HeapSame.calls k3 _ _ x977000_3 _ _ x977001_3 _ _ x977002_3 _ _ t1012 _ _ t1015 _ _ t1018 true _ ?side1 ?side2 ?side3 ?side4 ?side5 ?side6 ?side7 ?side8 ?side9 ?side10 ?side11 ?side12 A62.out).mono ?_); (case side1 => exact (Kd.R_reads' (rf1 BK1022.out HO_977000.out)).2.2); (case side2 => exact (Kd.R_reads' HO_977000.out).2.1); (case side3 => exact (Kd.R_reads' (rf1 BK1022.out HO_977001.out)).2.2); (case side4 => exact (Kd.R_reads' HO_977001.out).2.1); (case side5 => exact (Kd.R_reads' (rf1 BK1022.out HO_977002.out)).2.2); (case side6 => exact (Kd.R_reads' HO_977002.out).2.1); (case side7 => exact (Kd.R_reads' (rf1 BK1022.out HO1014.out)).2.2); (case side8 => exact (Kd.R_reads' HO1014.out).2.1); (case side9 => exact (Kd.R_reads' (rf1 BK1022.out HO1017.out)).2.2); (case side10 => exact (Kd.R_reads' HO1017.out).2.1); (case side11 => exact (Kd.R_reads' (rf1 BK1022.out HO1020.out)).2.2); (case side12 => exact (Kd.R_reads' HO1020.out).2.1); rintro e w77 ⟨rfl, hb⟩; replace HO_977000 := am (Kd.R_below (rf1 BK1022.out HO_977000.out) hb); replace HO_977001 := am (Kd.R_below (rf1 BK1022.out HO_977001.out) hb); replace HO_977002 := am (Kd.R_below (rf1 BK1022.out HO_977002.out) hb); replace HO1014 := am (Kd.R_below (rf1 BK1022.out HO1014.out) hb); replace HO1017 := am (Kd.R_below (rf1 BK1022.out HO1017.out) hb); replace HO1020 := am (Kd.R_below (rf1 BK1022.out HO1020.out) hb); replace BK976 := am (blk_below (g := gb976) (o := .cells #[.slice Ao67 x977000_3.length co67, .slice Ao76 x977001_3.length co76, .slice Ao66 x977002_3.length co66] 25 (0, 0)) (kf1 NB976_1022.out BK976.out) hb); replace BK1022 := am (blk_below (g := gb1022) (o := .cells #[.slice Ao70 t1012.length co70, .slice Ao73 t1015.length co73, .slice Ao74 t1018.length co74] 25 (0, 0)) (kp3 (kf0 BK1022.out)) hb); replace HB := am (below_step (bs2 GE976.out GE1022.out HB.out) hb); (try clear hb); (try clear hb2); (try clear hk); (try clear hi); have hcz78_0 : w77.cell? ⟨gb976, 0, none⟩ = some (.slice Ao67 x977000_3.length co67) := (blk_cell BK976.out 0).trans rfl; have hcz78_1 : w77.cell? ⟨gb976, 1, none⟩ = some (.slice Ao76 x977001_3.length co76) := (blk_cell BK976.out 1).trans rfl; have hcz78_2 : w77.cell? ⟨gb976, 2, none⟩ = some (.slice Ao66 x977002_3.length co66) := (blk_cell BK976.out 2).trans rfl; have hfz78_0 := blk_frozen BK976.out 0; have hfz78_1 := blk_frozen BK976.out 1; have hfz78_2 := blk_frozen BK976.out 2) | (go_at_call 18; (with_reducible refine (impl_CountPointers.calls k3 (fun k_ => some k_ = (.slice Ao67 x977000_3.length co67 : Value).ownBlock) _ _ x977000_3 (fun k_ => some k_ = (.slice Ao76 x977001_3.length co76 : Value).ownBlock) _ _ x977001_3 (fun k_ => some k_ = (.slice Ao66 x977002_3.length co66 : Value).ownBlock) _ _ x977002_3 t1024 _ ?side1 ?side2 ?side3 A64.out).mono ?_); (case side1 => exact Kd.R_V (Kd.R_tight rfl (Kd.R_types (Kd.R_types (HO_977000.out) BK976.out (by decide)) BK1022.out (by decide)))); (case side2 => exact Kd.R_V (Kd.R_tight rfl (Kd.R_types (Kd.R_types (HO_977001.out) BK976.out (by decide)) BK1022.out (by decide)))); (case side3 => exact Kd.R_V (Kd.R_tight rfl (Kd.R_types (Kd.R_types (HO_977002.out) BK976.out (by decide)) BK1022.out (by decide)))); rintro e w79 ⟨rfl, hb⟩; replace HO_977000 := am (Kd.R_below (rl HO_977000.out) hb); replace HO_977001 := am (Kd.R_below (rl HO_977001.out) hb); replace HO_977002 := am (Kd.R_below (rl HO_977002.out) hb); replace HO1014 := am (Kd.R_below (rl HO1014.out) hb); replace HO1017 := am (Kd.R_below (rl HO1017.out) hb); replace HO1020 := am (Kd.R_below (rl HO1020.out) hb); replace BK976 := am (blk_below (g := gb976) (o := .cells #[.slice Ao67 x977000_3.length co67, .slice Ao76 x977001_3.length co76, .slice Ao66 x977002_3.length co66] 25 (0, 0)) (kl BK976.out) hb); replace BK1022 := am (blk_below (g := gb1022) (o := .cells #[.slice Ao70 t1012.length co70, .slice Ao73 t1015.length co73, .slice Ao74 t1018.length co74] 25 (0, 0)) (kl BK1022.out) hb); replace HB := am (below_step (bs2 GE976.out GE1022.out HB.out) hb); (try clear hb); (try clear hb2); (try clear hk); (try clear hi)))
             go_ret
             exact ⟨by first | rfl | (simp [errW_none, errW_some] <;> rfl) | (simp [*, errW_none, errW_some] <;> rfl), by exact bs2 GE976.out GE1022.out HB.out⟩
            ·replace c63 := Bool.eq_false_iff.mpr c63
             subst c63
             have H1 : (none) = some r := by rw [if_neg (show ¬ (false = true) by decide)] at H; exact H
             clear H
             have H := H1
             clear H1
             exact absurd H (by simp)
           ·replace c61 := Bool.eq_false_iff.mpr c61
            subst c61
            have H1 : (none) = some r := by rw [if_neg (show ¬ (false = true) by decide)] at H; exact H
            clear H
            have H := H1
            clear H1
            exact absurd H (by simp)

/-- THE ONE PURE STATEMENT of laws_FnClearAll: yours. -/
def laws_FnClearAll.Pure : Prop := ∀ (l0 : List Int), l0.length ≤ maxLen → l0.length * 1 ≤ 140737488351232 → (∀ x ∈ l0, (Lit.int .u8 x).wf = true) → ∃ k, laws_FnClearAll.f k l0 = some true
theorem laws_FnClearAll.walk (P : laws_FnClearAll.Pure) (a0 : Option Addr) (len0 cap0 : Nat) (z0 : List Int) (w : World) (w0 : (a0 = none ∧ len0 = 0 ∧ cap0 = 0 ∧ z0 = []) ∨ ∃ x, a0 = some x ∧ len0 ≤ cap0 ∧ cap0 ≤ maxLen ∧ z0.length = cap0 ∧ (∀ i, i < z0.length → w.cell? (x.add i) = some (.int .u8 (z0.getD i 0))) ∧ ∀ n ∈ z0, (Lit.int .u8 n).wf = true) (y0 : len0 * 1 ≤ 140737488351232) :
  Calls Try.prog 11 #[.slice a0 len0 cap0] w fun e w' => e = .returned (.bool true) ∧ Below w.heap.size w w' := by
 obtain ⟨l0, rfl, hr0, hm0, hw0, hc0⟩ := ReadsInt.ofRowC w0
 obtain ⟨k, h⟩ := P l0 hm0 y0 hw0
 refine (laws_FnClearAll.calls k _ _ l0 true w (Kd.C_of_reads (d := (0 : Int)) (h1 := fun _ => rfl) hr0) hc0 h).mono ?_
 rintro e w' ⟨rfl, hd⟩
 exact ⟨rfl, hd⟩

end Go.Proofs.Ytghgpinhghhlgaa.A
