/- Contracts of functions of the given program (CLawsFnGarbagePointers). No conditions beyond those stated. -/
import Derived.Test.YtghgpinhghhlgaaA0
import Derived.Test.YtghgpinhghhlgaaAImplCountLive
import Derived.Test.YtghgpinhghhlgaaAImplGarbageOf
import Derived.Test.YtghgpinhghhlgaaAImplPutLeft
import Derived.Test.YtghgpinhghhlgaaAImplPutRight
import Derived.Test.YtghgpinhghhlgaaALawsCcInts
import Derived.Test.YtghgpinhghhlgaaASpecDrawGarbageOf
import Derived.Test.YtghgpinhghhlgaaASpecGarbageOf
import Derived.Test.YtghgpinhghhlgaaA0
namespace Go.Proofs.Ytghgpinhghhlgaa.A
open Go.RowKit Go.Proofs.YtghgpinhghhlgaaW.PrintWords Go.Proofs.YtghgpinhghhlgaaW.PrintLast Go.Proofs.YtghgpinhghhlgaaW.PrintMore
attribute [local go_sem] max2_int min2_int max_two min_two max_three min_three max_four min_four   -- for this text's walks alone
set_option linter.unusedVariables false
set_option linter.unusedSimpArgs false

/-! ### laws_FnGarbagePointers -/
def laws_FnGarbagePointers.j0 : Nat → List Int → Bool → List Int → List Int → List Int → Option (Bool)
 | 0, _, _, _, _, _ => none
 | k + 1, x4, x25, x878000, x878001, x878002 => if x25 = true then ((spec_GarbageOf.f k x878000 x878001 x878002).bind fun t885 => ((laws_ccInts.f k x4 t885).bind fun t888 => (some t888))) else (if 0 < (x4.length : Int) then ((impl_PutLeft.f k x878000 x878001 x878002 (rd x4 0) (rd x4 0)).bind fun bt891 => ((impl_PutRight.f k bt891.1 bt891.2.1 bt891.2.2.1 (rd x4 0) 0).bind fun bt903 => (if bt891.2.2.2 = true then (if bt903.2.2.2 = true then ((impl_GarbageOf.f k bt903.1 bt903.2.1 bt903.2.2.1).bind fun t914 => ((laws_ccInts.f k t914 x4).bind fun t917 => (if t917 = true then ((impl_CountLive.f k bt903.1 bt903.2.1 bt903.2.2.1).bind fun t918 => ((impl_CountLive.f k x878000 x878001 x878002).bind fun t919 => (some (t918 == t919)))) else (none)))) else (none)) else (none)))) else (none))
def laws_FnGarbagePointers.f (k : Nat) (l0 : List Int) : Option (Bool) := if (l0.length : Int) > 1048576 then (some true) else ((spec_DrawGarbageOf.f k l0).bind fun bt868 => ((impl_GarbageOf.f k bt868.1 bt868.2.1 bt868.2.2).bind fun t878 => ((spec_GarbageOf.f k bt868.1 bt868.2.1 bt868.2.2).bind fun t881 => ((laws_ccInts.f k t878 t881).bind fun t884 => (if t884 = true then (laws_FnGarbagePointers.j0 k t878 ((t878.length : Int) == 0) bt868.1 bt868.2.1 bt868.2.2) else (laws_FnGarbagePointers.j0 k t878 true bt868.1 bt868.2.1 bt868.2.2))))))
theorem laws_FnGarbagePointers.mono_l : ∀ k, (∀ y0 y1 y2 y3 y4, LeO (laws_FnGarbagePointers.j0 k y0 y1 y2 y3 y4) (laws_FnGarbagePointers.j0 (k + 1) y0 y1 y2 y3 y4))
 | 0 => fun _ _ _ _ _ r h => by simp [laws_FnGarbagePointers.j0] at h
 | k + 1 => by
  have ih0 := laws_FnGarbagePointers.mono_l k
  ·intro y0 y1 y2 y3 y4
   unfold laws_FnGarbagePointers.j0
   repeat' first
   | (with_reducible exact ih0 _ _ _ _ _)
   | (with_reducible exact impl_CountLive.mono _ _ _ _)
   | (with_reducible exact impl_GarbageOf.mono _ _ _ _)
   | (with_reducible exact impl_PutLeft.mono _ _ _ _ _ _)
   | (with_reducible exact impl_PutRight.mono _ _ _ _ _ _)
   | (with_reducible exact laws_ccInts.mono _ _ _)
   | (with_reducible exact spec_DrawGarbageOf.mono _ _)
   | (with_reducible exact spec_GarbageOf.mono _ _ _ _)
   | (with_reducible exact LeO.refl _)
   | (with_reducible exact LeO.none _)
   | (with_reducible refine LeO.ite ?_ ?_)
   | (with_reducible refine LeO.bind ?_ (fun _ => ?_))
   | exact ih0 _ _ _ _ _
   | exact impl_CountLive.mono _ _ _ _
   | exact impl_GarbageOf.mono _ _ _ _
   | exact impl_PutLeft.mono _ _ _ _ _ _
   | exact impl_PutRight.mono _ _ _ _ _ _
   | exact laws_ccInts.mono _ _ _
   | exact spec_DrawGarbageOf.mono _ _
   | exact spec_GarbageOf.mono _ _ _ _
   | exact LeO.none _
   | refine LeO.ite ?_ ?_
   | refine LeO.bind ?_ (fun _ => ?_)
theorem laws_FnGarbagePointers.mono : ∀ a0 k, LeO (laws_FnGarbagePointers.f k a0) (laws_FnGarbagePointers.f (k + 1) a0) := by
 intro a0 k
 have ih0 := laws_FnGarbagePointers.mono_l k
 unfold laws_FnGarbagePointers.f
 repeat' first
   | (with_reducible exact ih0 _ _ _ _ _)
   | (with_reducible exact impl_CountLive.mono _ _ _ _)
   | (with_reducible exact impl_GarbageOf.mono _ _ _ _)
   | (with_reducible exact impl_PutLeft.mono _ _ _ _ _ _)
   | (with_reducible exact impl_PutRight.mono _ _ _ _ _ _)
   | (with_reducible exact laws_ccInts.mono _ _ _)
   | (with_reducible exact spec_DrawGarbageOf.mono _ _)
   | (with_reducible exact spec_GarbageOf.mono _ _ _ _)
   | (with_reducible exact LeO.refl _)
   | (with_reducible exact LeO.none _)
   | (with_reducible refine LeO.ite ?_ ?_)
   | (with_reducible refine LeO.bind ?_ (fun _ => ?_))
   | exact ih0 _ _ _ _ _
   | exact impl_CountLive.mono _ _ _ _
   | exact impl_GarbageOf.mono _ _ _ _
   | exact impl_PutLeft.mono _ _ _ _ _ _
   | exact impl_PutRight.mono _ _ _ _ _ _
   | exact laws_ccInts.mono _ _ _
   | exact spec_DrawGarbageOf.mono _ _
   | exact spec_GarbageOf.mono _ _ _ _
   | exact LeO.none _
   | refine LeO.ite ?_ ?_
   | refine LeO.bind ?_ (fun _ => ?_)
def laws_FnGarbagePointers.T7 : Bool × List (List Nat × List Nat) := (true, [([], []), ([], []), ([1], [1]), ([2], [2]), ([], []), ([4], [4]), ([5], [5]), ([0, 3, 6], [0, 3, 6]), ([7], [7]), ([8], [8]), ([8], [8]), ([], []), ([11, 9, 7, 0, 1, 2, 3, 4, 5, 6, 7, 8, 9, 11], [9, 11]), ([10, 12, 0, 1, 2, 3, 4, 5, 6, 7, 8, 9, 10, 11, 12], [10])])
def laws_FnGarbagePointers.B7 : List Nat := [0, 0, 2, 6, 0, 16, 48, 127, 255, 511, 511, 0, 3071, 8191]
theorem laws_FnGarbagePointers.tab7 : rtab .any (opsOf Try.f10 7) = laws_FnGarbagePointers.T7 := by kernel_rfl
theorem laws_FnGarbagePointers.bits7 : waitsOk laws_FnGarbagePointers.T7.2 laws_FnGarbagePointers.B7 = true := by kernel_rfl
def laws_FnGarbagePointers.T8 : Bool × List (List Nat × List Nat) := (true, [([], []), ([], []), ([1], [1]), ([2], [2]), ([0, 3], [0, 3]), ([4], [4]), ([5], [5]), ([5], [5]), ([], []), ([8, 6, 4, 0, 1, 2, 3, 4, 5, 6, 8], [6, 8]), ([7, 9, 0, 1, 2, 3, 4, 5, 6, 7, 8, 9], [7])])
def laws_FnGarbagePointers.B8 : List Nat := [0, 0, 2, 6, 15, 31, 63, 63, 0, 383, 1023]
theorem laws_FnGarbagePointers.tab8 : rtab .any (opsOf Try.f10 8) = laws_FnGarbagePointers.T8 := by kernel_rfl
theorem laws_FnGarbagePointers.bits8 : waitsOk laws_FnGarbagePointers.T8.2 laws_FnGarbagePointers.B8 = true := by kernel_rfl
def laws_FnGarbagePointers.T9 : Bool × List (List Nat × List Nat) := (true, [([], []), ([0], [0]), ([1], [1]), ([1, 2], [1, 2]), ([3, 1], [3]), ([4], [4]), ([5, 4, 4], [4, 5]), ([4], [4]), ([6, 7, 6, 4], [4, 6, 7]), ([4, 8], [4, 8]), ([9, 8], [9]), ([10], [10]), ([11, 10, 10], [10, 11]), ([10], [10]), ([13, 12, 10], [10, 13]), ([12, 14, 10], [10, 12, 14]), ([10, 15], [10, 15]), ([16, 14, 0, 1, 2, 3, 4, 5, 6, 7, 8, 9, 10, 11, 12, 13, 14, 15, 16], [16])])
def laws_FnGarbagePointers.B9 : List Nat := [0, 1, 3, 7, 15, 31, 63, 31, 255, 511, 1023, 2047, 4095, 2047, 16383, 32767, 65535, 131071]
theorem laws_FnGarbagePointers.tab9 : rtab .any (opsOf Try.f10 9) = laws_FnGarbagePointers.T9 := by kernel_rfl
theorem laws_FnGarbagePointers.bits9 : waitsOk laws_FnGarbagePointers.T9.2 laws_FnGarbagePointers.B9 = true := by kernel_rfl
set_option maxHeartbeats 8000000 in
set_option maxRecDepth 100000 in
theorem laws_FnGarbagePointers.calls (k : Nat) (A0 : Option Addr) (c0 : Nat) (l0 : List Int) (r : Bool) (w : World) (hr0 : Kd.C (Kd.int .u8) w A0 l0.length l0) (hc0 : l0.length ≤ c0) (h : laws_FnGarbagePointers.f k l0 = some r) :
  Calls Try.prog 10 #[.slice A0 l0.length c0] w fun e w' => e = .returned (.bool r) ∧ Below w.heap.size w w' := by
 have hu25 := Try.underlying25
 have HR0 := am hr0
 have HC0 := am hc0
 clear hr0 hc0
 have HB := am (Below.refl w.heap.size w)
 have H : (if (l0.length : Int) > 1048576 then (some true) else ((spec_DrawGarbageOf.f k l0).bind fun bt868 => ((impl_GarbageOf.f k bt868.1 bt868.2.1 bt868.2.2).bind fun t878 => ((spec_GarbageOf.f k bt868.1 bt868.2.1 bt868.2.2).bind fun t881 => ((laws_ccInts.f k t878 t881).bind fun t884 => (if t884 = true then (laws_FnGarbagePointers.j0 k t878 ((t878.length : Int) == 0) bt868.1 bt868.2.1 bt868.2.2) else (laws_FnGarbagePointers.j0 k t878 true bt868.1 bt868.2.1 bt868.2.2))))))) = some r := h
 clear h
 by_cases c2 : (l0.length : Int) > 1048576
 ·rw [if_pos c2] at H
  have c2b0 : decide (1048576 < (l0.length : Int)) = true := decide_eq_true c2
  have c2b1 : decide (1048576 < l0.length) = true := decide_eq_true (by omega)
  clear c2
  obtain rfl := Option.some.inj H
  go_enter Try.func10, Try.ntmps10
  go_wp2
  go_ret
  exact ⟨by first | rfl | (simp [errW_none, errW_some] <;> rfl) | (simp [*, errW_none, errW_some] <;> rfl), by exact bs0 HB.out⟩
 ·rw [if_neg c2] at H
  have c2b0 : decide (1048576 < (l0.length : Int)) = false := decide_eq_false c2
  have c2b1 : decide (1048576 < l0.length) = false := decide_eq_false (by omega)
  clear c2
  replace H := Option.bind_eq_some_iff.mp H
  obtain ⟨⟨t868, t871, t874⟩, A30, H⟩ := H
  replace H : ((impl_GarbageOf.f k t868 t871 t874).bind fun t878 => ((spec_GarbageOf.f k t868 t871 t874).bind fun t881 => ((laws_ccInts.f k t878 t881).bind fun t884 => (if t884 = true then (laws_FnGarbagePointers.j0 k t878 ((t878.length : Int) == 0) t868 t871 t874) else (laws_FnGarbagePointers.j0 k t878 true t868 t871 t874))))) = some r := H
  have A3 := am A30
  clear A30
  replace H := Option.bind_eq_some_iff.mp H
  obtain ⟨t878, A40, H⟩ := H
  replace H : ((spec_GarbageOf.f k t868 t871 t874).bind fun t881 => ((laws_ccInts.f k t878 t881).bind fun t884 => (if t884 = true then (laws_FnGarbagePointers.j0 k t878 ((t878.length : Int) == 0) t868 t871 t874) else (laws_FnGarbagePointers.j0 k t878 true t868 t871 t874)))) = some r := H
  have A4 := am A40
  clear A40
  have HC5 := am H
  clear H
  go_enter Try.func10, Try.ntmps10
  go_upto_region 5 with (first | ((with_reducible refine gate_callee (f := 20) rfl ?_); refine goesL_ (some 13) rfl rfl Try.func20 (by kernel_rfl) rfl #[.slice A0 l0.length c0] rfl (by (try simp only [List.map_toArray, List.map_cons, List.map_nil]); first | done | rfl | (simp only [List.length_drop, List.length_take]; rfl)) ?_; (with_reducible refine (spec_DrawGarbageOf.calls k _ _ l0 t868 t871 t874 _ ?side1 ?side2 A3.out).mono ?_); (case side1 => exact cl (HR0.out)); (case side2 => exact HC0.out); rintro e w6 ⟨v869, v872, v875, rfl, ho0, ho1, ho2, hb⟩; refine ⟨_, rfl, ?_⟩; have HO870 := am (Kd.R_lower ho0 (below_size (bl HB.out))); have HO873 := am (Kd.R_lower ho1 (below_size (bl HB.out))); have HO876 := am (Kd.R_lower ho2 (below_size (bl HB.out))); replace HB := am (below_step (bl HB.out) hb); (try clear hb); (try clear hb2); (try clear hk); (try clear hi); (try clear ho0); (try clear ho1); (try clear ho2)) | ((with_reducible refine gate_dst (N := 3) rfl ?_); (try (refine gate_guard (by rfl) ?_; dsimp only)); refine box_event ?hg (N := 3) ?hd (cs := #[.slice none 0 0, .slice none 0 0, .slice none 0 0]) (t := 25) ?hr ?_; (case hd => rfl); (case hg => rfl); (case hr => first | (go_simp; done) | (go_simp; rfl)); intro gb877 hg w7 hbox hb; replace HO870 := am (Kd.R_below (rl HO870.out) hb); replace HO873 := am (Kd.R_below (rl HO873.out) hb); replace HO876 := am (Kd.R_below (rl HO876.out) hb); have BK877 := am (hbox); have GW877 := am ((by rw [hg]; exact (below_size (bl HB.out)) : w.heap.size ≤ gb877)); have GE877 := am ((by rw [hg]; exact (below_size (bl HB.out)) : w.heap.size ≤ gb877)); replace HB := am (below_step (bl HB.out) hb); clear hb hbox hg; obtain ⟨Ao8, co8, eo8⟩ := Kd.R_slice HO870.out; subst eo8; have hcz9_0 : w7.cell? ⟨gb877, 0, none⟩ = some (.slice none 0 0) := (blk_cell BK877.out 0).trans rfl; have hcz9_1 : w7.cell? ⟨gb877, 1, none⟩ = some (.slice none 0 0) := (blk_cell BK877.out 1).trans rfl; have hcz9_2 : w7.cell? ⟨gb877, 2, none⟩ = some (.slice none 0 0) := (blk_cell BK877.out 2).trans rfl; have hfz9_0 := blk_frozen BK877.out 0; have hfz9_1 := blk_frozen BK877.out 1; have hfz9_2 := blk_frozen BK877.out 2; obtain ⟨Ao10, co10, eo10⟩ := Kd.R_slice HO873.out; subst eo10; obtain ⟨Ao11, co11, eo11⟩ := Kd.R_slice HO876.out; subst eo11) | ((with_reducible refine gate_callee (f := 21) rfl ?_); refine goesL_ (some 15) rfl rfl Try.func21 (by kernel_rfl) rfl #[.agg #[.slice Ao8 t868.length co8, .slice Ao10 t871.length co10, .slice Ao11 t874.length co11]] rfl (by (try simp only [List.map_toArray, List.map_cons, List.map_nil]); first | done | rfl | (simp only [List.length_drop, List.length_take]; rfl)) ?_; (with_reducible refine (impl_GarbageOf.calls k _ _ t868 _ _ t871 _ _ t874 t878 _ ?side1 ?side2 ?side3 ?side4 ?side5 ?side6 A4.out).mono ?_); (case side1 => exact (Kd.R_reads' (rf1 BK877.out HO870.out)).2.2); (case side2 => exact (Kd.R_reads' HO870.out).2.1); (case side3 => exact (Kd.R_reads' (rf1 BK877.out HO873.out)).2.2); (case side4 => exact (Kd.R_reads' HO873.out).2.1); (case side5 => exact (Kd.R_reads' (rf1 BK877.out HO876.out)).2.2); (case side6 => exact (Kd.R_reads' HO876.out).2.1); rintro e w12 ⟨v879, rfl, ho0, hb⟩; refine ⟨_, rfl, ?_⟩; have HO880 := am (Kd.R_lower (Kd.R_new' (Kd.R_new' (Kd.R_new' ho0 (Kd.R_lt (rf1 BK877.out HO870.out))) (Kd.R_lt (rf1 BK877.out HO873.out))) (Kd.R_lt (rf1 BK877.out HO876.out))) (below_size (bs1 GE877.out HB.out))); replace HO870 := am (Kd.R_elder' (rf1 BK877.out HO870.out) (Kd.R_base ho0) hb); replace HO873 := am (Kd.R_elder' (rf1 BK877.out HO873.out) (Kd.R_base ho0) hb); replace HO876 := am (Kd.R_elder' (rf1 BK877.out HO876.out) (Kd.R_base ho0) hb); replace BK877 := am (blk_below (g := gb877) (o := .cells #[.slice Ao8 t868.length co8, .slice Ao10 t871.length co10, .slice Ao11 t874.length co11] 25 (0, 0)) (kp3 (kf0 BK877.out)) hb); replace HB := am (below_step (bs1 GE877.out HB.out) hb); (try clear hb); (try clear hb2); (try clear hk); (try clear hi); (try clear ho0)))
  (try simp only [Act.put, List.setIfInBounds_toArray, List.set_cons_zero, List.set_cons_succ])
  go_cut [25] (fun v25 wc => ∃ (kq : Nat) (x25_4 : Bool), v25 = .bool x25_4 ∧ Aside0 (laws_FnGarbagePointers.j0 kq t878 x25_4 t868 t871 t874 = some r) ∧ Aside0 (kq ≤ k) ∧ Aside0 (Kd.R (Kd.int .i64) 3 wc w.heap.size (fun k_ => some k_ ≠ ((.slice Ao8 t868.length co8) : Value).ownBlock ∧ some k_ ≠ ((.slice Ao10 t871.length co10) : Value).ownBlock ∧ some k_ ≠ ((.slice Ao11 t874.length co11) : Value).ownBlock) v879 t878) ∧ Aside0 (Kd.R (Kd.int .i64) 3 wc w.heap.size (fun k_ => some k_ ≠ (v879 : Value).ownBlock ∧ some k_ ≠ ((.slice Ao10 t871.length co10) : Value).ownBlock ∧ some k_ ≠ ((.slice Ao11 t874.length co11) : Value).ownBlock) (.slice Ao8 t868.length co8) t868) ∧ Aside0 (Kd.R (Kd.int .i64) 3 wc w.heap.size (fun k_ => some k_ ≠ (v879 : Value).ownBlock ∧ some k_ ≠ ((.slice Ao8 t868.length co8) : Value).ownBlock ∧ some k_ ≠ ((.slice Ao11 t874.length co11) : Value).ownBlock) (.slice Ao10 t871.length co10) t871) ∧ Aside0 (Kd.R (Kd.int .i64) 3 wc w.heap.size (fun k_ => some k_ ≠ (v879 : Value).ownBlock ∧ some k_ ≠ ((.slice Ao8 t868.length co8) : Value).ownBlock ∧ some k_ ≠ ((.slice Ao10 t871.length co10) : Value).ownBlock) (.slice Ao11 t874.length co11) t874) ∧ Aside0 (wc.heap[gb877]? = some (.cells #[(.slice Ao8 t868.length co8), (.slice Ao10 t871.length co10), (.slice Ao11 t874.length co11)] 25 (0, 0))) ∧ Aside0 (Below w.heap.size w wc))
  case first =>
   have H := HC5.out
   clear HC5
   replace H := Option.bind_eq_some_iff.mp H
   obtain ⟨t881, A130, H⟩ := H
   replace H : ((laws_ccInts.f k t878 t881).bind fun t884 => (if t884 = true then (laws_FnGarbagePointers.j0 k t878 ((t878.length : Int) == 0) t868 t871 t874) else (laws_FnGarbagePointers.j0 k t878 true t868 t871 t874))) = some r := H
   have A13 := am A130
   clear A130
   replace H := Option.bind_eq_some_iff.mp H
   obtain ⟨t884, A140, H⟩ := H
   replace H : (if t884 = true then (laws_FnGarbagePointers.j0 k t878 ((t878.length : Int) == 0) t868 t871 t874) else (laws_FnGarbagePointers.j0 k t878 true t868 t871 t874)) = some r := H
   have A14 := am A140
   clear A140
   by_cases c15 : t884 = true
   ·subst c15
    have H1 : (laws_FnGarbagePointers.j0 k t878 ((t878.length : Int) == 0) t868 t871 t874) = some r := by rw [if_pos rfl] at H; exact H
    clear H
    have H := H1
    clear H1
    have H' := am H
    clear H
    have hcz16_0 : w12.cell? ⟨gb877, 0, none⟩ = some (.slice Ao8 t868.length co8) := (blk_cell BK877.out 0).trans rfl
    have hcz16_1 : w12.cell? ⟨gb877, 1, none⟩ = some (.slice Ao10 t871.length co10) := (blk_cell BK877.out 1).trans rfl
    have hcz16_2 : w12.cell? ⟨gb877, 2, none⟩ = some (.slice Ao11 t874.length co11) := (blk_cell BK877.out 2).trans rfl
    have hfz16_0 := blk_frozen BK877.out 0
    have hfz16_1 := blk_frozen BK877.out 1
    have hfz16_2 := blk_frozen BK877.out 2
    go_wp2_with (first | ((with_reducible refine gate_callee (f := 22) rfl ?_); refine goesL_ (some 18) rfl rfl Try.func22 (by kernel_rfl) rfl #[.agg #[.slice Ao8 t868.length co8, .slice Ao10 t871.length co10, .slice Ao11 t874.length co11]] rfl (by (try simp only [List.map_toArray, List.map_cons, List.map_nil]); first | done | rfl | (simp only [List.length_drop, List.length_take]; rfl)) ?_; (with_reducible refine (spec_GarbageOf.calls k _ _ t868 _ _ t871 _ _ t874 t881 _ ?side1 ?side2 ?side3 ?side4 ?side5 ?side6 A13.out).mono ?_); (case side1 => exact cl ((Kd.R_reads' HO870.out).2.2)); (case side2 => exact (Kd.R_reads' HO870.out).2.1); (case side3 => exact cl ((Kd.R_reads' HO873.out).2.2)); (case side4 => exact (Kd.R_reads' HO873.out).2.1); (case side5 => exact cl ((Kd.R_reads' HO876.out).2.2)); (case side6 => exact (Kd.R_reads' HO876.out).2.1); rintro e w17 ⟨v882, rfl, ho0, hb⟩; refine ⟨_, rfl, ?_⟩; have HO883 := am (Kd.R_lower (Kd.R_new' (Kd.R_new' (Kd.R_new' (Kd.R_new' ho0 (Kd.R_lt (rl HO870.out))) (Kd.R_lt (rl HO873.out))) (Kd.R_lt (rl HO876.out))) (Kd.R_lt (rl HO880.out))) (below_size (bs1 GE877.out HB.out))); replace HO870 := am (Kd.R_elder' (rl HO870.out) (Kd.R_base ho0) hb); replace HO873 := am (Kd.R_elder' (rl HO873.out) (Kd.R_base ho0) hb); replace HO876 := am (Kd.R_elder' (rl HO876.out) (Kd.R_base ho0) hb); replace HO880 := am (Kd.R_elder' (rl HO880.out) (Kd.R_base ho0) hb); replace BK877 := am (blk_below (g := gb877) (o := .cells #[.slice Ao8 t868.length co8, .slice Ao10 t871.length co10, .slice Ao11 t874.length co11] 25 (0, 0)) (kl BK877.out) hb); replace HB := am (below_step (bs1 GE877.out HB.out) hb); (try clear hb); (try clear hb2); (try clear hk); (try clear hi); (try clear ho0); obtain ⟨Ao18, co18, eo18⟩ := Kd.R_slice HO880.out; subst eo18; obtain ⟨Ao19, co19, eo19⟩ := Kd.R_slice HO883.out; subst eo19) | ((with_reducible refine gate_callee (f := 19) rfl ?_); refine goesL_ (some 19) rfl rfl Try.func19 (by kernel_rfl) rfl #[.slice Ao18 t878.length co18, .slice Ao19 t881.length co19] rfl (by (try simp only [List.map_toArray, List.map_cons, List.map_nil]); first | done | rfl | (simp only [List.length_drop, List.length_take]; rfl)) ?_; (with_reducible refine (laws_ccInts.calls k _ _ t878 _ _ t881 true _ ?side1 ?side2 ?side3 ?side4 A14.out).mono ?_); (case side1 => exact cl ((Kd.R_reads' HO880.out).2.2)); (case side2 => exact (Kd.R_reads' HO880.out).2.1); (case side3 => exact cl ((Kd.R_reads' HO883.out).2.2)); (case side4 => exact (Kd.R_reads' HO883.out).2.1); rintro e w' ⟨rfl, ⟨nd, rfl⟩⟩; refine ⟨_, rfl, ?_⟩))
    go_meet
    case rel => exact ⟨_, (((t878.length : Int) == 0)), (by first | rfl | (simp; done) | (simp [*]; done)), H', ⟨by first | omega | exact Nat.le_refl _⟩, ⟨rl (Kd.R_mono HO880.out (fun _ hk => by first | exact ⟨hk.1.1.1.2, ⟨hk.1.1.2, hk.1.2⟩⟩ | (simp only [ne_eq] at hk ⊢; simp only [hk, not_false_eq_true, and_self])))⟩, ⟨rl (Kd.R_mono HO870.out (fun _ hk => by first | exact ⟨hk.1.2, ⟨hk.1.1.1, hk.1.1.2⟩⟩ | (simp only [ne_eq] at hk ⊢; simp only [hk, not_false_eq_true, and_self])))⟩, ⟨rl (Kd.R_mono HO873.out (fun _ hk => by first | exact ⟨hk.1.2, ⟨hk.1.1.1, hk.1.1.2⟩⟩ | (simp only [ne_eq] at hk ⊢; simp only [hk, not_false_eq_true, and_self])))⟩, ⟨rl (Kd.R_mono HO876.out (fun _ hk => by first | exact ⟨hk.1.2, ⟨hk.1.1.1, hk.1.1.2⟩⟩ | (simp only [ne_eq] at hk ⊢; simp only [hk, not_false_eq_true, and_self])))⟩, ⟨kl BK877.out⟩, ⟨by exact bs1 GE877.out HB.out⟩⟩
   ·replace c15 := Bool.eq_false_iff.mpr c15
    subst c15
    have H1 : (laws_FnGarbagePointers.j0 k t878 true t868 t871 t874) = some r := by rw [if_neg (show ¬ (false = true) by decide)] at H; exact H
    clear H
    have H := H1
    clear H1
    have H' := am H
    clear H
    have hcz20_0 : w12.cell? ⟨gb877, 0, none⟩ = some (.slice Ao8 t868.length co8) := (blk_cell BK877.out 0).trans rfl
    have hcz20_1 : w12.cell? ⟨gb877, 1, none⟩ = some (.slice Ao10 t871.length co10) := (blk_cell BK877.out 1).trans rfl
    have hcz20_2 : w12.cell? ⟨gb877, 2, none⟩ = some (.slice Ao11 t874.length co11) := (blk_cell BK877.out 2).trans rfl
    have hfz20_0 := blk_frozen BK877.out 0
    have hfz20_1 := blk_frozen BK877.out 1
    have hfz20_2 := blk_frozen BK877.out 2
    go_wp2_with (first | ((with_reducible refine gate_callee (f := 22) rfl ?_); refine goesL_ (some 18) rfl rfl Try.func22 (by kernel_rfl) rfl #[.agg #[.slice Ao8 t868.length co8, .slice Ao10 t871.length co10, .slice Ao11 t874.length co11]] rfl (by (try simp only [List.map_toArray, List.map_cons, List.map_nil]); first | done | rfl | (simp only [List.length_drop, List.length_take]; rfl)) ?_; (with_reducible refine (spec_GarbageOf.calls k _ _ t868 _ _ t871 _ _ t874 t881 _ ?side1 ?side2 ?side3 ?side4 ?side5 ?side6 A13.out).mono ?_); (case side1 => exact cl ((Kd.R_reads' HO870.out).2.2)); (case side2 => exact (Kd.R_reads' HO870.out).2.1); (case side3 => exact cl ((Kd.R_reads' HO873.out).2.2)); (case side4 => exact (Kd.R_reads' HO873.out).2.1); (case side5 => exact cl ((Kd.R_reads' HO876.out).2.2)); (case side6 => exact (Kd.R_reads' HO876.out).2.1); rintro e w21 ⟨v882, rfl, ho0, hb⟩; refine ⟨_, rfl, ?_⟩; have HO883 := am (Kd.R_lower (Kd.R_new' (Kd.R_new' (Kd.R_new' (Kd.R_new' ho0 (Kd.R_lt (rl HO870.out))) (Kd.R_lt (rl HO873.out))) (Kd.R_lt (rl HO876.out))) (Kd.R_lt (rl HO880.out))) (below_size (bs1 GE877.out HB.out))); replace HO870 := am (Kd.R_elder' (rl HO870.out) (Kd.R_base ho0) hb); replace HO873 := am (Kd.R_elder' (rl HO873.out) (Kd.R_base ho0) hb); replace HO876 := am (Kd.R_elder' (rl HO876.out) (Kd.R_base ho0) hb); replace HO880 := am (Kd.R_elder' (rl HO880.out) (Kd.R_base ho0) hb); replace BK877 := am (blk_below (g := gb877) (o := .cells #[.slice Ao8 t868.length co8, .slice Ao10 t871.length co10, .slice Ao11 t874.length co11] 25 (0, 0)) (kl BK877.out) hb); replace HB := am (below_step (bs1 GE877.out HB.out) hb); (try clear hb); (try clear hb2); (try clear hk); (try clear hi); (try clear ho0); obtain ⟨Ao22, co22, eo22⟩ := Kd.R_slice HO880.out; subst eo22; obtain ⟨Ao23, co23, eo23⟩ := Kd.R_slice HO883.out; subst eo23) | ((with_reducible refine gate_callee (f := 19) rfl ?_); refine goesL_ (some 19) rfl rfl Try.func19 (by kernel_rfl) rfl #[.slice Ao22 t878.length co22, .slice Ao23 t881.length co23] rfl (by (try simp only [List.map_toArray, List.map_cons, List.map_nil]); first | done | rfl | (simp only [List.length_drop, List.length_take]; rfl)) ?_; (with_reducible refine (laws_ccInts.calls k _ _ t878 _ _ t881 false _ ?side1 ?side2 ?side3 ?side4 A14.out).mono ?_); (case side1 => exact cl ((Kd.R_reads' HO880.out).2.2)); (case side2 => exact (Kd.R_reads' HO880.out).2.1); (case side3 => exact cl ((Kd.R_reads' HO883.out).2.2)); (case side4 => exact (Kd.R_reads' HO883.out).2.1); rintro e w' ⟨rfl, ⟨nd, rfl⟩⟩; refine ⟨_, rfl, ?_⟩))
    go_meet
    case rel => exact ⟨_, (true), (by first | rfl | (simp; done) | (simp [*]; done)), H', ⟨by first | omega | exact Nat.le_refl _⟩, ⟨rl (Kd.R_mono HO880.out (fun _ hk => by first | exact ⟨hk.1.1.1.2, ⟨hk.1.1.2, hk.1.2⟩⟩ | (simp only [ne_eq] at hk ⊢; simp only [hk, not_false_eq_true, and_self])))⟩, ⟨rl (Kd.R_mono HO870.out (fun _ hk => by first | exact ⟨hk.1.2, ⟨hk.1.1.1, hk.1.1.2⟩⟩ | (simp only [ne_eq] at hk ⊢; simp only [hk, not_false_eq_true, and_self])))⟩, ⟨rl (Kd.R_mono HO873.out (fun _ hk => by first | exact ⟨hk.1.2, ⟨hk.1.1.1, hk.1.1.2⟩⟩ | (simp only [ne_eq] at hk ⊢; simp only [hk, not_false_eq_true, and_self])))⟩, ⟨rl (Kd.R_mono HO876.out (fun _ hk => by first | exact ⟨hk.1.2, ⟨hk.1.1.1, hk.1.1.2⟩⟩ | (simp only [ne_eq] at hk ⊢; simp only [hk, not_false_eq_true, and_self])))⟩, ⟨kl BK877.out⟩, ⟨by exact bs1 GE877.out HB.out⟩⟩
  case rest =>
   clear HC5
   try clear c1
   try clear c2
   try clear c2b0
   try clear c2b1
   try clear p2
   try clear c10
   try clear c15
   try clear c19
   try clear c20
   try clear c21
   try clear c22
   try clear hcz16_0
   try clear hcz16_1
   try clear hcz16_2
   try clear hcz20_0
   try clear hcz20_1
   try clear hcz20_2
   try clear hcz9_0
   try clear hcz9_1
   try clear hcz9_2
   try clear hfz16_0
   try clear hfz16_1
   try clear hfz16_2
   try clear hfz20_0
   try clear hfz20_1
   try clear hfz20_2
   try clear hfz9_0
   try clear hfz9_1
   try clear hfz9_2
   obtain ⟨kq, x25_4, rfl, HA, HJ4, HO_4, HO_878000, HO_878001, HO_878002, BK877, HB⟩ := hcut
   cases kq with
   | zero => exact absurd HA.out (by simp [laws_FnGarbagePointers.j0])
   | succ kj4 =>
    have H := HA.out
    clear HA
    simp only [laws_FnGarbagePointers.j0] at H
    by_cases c24 : x25_4 = true
    ·subst c24
     have H1 : ((spec_GarbageOf.f kj4 t868 t871 t874).bind fun t885 => ((laws_ccInts.f kj4 t878 t885).bind fun t888 => (some t888))) = some r := by rw [if_pos rfl] at H; exact H
     clear H
     have H := H1
     clear H1
     replace H := Option.bind_eq_some_iff.mp H
     obtain ⟨t885, A250, H⟩ := H
     replace H : ((laws_ccInts.f kj4 t878 t885).bind fun t888 => (some t888)) = some r := H
     have A25 := am A250
     clear A250
     replace H := Option.bind_eq_some_iff.mp H
     obtain ⟨t888, A260, H⟩ := H
     replace H : (some t888) = some r := H
     have A26 := am A260
     clear A260
     obtain rfl := Option.some.inj H
     have hcz27_0 : wc.cell? ⟨gb877, 0, none⟩ = some (.slice Ao8 t868.length co8) := (blk_cell BK877.out 0).trans rfl
     have hcz27_1 : wc.cell? ⟨gb877, 1, none⟩ = some (.slice Ao10 t871.length co10) := (blk_cell BK877.out 1).trans rfl
     have hcz27_2 : wc.cell? ⟨gb877, 2, none⟩ = some (.slice Ao11 t874.length co11) := (blk_cell BK877.out 2).trans rfl
     have hfz27_0 := blk_frozen BK877.out 0
     have hfz27_1 := blk_frozen BK877.out 1
     have hfz27_2 := blk_frozen BK877.out 2
     go_wp2_with (first | ((with_reducible refine gate_callee (f := 22) rfl ?_); refine goesL_ (some 28) rfl rfl Try.func22 (by kernel_rfl) rfl #[.agg #[.slice Ao8 t868.length co8, .slice Ao10 t871.length co10, .slice Ao11 t874.length co11]] rfl (by (try simp only [List.map_toArray, List.map_cons, List.map_nil]); first | done | rfl | (simp only [List.length_drop, List.length_take]; rfl)) ?_; (with_reducible refine (spec_GarbageOf.calls kj4 _ _ t868 _ _ t871 _ _ t874 t885 _ ?side1 ?side2 ?side3 ?side4 ?side5 ?side6 A25.out).mono ?_); (case side1 => exact cl ((Kd.R_reads' HO_878000.out).2.2)); (case side2 => exact (Kd.R_reads' HO_878000.out).2.1); (case side3 => exact cl ((Kd.R_reads' HO_878001.out).2.2)); (case side4 => exact (Kd.R_reads' HO_878001.out).2.1); (case side5 => exact cl ((Kd.R_reads' HO_878002.out).2.2)); (case side6 => exact (Kd.R_reads' HO_878002.out).2.1); rintro e w28 ⟨v886, rfl, ho0, hb⟩; refine ⟨_, rfl, ?_⟩; have HO887 := am (Kd.R_lower (Kd.R_new' (Kd.R_new' (Kd.R_new' (Kd.R_new' ho0 (Kd.R_lt (rl HO_4.out))) (Kd.R_lt (rl HO_878000.out))) (Kd.R_lt (rl HO_878001.out))) (Kd.R_lt (rl HO_878002.out))) (below_size (bs1 GE877.out HB.out))); replace HO_4 := am (Kd.R_elder' (rl HO_4.out) (Kd.R_base ho0) hb); replace HO_878000 := am (Kd.R_elder' (rl HO_878000.out) (Kd.R_base ho0) hb); replace HO_878001 := am (Kd.R_elder' (rl HO_878001.out) (Kd.R_base ho0) hb); replace HO_878002 := am (Kd.R_elder' (rl HO_878002.out) (Kd.R_base ho0) hb); replace BK877 := am (blk_below (g := gb877) (o := .cells #[.slice Ao8 t868.length co8, .slice Ao10 t871.length co10, .slice Ao11 t874.length co11] 25 (0, 0)) (kl BK877.out) hb); replace HB := am (below_step (bs1 GE877.out HB.out) hb); (try clear hb); (try clear hb2); (try clear hk); (try clear hi); (try clear ho0); obtain ⟨Ao29, co29, eo29⟩ := Kd.R_slice HO_4.out; subst eo29; obtain ⟨Ao30, co30, eo30⟩ := Kd.R_slice HO887.out; subst eo30) | ((with_reducible refine gate_callee (f := 19) rfl ?_); refine goesL_ (some 29) rfl rfl Try.func19 (by kernel_rfl) rfl #[.slice Ao29 t878.length co29, .slice Ao30 t885.length co30] rfl (by (try simp only [List.map_toArray, List.map_cons, List.map_nil]); first | done | rfl | (simp only [List.length_drop, List.length_take]; rfl)) ?_; (with_reducible refine (laws_ccInts.calls kj4 _ _ t878 _ _ t885 t888 _ ?side1 ?side2 ?side3 ?side4 A26.out).mono ?_); (case side1 => exact cl ((Kd.R_reads' HO_4.out).2.2)); (case side2 => exact (Kd.R_reads' HO_4.out).2.1); (case side3 => exact cl ((Kd.R_reads' HO887.out).2.2)); (case side4 => exact (Kd.R_reads' HO887.out).2.1); rintro e w' ⟨rfl, ⟨nd, rfl⟩⟩; refine ⟨_, rfl, ?_⟩))
     go_ret
     exact ⟨by first | rfl | (simp [errW_none, errW_some] <;> rfl) | (simp [*, errW_none, errW_some] <;> rfl), by exact bs1 GE877.out HB.out⟩
    ·replace c24 := Bool.eq_false_iff.mpr c24
     subst c24
     have H1 : (if 0 < (t878.length : Int) then ((impl_PutLeft.f kj4 t868 t871 t874 (rd t878 0) (rd t878 0)).bind fun bt891 => ((impl_PutRight.f kj4 bt891.1 bt891.2.1 bt891.2.2.1 (rd t878 0) 0).bind fun bt903 => (if bt891.2.2.2 = true then (if bt903.2.2.2 = true then ((impl_GarbageOf.f kj4 bt903.1 bt903.2.1 bt903.2.2.1).bind fun t914 => ((laws_ccInts.f kj4 t914 t878).bind fun t917 => (if t917 = true then ((impl_CountLive.f kj4 bt903.1 bt903.2.1 bt903.2.2.1).bind fun t918 => ((impl_CountLive.f kj4 t868 t871 t874).bind fun t919 => (some (t918 == t919)))) else (none)))) else (none)) else (none)))) else (none)) = some r := by rw [if_neg (show ¬ (false = true) by decide)] at H; exact H
     clear H
     have H := H1
     clear H1
     by_cases c31 : 0 < (t878.length : Int)
     ·rw [if_pos c31] at H
      have c31b0 : decide (0 < (t878.length : Int)) = true := decide_eq_true c31
      have c31b1 : decide (0 < t878.length) = true := decide_eq_true (by omega)
      clear c31
      replace H := Option.bind_eq_some_iff.mp H
      obtain ⟨⟨t891, t894, t897, t900⟩, A320, H⟩ := H
      replace H : ((impl_PutRight.f kj4 t891 t894 t897 (rd t878 0) 0).bind fun bt903 => (if t900 = true then (if bt903.2.2.2 = true then ((impl_GarbageOf.f kj4 bt903.1 bt903.2.1 bt903.2.2.1).bind fun t914 => ((laws_ccInts.f kj4 t914 t878).bind fun t917 => (if t917 = true then ((impl_CountLive.f kj4 bt903.1 bt903.2.1 bt903.2.2.1).bind fun t918 => ((impl_CountLive.f kj4 t868 t871 t874).bind fun t919 => (some (t918 == t919)))) else (none)))) else (none)) else (none))) = some r := H
      have A32 := am A320
      clear A320
      replace H := Option.bind_eq_some_iff.mp H
      obtain ⟨⟨t903, t906, t909, t912⟩, A330, H⟩ := H
      replace H : (if t900 = true then (if t912 = true then ((impl_GarbageOf.f kj4 t903 t906 t909).bind fun t914 => ((laws_ccInts.f kj4 t914 t878).bind fun t917 => (if t917 = true then ((impl_CountLive.f kj4 t903 t906 t909).bind fun t918 => ((impl_CountLive.f kj4 t868 t871 t874).bind fun t919 => (some (t918 == t919)))) else (none)))) else (none)) else (none)) = some r := H
      have A33 := am A330
      clear A330
      by_cases c34 : t900 = true
      ·subst c34
       have H1 : (if t912 = true then ((impl_GarbageOf.f kj4 t903 t906 t909).bind fun t914 => ((laws_ccInts.f kj4 t914 t878).bind fun t917 => (if t917 = true then ((impl_CountLive.f kj4 t903 t906 t909).bind fun t918 => ((impl_CountLive.f kj4 t868 t871 t874).bind fun t919 => (some (t918 == t919)))) else (none)))) else (none)) = some r := by rw [if_pos rfl] at H; exact H
       clear H
       have H := H1
       clear H1
       by_cases c35 : t912 = true
       ·subst c35
        have H1 : ((impl_GarbageOf.f kj4 t903 t906 t909).bind fun t914 => ((laws_ccInts.f kj4 t914 t878).bind fun t917 => (if t917 = true then ((impl_CountLive.f kj4 t903 t906 t909).bind fun t918 => ((impl_CountLive.f kj4 t868 t871 t874).bind fun t919 => (some (t918 == t919)))) else (none)))) = some r := by rw [if_pos rfl] at H; exact H
        clear H
        have H := H1
        clear H1
        replace H := Option.bind_eq_some_iff.mp H
        obtain ⟨t914, A360, H⟩ := H
        replace H : ((laws_ccInts.f kj4 t914 t878).bind fun t917 => (if t917 = true then ((impl_CountLive.f kj4 t903 t906 t909).bind fun t918 => ((impl_CountLive.f kj4 t868 t871 t874).bind fun t919 => (some (t918 == t919)))) else (none))) = some r := H
        have A36 := am A360
        clear A360
        replace H := Option.bind_eq_some_iff.mp H
        obtain ⟨t917, A370, H⟩ := H
        replace H : (if t917 = true then ((impl_CountLive.f kj4 t903 t906 t909).bind fun t918 => ((impl_CountLive.f kj4 t868 t871 t874).bind fun t919 => (some (t918 == t919)))) else (none)) = some r := H
        have A37 := am A370
        clear A370
        by_cases c38 : t917 = true
        ·subst c38
         have H1 : ((impl_CountLive.f kj4 t903 t906 t909).bind fun t918 => ((impl_CountLive.f kj4 t868 t871 t874).bind fun t919 => (some (t918 == t919)))) = some r := by rw [if_pos rfl] at H; exact H
         clear H
         have H := H1
         clear H1
         replace H := Option.bind_eq_some_iff.mp H
         obtain ⟨t918, A390, H⟩ := H
         replace H : ((impl_CountLive.f kj4 t868 t871 t874).bind fun t919 => (some (t918 == t919))) = some r := H
         have A39 := am A390
         clear A390
         replace H := Option.bind_eq_some_iff.mp H
         obtain ⟨t919, A400, H⟩ := H
         replace H : (some (t918 == t919)) = some r := H
         have A40 := am A400
         clear A400
         obtain rfl := Option.some.inj H
         try go_wp2
         replace HO_4 := am (Kd.R_drew HO_4.out)
         replace HO_878000 := am (Kd.R_drew HO_878000.out)
         replace HO_878001 := am (Kd.R_drew HO_878001.out)
         replace HO_878002 := am (Kd.R_drew HO_878002.out)
         replace BK877 := am (blk_drew BK877.out)
         replace HB := am (below_drew1 HB.out)
         obtain ⟨Ao42, co42, eo42⟩ := Kd.R_slice HO_4.out
         (first | subst eo42 | (injection eo42 with f1_ f2_ f3_; have f4_ := f1_.symm; have f5_ := f3_.symm; clear f1_ f2_ f3_; subst f4_; subst f5_))
         have p889 : 0 ≤ (0 : Int) := (by omega)
         have q889 : 0 < (t878.length : Int) := of_decide_eq_true (by first | (with_reducible assumption) | assumption)
         obtain ⟨ad889, e889, hx889_0⟩ := Kd.at_int (Kd.R_reads' HO_4.out).2.2 0 p889 q889
         cases e889
         have qi889 : (0 < t878.length) = True := eq_true (by omega)
         (try rw [show ((0 : Int)).toNat = 0 from rfl] at hx889_0)
         (try rw [Addr.add_zero'] at hx889_0)
         replace p889 := eq_true p889
         replace q889 := eq_true q889
         have p890 : 0 ≤ (0 : Int) := (by omega)
         have q890 : 0 < (t878.length : Int) := of_decide_eq_true (by first | (with_reducible assumption) | assumption)
         obtain ⟨ad890, e890, hx890_0⟩ := Kd.at_int (Kd.R_reads' HO_4.out).2.2 0 p890 q890
         obtain rfl : ad889 = ad890 := (by injection e890)
         have qi890 : (0 < t878.length) = True := eq_true (by omega)
         (try rw [show ((0 : Int)).toNat = 0 from rfl] at hx890_0)
         (try rw [Addr.add_zero'] at hx890_0)
         replace p890 := eq_true p890
         replace q890 := eq_true q890
         refine start_ (n := 14) (S := fun w' => w'.cell? ⟨gb877, 0, none⟩ = some (.slice Ao8 t868.length co8) ∧ w'.cell? ⟨gb877, 1, none⟩ = some (.slice Ao10 t871.length co10) ∧ w'.cell? ⟨gb877, 2, none⟩ = some (.slice Ao11 t874.length co11) ∧ w'.cell? ad889 = some (.int .i64 (rd t878 0)) ∧ w'.cell? ad889 = some (.int .i64 (rd t878 0))) (ds := []) #[false, false, false, false, false, false, false, false, false, false, false, false, false, false] (by kernel_rfl) rfl rfl ⟨(blk_cell BK877.out 0).trans rfl, (blk_cell BK877.out 1).trans rfl, (blk_cell BK877.out 2).trans rfl, hx889_0, hx890_0⟩ (fun hHeld => ?_); refine with_tabW laws_FnGarbagePointers.tab7 laws_FnGarbagePointers.bits7 (fun HT_ HW_ => ?_)
         generalize wc.drew = w41 at HO_4 HO_878000 HO_878001 HO_878002 BK877 HB hx889_0 hx890_0 hHeld ⊢
         refine pure_ (i := 1) (N := some 32) (v := ?_) (a' := ?_) #[false, true, false, false, false, false, false, false, false, false, false, false, false, false] rfl rfl (any_of HT_.out (by kernel_rfl)) (fun _ _ _ h => h) (Or.inl ⟨by rfl, ?_⟩) ?_ ?_
         rotate_left
         ·intro w'
          go_simp
          with_reducible rfl
         rotate_left
         ·simp only [Act.put, List.setIfInBounds_toArray, List.set_cons_zero, List.set_cons_succ, i64_w, i32_w]
          rfl
         refine pure_ (i := 2) (N := some 33) (v := ?_) (a' := ?_) #[false, true, true, false, false, false, false, false, false, false, false, false, false, false] rfl rfl (any_of HT_.out (by kernel_rfl)) (fun _ _ _ h => h) (Or.inl ⟨by rfl, ?_⟩) ?_ ?_
         rotate_left
         ·intro w'
          go_simp
          with_reducible rfl
         rotate_left
         ·simp only [Act.put, List.setIfInBounds_toArray, List.set_cons_zero, List.set_cons_succ, i64_w, i32_w]
          rfl
         refine pure_ (i := 4) (N := some 35) (v := ?_) (a' := ?_) #[false, true, true, false, true, false, false, false, false, false, false, false, false, false] rfl rfl (any_of HT_.out (by kernel_rfl)) (fun _ _ _ h => h) (Or.inl ⟨by rfl, ?_⟩) ?_ ?_
         rotate_left
         ·intro w'
          go_simp
          with_reducible rfl
         rotate_left
         ·simp only [Act.put, List.setIfInBounds_toArray, List.set_cons_zero, List.set_cons_succ, i64_w, i32_w]
          rfl
         refine pure_ (i := 5) (N := some 36) (v := ?_) (a' := ?_) #[false, true, true, false, true, true, false, false, false, false, false, false, false, false] rfl rfl (any_of HT_.out (by kernel_rfl)) (fun _ _ _ h => h) (Or.inl ⟨by rfl, ?_⟩) ?_ ?_
         rotate_left
         ·intro w'
          go_simp
          with_reducible rfl
         rotate_left
         ·simp only [Act.put, List.setIfInBounds_toArray, List.set_cons_zero, List.set_cons_succ, i64_w, i32_w]
          rfl
         refine take_ (i := 0) (N := some 31) (v := ?_) (a' := ?_) #[true, true, true, false, true, true, false, false, false, false, false, false, false, false] rfl rfl (take_ofW HT_.out HW_.out (by kernel_rfl)) (fun _ _ _ h => h) (Or.inl ⟨by rfl, ?_⟩) hHeld ?_ ?_
         rotate_left
         ·rintro w' ⟨s0, s1, s2, s3, s4⟩
          go_simp
          with_reducible rfl
         rotate_left
         ·simp only [Act.put, List.setIfInBounds_toArray, List.set_cons_zero, List.set_cons_succ, i64_w, i32_w]
          rfl
         refine take_ (i := 3) (N := some 34) (v := ?_) (a' := ?_) #[true, true, true, true, true, true, false, false, false, false, false, false, false, false] rfl rfl (take_ofW HT_.out HW_.out (by kernel_rfl)) (fun _ _ _ h => h) (Or.inl ⟨by rfl, ?_⟩) hHeld ?_ ?_
         rotate_left
         ·rintro w' ⟨s0, s1, s2, s3, s4⟩
          go_simp
          with_reducible rfl
         rotate_left
         ·simp only [Act.put, List.setIfInBounds_toArray, List.set_cons_zero, List.set_cons_succ, i64_w, i32_w]
          rfl
         refine take_ (i := 6) (N := some 37) (v := ?_) (a' := ?_) #[true, true, true, true, true, true, true, false, false, false, false, false, false, false] rfl rfl (take_ofW HT_.out HW_.out (by kernel_rfl)) (fun _ _ _ h => h) (Or.inl ⟨by rfl, ?_⟩) hHeld ?_ ?_
         rotate_left
         ·rintro w' ⟨s0, s1, s2, s3, s4⟩
          go_simp
          with_reducible rfl
         rotate_left
         ·simp only [Act.put, List.setIfInBounds_toArray, List.set_cons_zero, List.set_cons_succ, i64_w, i32_w]
          rfl
         refine join_ (σ := Value × Value × Value × Nat) 2 #[true, true, true, true, true, true, true, true, true, true, true, true, false, false] (fun s_ => [(38, .tuple #[.agg #[s_.1, s_.2.1, s_.2.2.1], .bool true]), (5, .pointer (some ⟨s_.2.2.2, 0, none⟩)), (30, .tuple #[.agg #[s_.1, s_.2.1, s_.2.2.1], .bool true]), (39, .agg #[s_.1, s_.2.1, s_.2.2.1]), (40, .bool true)]) (fun s_ w' => (w'.cell? ⟨gb877, 0, none⟩ = some (.slice Ao8 t868.length co8) ∧ w'.cell? ⟨gb877, 1, none⟩ = some (.slice Ao10 t871.length co10) ∧ w'.cell? ⟨gb877, 2, none⟩ = some (.slice Ao11 t874.length co11) ∧ w'.cell? ad889 = some (.int .i64 (rd t878 0)) ∧ w'.cell? ad889 = some (.int .i64 (rd t878 0))) ∧ (Kd.R (Kd.int .i64) 3 w' w.heap.size (fun k_ => some k_ ≠ (s_.2.1 : Value).ownBlock ∧ some k_ ≠ (s_.2.2.1 : Value).ownBlock ∧ some k_ ≠ (.slice (some ad889) t878.length co42 : Value).ownBlock ∧ some k_ ≠ (.slice Ao8 t868.length co8 : Value).ownBlock ∧ some k_ ≠ (.slice Ao10 t871.length co10 : Value).ownBlock ∧ some k_ ≠ (.slice Ao11 t874.length co11 : Value).ownBlock) s_.1 t891) ∧ (Kd.R (Kd.int .i64) 3 w' w.heap.size (fun k_ => some k_ ≠ (s_.1 : Value).ownBlock ∧ some k_ ≠ (s_.2.2.1 : Value).ownBlock ∧ some k_ ≠ (.slice (some ad889) t878.length co42 : Value).ownBlock ∧ some k_ ≠ (.slice Ao8 t868.length co8 : Value).ownBlock ∧ some k_ ≠ (.slice Ao10 t871.length co10 : Value).ownBlock ∧ some k_ ≠ (.slice Ao11 t874.length co11 : Value).ownBlock) s_.2.1 t894) ∧ (Kd.R (Kd.int .i64) 3 w' w.heap.size (fun k_ => some k_ ≠ (s_.1 : Value).ownBlock ∧ some k_ ≠ (s_.2.1 : Value).ownBlock ∧ some k_ ≠ (.slice (some ad889) t878.length co42 : Value).ownBlock ∧ some k_ ≠ (.slice Ao8 t868.length co8 : Value).ownBlock ∧ some k_ ≠ (.slice Ao10 t871.length co10 : Value).ownBlock ∧ some k_ ≠ (.slice Ao11 t874.length co11 : Value).ownBlock) s_.2.2.1 t897) ∧ (Kd.R (Kd.int .i64) 3 w' w.heap.size (fun k_ => some k_ ≠ (s_.1 : Value).ownBlock ∧ some k_ ≠ (s_.2.1 : Value).ownBlock ∧ some k_ ≠ (s_.2.2.1 : Value).ownBlock ∧ some k_ ≠ (.slice Ao8 t868.length co8 : Value).ownBlock ∧ some k_ ≠ (.slice Ao10 t871.length co10 : Value).ownBlock ∧ some k_ ≠ (.slice Ao11 t874.length co11 : Value).ownBlock) (.slice (some ad889) t878.length co42) t878) ∧ (Kd.R (Kd.int .i64) 3 w' w.heap.size (fun k_ => some k_ ≠ (s_.1 : Value).ownBlock ∧ some k_ ≠ (s_.2.1 : Value).ownBlock ∧ some k_ ≠ (s_.2.2.1 : Value).ownBlock ∧ some k_ ≠ (.slice (some ad889) t878.length co42 : Value).ownBlock ∧ some k_ ≠ (.slice Ao10 t871.length co10 : Value).ownBlock ∧ some k_ ≠ (.slice Ao11 t874.length co11 : Value).ownBlock) (.slice Ao8 t868.length co8) t868) ∧ (Kd.R (Kd.int .i64) 3 w' w.heap.size (fun k_ => some k_ ≠ (s_.1 : Value).ownBlock ∧ some k_ ≠ (s_.2.1 : Value).ownBlock ∧ some k_ ≠ (s_.2.2.1 : Value).ownBlock ∧ some k_ ≠ (.slice (some ad889) t878.length co42 : Value).ownBlock ∧ some k_ ≠ (.slice Ao8 t868.length co8 : Value).ownBlock ∧ some k_ ≠ (.slice Ao11 t874.length co11 : Value).ownBlock) (.slice Ao10 t871.length co10) t871) ∧ (Kd.R (Kd.int .i64) 3 w' w.heap.size (fun k_ => some k_ ≠ (s_.1 : Value).ownBlock ∧ some k_ ≠ (s_.2.1 : Value).ownBlock ∧ some k_ ≠ (s_.2.2.1 : Value).ownBlock ∧ some k_ ≠ (.slice (some ad889) t878.length co42 : Value).ownBlock ∧ some k_ ≠ (.slice Ao8 t868.length co8 : Value).ownBlock ∧ some k_ ≠ (.slice Ao10 t871.length co10 : Value).ownBlock) (.slice Ao11 t874.length co11) t874) ∧ (w'.heap[gb877]? = some (.cells #[.slice Ao8 t868.length co8, .slice Ao10 t871.length co10, .slice Ao11 t874.length co11] 25 (0, 0))) ∧ (w'.heap[s_.2.2.2]? = some (.cells #[.slice none 0 0, .slice none 0 0, .slice none 0 0] 25 (0, 0))) ∧ (w.heap.size ≤ s_.2.2.2) ∧ (w.heap.size ≤ s_.2.2.2) ∧ (gb877 ≠ s_.2.2.2) ∧ (s_.2.2.2 ≠ gb877) ∧ (Below w.heap.size w w')) ?_ ?_
         rotate_left
         ·intro hCont
          refine two_ (i := 7) (j := 11) (Ni := some 38) (Nj := some 5) #[true, true, true, true, true, true, true, true, false, false, false, false, false, false] #[true, true, true, true, true, true, true, false, false, false, false, true, false, false] rfl rfl rfl rfl (two_of HT_.out (by kernel_rfl)) (by decide) (by decide) (fun K hK => ?_) (fun K hK => ?_)
          ·skip
           refine goes_ Try.func31 (by kernel_rfl) rfl #[.agg #[.slice Ao8 t868.length co8, .slice Ao10 t871.length co10, .slice Ao11 t874.length co11], .int .i64 (rd t878 0), .int .i64 (rd t878 0)] (by rfl) rfl rfl (by (try simp only [List.map_toArray, List.map_cons, List.map_nil]); first | done | rfl | (simp only [List.length_drop, List.length_take]; rfl)) ?_
           with_reducible refine (impl_PutLeft.calls kj4 _ _ t868 _ _ t871 _ _ t874 (rd t878 0) (rd t878 0) t891 t894 t897 true _ ?side1 ?side2 ?side3 ?side4 ?side5 ?side6 A32.out).mono ?_
           (case side1 => exact cl ((Kd.R_reads' HO_878000.out).2.2))
           (case side2 => exact (Kd.R_reads' HO_878000.out).2.1)
           (case side3 => exact cl ((Kd.R_reads' HO_878001.out).2.2))
           (case side4 => exact (Kd.R_reads' HO_878001.out).2.1)
           (case side5 => exact cl ((Kd.R_reads' HO_878002.out).2.2))
           (case side6 => exact (Kd.R_reads' HO_878002.out).2.1)
           rintro e w43 ⟨v892, v895, v898, rfl, ho0, ho1, ho2, hb⟩
           have HS3_ := (hb.cell (World.block_lt_of_cell? _ _ (hHeld.2.2.2.1))).trans (hHeld.2.2.2.1)
           have HS4_ := (hb.cell (World.block_lt_of_cell? _ _ (hHeld.2.2.2.2))).trans (hHeld.2.2.2.2)
           refine ⟨_, rfl, ?_⟩
           have HO893 := am (Kd.R_lower (Kd.R_new' (Kd.R_new' (Kd.R_new' (Kd.R_new' ho0 (Kd.R_lt (rl HO_4.out))) (Kd.R_lt (rl HO_878000.out))) (Kd.R_lt (rl HO_878001.out))) (Kd.R_lt (rl HO_878002.out))) (below_size (bs1 GE877.out HB.out)))
           have HO896 := am (Kd.R_lower (Kd.R_new' (Kd.R_new' (Kd.R_new' (Kd.R_new' ho1 (Kd.R_lt (rl HO_4.out))) (Kd.R_lt (rl HO_878000.out))) (Kd.R_lt (rl HO_878001.out))) (Kd.R_lt (rl HO_878002.out))) (below_size (bs1 GE877.out HB.out)))
           have HO899 := am (Kd.R_lower (Kd.R_new' (Kd.R_new' (Kd.R_new' (Kd.R_new' ho2 (Kd.R_lt (rl HO_4.out))) (Kd.R_lt (rl HO_878000.out))) (Kd.R_lt (rl HO_878001.out))) (Kd.R_lt (rl HO_878002.out))) (below_size (bs1 GE877.out HB.out)))
           replace HO_4 := am (Kd.R_mono (Kd.R_told (Kd.R_told (Kd.R_told (Kd.R_old (rl HO_4.out) hb) (Kd.R_base ho0)) (Kd.R_base ho1)) (Kd.R_base ho2)) (fun _ h_ => h_.1))
           replace HO_878000 := am (Kd.R_mono (Kd.R_told (Kd.R_told (Kd.R_told (Kd.R_old (rl HO_878000.out) hb) (Kd.R_base ho0)) (Kd.R_base ho1)) (Kd.R_base ho2)) (fun _ h_ => h_.1))
           replace HO_878001 := am (Kd.R_mono (Kd.R_told (Kd.R_told (Kd.R_told (Kd.R_old (rl HO_878001.out) hb) (Kd.R_base ho0)) (Kd.R_base ho1)) (Kd.R_base ho2)) (fun _ h_ => h_.1))
           replace HO_878002 := am (Kd.R_mono (Kd.R_told (Kd.R_told (Kd.R_told (Kd.R_old (rl HO_878002.out) hb) (Kd.R_base ho0)) (Kd.R_base ho1)) (Kd.R_base ho2)) (fun _ h_ => h_.1))
           replace BK877 := am (blk_below (g := gb877) (o := .cells #[.slice Ao8 t868.length co8, .slice Ao10 t871.length co10, .slice Ao11 t874.length co11] 25 (0, 0)) (kl BK877.out) hb)
           replace HB := am (below_step (bs1 GE877.out HB.out) hb)
           (try clear hb)
           (try clear hb2)
           (try clear hk)
           (try clear hi)
           (try clear ho0)
           (try clear ho1)
           (try clear ho2)
           refine hK.out _ _ ⟨(blk_cell BK877.out 0).trans rfl, (blk_cell BK877.out 1).trans rfl, (blk_cell BK877.out 2).trans rfl, HS3_, HS4_⟩ (fun hHeld => ?_)
           clear hK K
           refine norm_ (a' := ?_) ?_ ?_
           rotate_left
           ·show Act.put _ (some 38) _ = _
            simp only [Act.put, List.setIfInBounds_toArray, List.set_cons_zero, List.set_cons_succ, i64_w, i32_w]
            rfl
           refine pure_ (i := 8) (N := some 30) (v := ?_) (a' := ?_) #[true, true, true, true, true, true, true, true, true, false, false, false, false, false] rfl rfl (any_of HT_.out (by kernel_rfl)) (fun _ _ _ h => h) (Or.inl ⟨by rfl, ?_⟩) ?_ ?_
           rotate_left
           ·intro w'
            go_simp
            with_reducible rfl
           rotate_left
           ·simp only [Act.put, List.setIfInBounds_toArray, List.set_cons_zero, List.set_cons_succ, i64_w, i32_w]
            rfl
           refine pure_ (i := 9) (N := some 39) (v := ?_) (a' := ?_) #[true, true, true, true, true, true, true, true, true, true, false, false, false, false] rfl rfl (any_of HT_.out (by kernel_rfl)) (fun _ _ _ h => h) (Or.inl ⟨by rfl, ?_⟩) ?_ ?_
           rotate_left
           ·intro w'
            go_simp
            with_reducible rfl
           rotate_left
           ·simp only [Act.put, List.setIfInBounds_toArray, List.set_cons_zero, List.set_cons_succ, i64_w, i32_w]
            rfl
           refine pure_ (i := 10) (N := some 40) (v := ?_) (a' := ?_) #[true, true, true, true, true, true, true, true, true, true, true, false, false, false] rfl rfl (any_of HT_.out (by kernel_rfl)) (fun _ _ _ h => h) (Or.inl ⟨by rfl, ?_⟩) ?_ ?_
           rotate_left
           ·intro w'
            go_simp
            with_reducible rfl
           rotate_left
           ·simp only [Act.put, List.setIfInBounds_toArray, List.set_cons_zero, List.set_cons_succ, i64_w, i32_w]
            rfl
           refine one_ (i := 11) (N := some 5) #[true, true, true, true, true, true, true, true, true, true, true, true, false, false] rfl rfl (one_of HT_.out (by kernel_rfl)) (by decide) (fun K hK => ?_)
           refine box_step ?hg (N := 5) ?hd (cs := #[.slice none 0 0, .slice none 0 0, .slice none 0 0]) (t := 25) ?hr ?_; (case hd => rfl); (case hg => rfl); (case hr => first | (go_simp; done) | (go_simp; rfl))
           intro gb901 hg w44 hbox hb
           have HS3_ := (hb.cell (World.block_lt_of_cell? _ _ (hHeld.2.2.2.1))).trans (hHeld.2.2.2.1)
           have HS4_ := (hb.cell (World.block_lt_of_cell? _ _ (hHeld.2.2.2.2))).trans (hHeld.2.2.2.2)
           replace HO_4 := am (Kd.R_below (rl HO_4.out) hb)
           replace HO_878000 := am (Kd.R_below (rl HO_878000.out) hb)
           replace HO_878001 := am (Kd.R_below (rl HO_878001.out) hb)
           replace HO_878002 := am (Kd.R_below (rl HO_878002.out) hb)
           replace HO893 := am (Kd.R_below (rl HO893.out) hb)
           replace HO896 := am (Kd.R_below (rl HO896.out) hb)
           replace HO899 := am (Kd.R_below (rl HO899.out) hb)
           have BK901 := am (hbox)
           have GW901 := am ((by rw [hg]; exact (below_size (bs1 GE877.out HB.out)) : w.heap.size ≤ gb901))
           have GE901 := am ((by rw [hg]; exact (below_size (bs1 GE877.out HB.out)) : w.heap.size ≤ gb901))
           replace HB := am (below_step (bs1 GE877.out HB.out) hb)
           have NB877_901 := am ((by rw [hg]; exact Nat.ne_of_lt (blk_lt (g := gb877) (o := .cells #[.slice Ao8 t868.length co8, .slice Ao10 t871.length co10, .slice Ao11 t874.length co11] 25 (0, 0)) (kl BK877.out)) : gb877 ≠ gb901))
           have NB901_877 := am ((by rw [hg]; exact Nat.ne_of_gt (blk_lt (g := gb877) (o := .cells #[.slice Ao8 t868.length co8, .slice Ao10 t871.length co10, .slice Ao11 t874.length co11] 25 (0, 0)) (kl BK877.out)) : gb901 ≠ gb877))
           replace BK877 := am (blk_below (g := gb877) (o := .cells #[.slice Ao8 t868.length co8, .slice Ao10 t871.length co10, .slice Ao11 t874.length co11] 25 (0, 0)) (kl BK877.out) hb)
           clear hb hbox hg
           refine hK.out _ _ ⟨(blk_cell BK877.out 0).trans rfl, (blk_cell BK877.out 1).trans rfl, (blk_cell BK877.out 2).trans rfl, HS3_, HS4_⟩ (fun hHeld => ?_)
           clear hK K
           refine norm_ (a' := ?_) ?_ ?_
           rotate_left
           ·show Act.put _ (some 5) _ = _
            simp only [Act.put, List.setIfInBounds_toArray, List.set_cons_zero, List.set_cons_succ, i64_w, i32_w]
            rfl
           exact norm_ (by simp only [putAll, Act.put, List.setIfInBounds_toArray, List.set_cons_zero, List.set_cons_succ]) (hCont (v892, v895, v898, gb901) _ ⟨hHeld, (rl (Kd.R_mono HO893.out (fun _ hk => by simp only [ne_eq] at hk ⊢; simp only [hk, not_false_eq_true, and_self]))), (rl (Kd.R_mono HO896.out (fun _ hk => by simp only [ne_eq] at hk ⊢; simp only [hk, not_false_eq_true, and_self]))), (rl (Kd.R_mono HO899.out (fun _ hk => by simp only [ne_eq] at hk ⊢; simp only [hk, not_false_eq_true, and_self]))), (rl (Kd.R_mono HO_4.out (fun _ hk => by simp only [ne_eq] at hk ⊢; simp only [hk, not_false_eq_true, and_self]))), (rl (Kd.R_mono HO_878000.out (fun _ hk => by simp only [ne_eq] at hk ⊢; simp only [hk, not_false_eq_true, and_self]))), (rl (Kd.R_mono HO_878001.out (fun _ hk => by simp only [ne_eq] at hk ⊢; simp only [hk, not_false_eq_true, and_self]))), (rl (Kd.R_mono HO_878002.out (fun _ hk => by simp only [ne_eq] at hk ⊢; simp only [hk, not_false_eq_true, and_self]))), (kl BK877.out), (kl BK901.out), GW901.out, GE901.out, NB877_901.out, NB901_877.out, (bs2 GE877.out GE901.out HB.out)⟩)
          ·skip
           refine box_step ?hg (N := 5) ?hd (cs := #[.slice none 0 0, .slice none 0 0, .slice none 0 0]) (t := 25) ?hr ?_; (case hd => rfl); (case hg => rfl); (case hr => first | (go_simp; done) | (go_simp; rfl))
           intro gb901 hg w43 hbox hb
           have HS3_ := (hb.cell (World.block_lt_of_cell? _ _ (hHeld.2.2.2.1))).trans (hHeld.2.2.2.1)
           have HS4_ := (hb.cell (World.block_lt_of_cell? _ _ (hHeld.2.2.2.2))).trans (hHeld.2.2.2.2)
           replace HO_4 := am (Kd.R_below (rl HO_4.out) hb)
           replace HO_878000 := am (Kd.R_below (rl HO_878000.out) hb)
           replace HO_878001 := am (Kd.R_below (rl HO_878001.out) hb)
           replace HO_878002 := am (Kd.R_below (rl HO_878002.out) hb)
           have BK901 := am (hbox)
           have GW901 := am ((by rw [hg]; exact (below_size (bs1 GE877.out HB.out)) : w.heap.size ≤ gb901))
           have GE901 := am ((by rw [hg]; exact (below_size (bs1 GE877.out HB.out)) : w.heap.size ≤ gb901))
           replace HB := am (below_step (bs1 GE877.out HB.out) hb)
           have NB877_901 := am ((by rw [hg]; exact Nat.ne_of_lt (blk_lt (g := gb877) (o := .cells #[.slice Ao8 t868.length co8, .slice Ao10 t871.length co10, .slice Ao11 t874.length co11] 25 (0, 0)) (kl BK877.out)) : gb877 ≠ gb901))
           have NB901_877 := am ((by rw [hg]; exact Nat.ne_of_gt (blk_lt (g := gb877) (o := .cells #[.slice Ao8 t868.length co8, .slice Ao10 t871.length co10, .slice Ao11 t874.length co11] 25 (0, 0)) (kl BK877.out)) : gb901 ≠ gb877))
           replace BK877 := am (blk_below (g := gb877) (o := .cells #[.slice Ao8 t868.length co8, .slice Ao10 t871.length co10, .slice Ao11 t874.length co11] 25 (0, 0)) (kl BK877.out) hb)
           clear hb hbox hg
           refine hK.out _ _ ⟨(blk_cell BK877.out 0).trans rfl, (blk_cell BK877.out 1).trans rfl, (blk_cell BK877.out 2).trans rfl, HS3_, HS4_⟩ (fun hHeld => ?_)
           clear hK K
           refine norm_ (a' := ?_) ?_ ?_
           rotate_left
           ·show Act.put _ (some 5) _ = _
            simp only [Act.put, List.setIfInBounds_toArray, List.set_cons_zero, List.set_cons_succ, i64_w, i32_w]
            rfl
           refine one_ (i := 7) (N := some 38) #[true, true, true, true, true, true, true, true, false, false, false, true, false, false] rfl rfl (one_of HT_.out (by kernel_rfl)) (by decide) (fun K hK => ?_)
           refine goes_ Try.func31 (by kernel_rfl) rfl #[.agg #[.slice Ao8 t868.length co8, .slice Ao10 t871.length co10, .slice Ao11 t874.length co11], .int .i64 (rd t878 0), .int .i64 (rd t878 0)] (by rfl) rfl rfl (by (try simp only [List.map_toArray, List.map_cons, List.map_nil]); first | done | rfl | (simp only [List.length_drop, List.length_take]; rfl)) ?_
           with_reducible refine (impl_PutLeft.calls kj4 _ _ t868 _ _ t871 _ _ t874 (rd t878 0) (rd t878 0) t891 t894 t897 true _ ?side1 ?side2 ?side3 ?side4 ?side5 ?side6 A32.out).mono ?_
           (case side1 => exact cl ((Kd.R_reads' HO_878000.out).2.2))
           (case side2 => exact (Kd.R_reads' HO_878000.out).2.1)
           (case side3 => exact cl ((Kd.R_reads' HO_878001.out).2.2))
           (case side4 => exact (Kd.R_reads' HO_878001.out).2.1)
           (case side5 => exact cl ((Kd.R_reads' HO_878002.out).2.2))
           (case side6 => exact (Kd.R_reads' HO_878002.out).2.1)
           rintro e w44 ⟨v892, v895, v898, rfl, ho0, ho1, ho2, hb⟩
           have HS3_ := (hb.cell (World.block_lt_of_cell? _ _ (hHeld.2.2.2.1))).trans (hHeld.2.2.2.1)
           have HS4_ := (hb.cell (World.block_lt_of_cell? _ _ (hHeld.2.2.2.2))).trans (hHeld.2.2.2.2)
           refine ⟨_, rfl, ?_⟩
           have HO893 := am (Kd.R_lower (Kd.R_new' (Kd.R_new' (Kd.R_new' (Kd.R_new' ho0 (Kd.R_lt (rl HO_4.out))) (Kd.R_lt (rl HO_878000.out))) (Kd.R_lt (rl HO_878001.out))) (Kd.R_lt (rl HO_878002.out))) (below_size (bs2 GE877.out GE901.out HB.out)))
           have HO896 := am (Kd.R_lower (Kd.R_new' (Kd.R_new' (Kd.R_new' (Kd.R_new' ho1 (Kd.R_lt (rl HO_4.out))) (Kd.R_lt (rl HO_878000.out))) (Kd.R_lt (rl HO_878001.out))) (Kd.R_lt (rl HO_878002.out))) (below_size (bs2 GE877.out GE901.out HB.out)))
           have HO899 := am (Kd.R_lower (Kd.R_new' (Kd.R_new' (Kd.R_new' (Kd.R_new' ho2 (Kd.R_lt (rl HO_4.out))) (Kd.R_lt (rl HO_878000.out))) (Kd.R_lt (rl HO_878001.out))) (Kd.R_lt (rl HO_878002.out))) (below_size (bs2 GE877.out GE901.out HB.out)))
           replace HO_4 := am (Kd.R_mono (Kd.R_told (Kd.R_told (Kd.R_told (Kd.R_old (rl HO_4.out) hb) (Kd.R_base ho0)) (Kd.R_base ho1)) (Kd.R_base ho2)) (fun _ h_ => h_.1))
           replace HO_878000 := am (Kd.R_mono (Kd.R_told (Kd.R_told (Kd.R_told (Kd.R_old (rl HO_878000.out) hb) (Kd.R_base ho0)) (Kd.R_base ho1)) (Kd.R_base ho2)) (fun _ h_ => h_.1))
           replace HO_878001 := am (Kd.R_mono (Kd.R_told (Kd.R_told (Kd.R_told (Kd.R_old (rl HO_878001.out) hb) (Kd.R_base ho0)) (Kd.R_base ho1)) (Kd.R_base ho2)) (fun _ h_ => h_.1))
           replace HO_878002 := am (Kd.R_mono (Kd.R_told (Kd.R_told (Kd.R_told (Kd.R_old (rl HO_878002.out) hb) (Kd.R_base ho0)) (Kd.R_base ho1)) (Kd.R_base ho2)) (fun _ h_ => h_.1))
           replace BK877 := am (blk_below (g := gb877) (o := .cells #[.slice Ao8 t868.length co8, .slice Ao10 t871.length co10, .slice Ao11 t874.length co11] 25 (0, 0)) (kl BK877.out) hb)
           replace BK901 := am (blk_below (g := gb901) (o := .cells #[.slice none 0 0, .slice none 0 0, .slice none 0 0] 25 (0, 0)) (kl BK901.out) hb)
           replace HB := am (below_step (bs2 GE877.out GE901.out HB.out) hb)
           (try clear hb)
           (try clear hb2)
           (try clear hk)
           (try clear hi)
           (try clear ho0)
           (try clear ho1)
           (try clear ho2)
           refine hK.out _ _ ⟨(blk_cell BK877.out 0).trans rfl, (blk_cell BK877.out 1).trans rfl, (blk_cell BK877.out 2).trans rfl, HS3_, HS4_⟩ (fun hHeld => ?_)
           clear hK K
           refine norm_ (a' := ?_) ?_ ?_
           rotate_left
           ·show Act.put _ (some 38) _ = _
            simp only [Act.put, List.setIfInBounds_toArray, List.set_cons_zero, List.set_cons_succ, i64_w, i32_w]
            rfl
           refine pure_ (i := 8) (N := some 30) (v := ?_) (a' := ?_) #[true, true, true, true, true, true, true, true, true, false, false, true, false, false] rfl rfl (any_of HT_.out (by kernel_rfl)) (fun _ _ _ h => h) (Or.inl ⟨by rfl, ?_⟩) ?_ ?_
           rotate_left
           ·intro w'
            go_simp
            with_reducible rfl
           rotate_left
           ·simp only [Act.put, List.setIfInBounds_toArray, List.set_cons_zero, List.set_cons_succ, i64_w, i32_w]
            rfl
           refine pure_ (i := 9) (N := some 39) (v := ?_) (a' := ?_) #[true, true, true, true, true, true, true, true, true, true, false, true, false, false] rfl rfl (any_of HT_.out (by kernel_rfl)) (fun _ _ _ h => h) (Or.inl ⟨by rfl, ?_⟩) ?_ ?_
           rotate_left
           ·intro w'
            go_simp
            with_reducible rfl
           rotate_left
           ·simp only [Act.put, List.setIfInBounds_toArray, List.set_cons_zero, List.set_cons_succ, i64_w, i32_w]
            rfl
           refine pure_ (i := 10) (N := some 40) (v := ?_) (a' := ?_) #[true, true, true, true, true, true, true, true, true, true, true, true, false, false] rfl rfl (any_of HT_.out (by kernel_rfl)) (fun _ _ _ h => h) (Or.inl ⟨by rfl, ?_⟩) ?_ ?_
           rotate_left
           ·intro w'
            go_simp
            with_reducible rfl
           rotate_left
           ·simp only [Act.put, List.setIfInBounds_toArray, List.set_cons_zero, List.set_cons_succ, i64_w, i32_w]
            rfl
           exact norm_ (by simp only [putAll, Act.put, List.setIfInBounds_toArray, List.set_cons_zero, List.set_cons_succ]) (hCont (v892, v895, v898, gb901) _ ⟨hHeld, (rl (Kd.R_mono HO893.out (fun _ hk => by simp only [ne_eq] at hk ⊢; simp only [hk, not_false_eq_true, and_self]))), (rl (Kd.R_mono HO896.out (fun _ hk => by simp only [ne_eq] at hk ⊢; simp only [hk, not_false_eq_true, and_self]))), (rl (Kd.R_mono HO899.out (fun _ hk => by simp only [ne_eq] at hk ⊢; simp only [hk, not_false_eq_true, and_self]))), (rl (Kd.R_mono HO_4.out (fun _ hk => by simp only [ne_eq] at hk ⊢; simp only [hk, not_false_eq_true, and_self]))), (rl (Kd.R_mono HO_878000.out (fun _ hk => by simp only [ne_eq] at hk ⊢; simp only [hk, not_false_eq_true, and_self]))), (rl (Kd.R_mono HO_878001.out (fun _ hk => by simp only [ne_eq] at hk ⊢; simp only [hk, not_false_eq_true, and_self]))), (rl (Kd.R_mono HO_878002.out (fun _ hk => by simp only [ne_eq] at hk ⊢; simp only [hk, not_false_eq_true, and_self]))), (kl BK877.out), (kl BK901.out), GW901.out, GE901.out, NB877_901.out, NB901_877.out, (bs2 GE877.out GE901.out HB.out)⟩)
         rintro ⟨v892, v895, v898, gb901⟩ w45 ⟨hS_, h0_, h1_, h2_, h3_, h4_, h5_, h6_, h7_, h8_, h9_, h10_, h11_, h12_, h13_⟩
         have HO893 : Aside0 (Kd.R (Kd.int .i64) 3 w45 w.heap.size (fun k_ => some k_ ≠ (v895 : Value).ownBlock ∧ some k_ ≠ (v898 : Value).ownBlock ∧ some k_ ≠ (.slice (some ad889) t878.length co42 : Value).ownBlock ∧ some k_ ≠ (.slice Ao8 t868.length co8 : Value).ownBlock ∧ some k_ ≠ (.slice Ao10 t871.length co10 : Value).ownBlock ∧ some k_ ≠ (.slice Ao11 t874.length co11 : Value).ownBlock) v892 t891) := ⟨h0_⟩
         have HO896 : Aside0 (Kd.R (Kd.int .i64) 3 w45 w.heap.size (fun k_ => some k_ ≠ (v892 : Value).ownBlock ∧ some k_ ≠ (v898 : Value).ownBlock ∧ some k_ ≠ (.slice (some ad889) t878.length co42 : Value).ownBlock ∧ some k_ ≠ (.slice Ao8 t868.length co8 : Value).ownBlock ∧ some k_ ≠ (.slice Ao10 t871.length co10 : Value).ownBlock ∧ some k_ ≠ (.slice Ao11 t874.length co11 : Value).ownBlock) v895 t894) := ⟨h1_⟩
         have HO899 : Aside0 (Kd.R (Kd.int .i64) 3 w45 w.heap.size (fun k_ => some k_ ≠ (v892 : Value).ownBlock ∧ some k_ ≠ (v895 : Value).ownBlock ∧ some k_ ≠ (.slice (some ad889) t878.length co42 : Value).ownBlock ∧ some k_ ≠ (.slice Ao8 t868.length co8 : Value).ownBlock ∧ some k_ ≠ (.slice Ao10 t871.length co10 : Value).ownBlock ∧ some k_ ≠ (.slice Ao11 t874.length co11 : Value).ownBlock) v898 t897) := ⟨h2_⟩
         replace HO_4 : Aside0 (Kd.R (Kd.int .i64) 3 w45 w.heap.size (fun k_ => some k_ ≠ (v892 : Value).ownBlock ∧ some k_ ≠ (v895 : Value).ownBlock ∧ some k_ ≠ (v898 : Value).ownBlock ∧ some k_ ≠ (.slice Ao8 t868.length co8 : Value).ownBlock ∧ some k_ ≠ (.slice Ao10 t871.length co10 : Value).ownBlock ∧ some k_ ≠ (.slice Ao11 t874.length co11 : Value).ownBlock) (.slice (some ad889) t878.length co42) t878) := ⟨h3_⟩
         replace HO_878000 : Aside0 (Kd.R (Kd.int .i64) 3 w45 w.heap.size (fun k_ => some k_ ≠ (v892 : Value).ownBlock ∧ some k_ ≠ (v895 : Value).ownBlock ∧ some k_ ≠ (v898 : Value).ownBlock ∧ some k_ ≠ (.slice (some ad889) t878.length co42 : Value).ownBlock ∧ some k_ ≠ (.slice Ao10 t871.length co10 : Value).ownBlock ∧ some k_ ≠ (.slice Ao11 t874.length co11 : Value).ownBlock) (.slice Ao8 t868.length co8) t868) := ⟨h4_⟩
         replace HO_878001 : Aside0 (Kd.R (Kd.int .i64) 3 w45 w.heap.size (fun k_ => some k_ ≠ (v892 : Value).ownBlock ∧ some k_ ≠ (v895 : Value).ownBlock ∧ some k_ ≠ (v898 : Value).ownBlock ∧ some k_ ≠ (.slice (some ad889) t878.length co42 : Value).ownBlock ∧ some k_ ≠ (.slice Ao8 t868.length co8 : Value).ownBlock ∧ some k_ ≠ (.slice Ao11 t874.length co11 : Value).ownBlock) (.slice Ao10 t871.length co10) t871) := ⟨h5_⟩
         replace HO_878002 : Aside0 (Kd.R (Kd.int .i64) 3 w45 w.heap.size (fun k_ => some k_ ≠ (v892 : Value).ownBlock ∧ some k_ ≠ (v895 : Value).ownBlock ∧ some k_ ≠ (v898 : Value).ownBlock ∧ some k_ ≠ (.slice (some ad889) t878.length co42 : Value).ownBlock ∧ some k_ ≠ (.slice Ao8 t868.length co8 : Value).ownBlock ∧ some k_ ≠ (.slice Ao10 t871.length co10 : Value).ownBlock) (.slice Ao11 t874.length co11) t874) := ⟨h6_⟩
         replace BK877 : Aside0 (w45.heap[gb877]? = some (.cells #[.slice Ao8 t868.length co8, .slice Ao10 t871.length co10, .slice Ao11 t874.length co11] 25 (0, 0))) := ⟨h7_⟩
         have BK901 : Aside0 (w45.heap[gb901]? = some (.cells #[.slice none 0 0, .slice none 0 0, .slice none 0 0] 25 (0, 0))) := ⟨h8_⟩
         have GW901 : Aside0 (w.heap.size ≤ gb901) := ⟨h9_⟩
         have GE901 : Aside0 (w.heap.size ≤ gb901) := ⟨h10_⟩
         have NB877_901 : Aside0 (gb877 ≠ gb901) := ⟨h11_⟩
         have NB901_877 : Aside0 (gb901 ≠ gb877) := ⟨h12_⟩
         replace HB : Aside0 (Below w.heap.size w w45) := ⟨h13_⟩
         clear h0_ h1_ h2_ h3_ h4_ h5_ h6_ h7_ h8_ h9_ h10_ h11_ h12_ h13_
         have hHeld : w45.cell? ⟨gb877, 0, none⟩ = some (.slice Ao8 t868.length co8) ∧ w45.cell? ⟨gb877, 1, none⟩ = some (.slice Ao10 t871.length co10) ∧ w45.cell? ⟨gb877, 2, none⟩ = some (.slice Ao11 t874.length co11) ∧ w45.cell? ad889 = some (.int .i64 (rd t878 0)) ∧ w45.cell? ad889 = some (.int .i64 (rd t878 0)) := hS_
         obtain ⟨Ao46, co46, eo46⟩ := Kd.R_slice HO893.out
         (first | subst eo46 | (injection eo46 with f1_ f2_ f3_; have f4_ := f1_.symm; have f5_ := f3_.symm; clear f1_ f2_ f3_; subst f4_; subst f5_))
         obtain ⟨Ao48, co48, eo48⟩ := Kd.R_slice HO896.out
         (first | subst eo48 | (injection eo48 with f1_ f2_ f3_; have f4_ := f1_.symm; have f5_ := f3_.symm; clear f1_ f2_ f3_; subst f4_; subst f5_))
         obtain ⟨Ao50, co50, eo50⟩ := Kd.R_slice HO899.out
         (first | subst eo50 | (injection eo50 with f1_ f2_ f3_; have f4_ := f1_.symm; have f5_ := f3_.symm; clear f1_ f2_ f3_; subst f4_; subst f5_))
         refine norm_ (a' := ?_) ?_ ?_
         rotate_left
         ·simp only [putAll, Act.put, List.setIfInBounds_toArray, List.set_cons_zero, List.set_cons_succ]
          rfl
         refine one_ (i := 12) (N := none) #[true, true, true, true, true, true, true, true, true, true, true, true, true, false] rfl rfl (one_of HT_.out (by kernel_rfl)) (by decide) (fun K hK => ?_)
         have hs47 : w45.cell? ⟨gb901, 0, none⟩ = some (.slice none 0 0) := (blk_cell BK901.out 0).trans rfl
         have hfs47 := blk_frozen BK901.out 0
         have hns47_0 := NB877_901.out
         have hms47_0 := NB901_877.out
         have hs49 : w45.cell? ⟨gb901, 1, none⟩ = some (.slice none 0 0) := (blk_cell BK901.out 1).trans rfl
         have hfs49 := blk_frozen BK901.out 1
         have hns49_0 := NB877_901.out
         have hms49_0 := NB901_877.out
         have hs51 : w45.cell? ⟨gb901, 2, none⟩ = some (.slice none 0 0) := (blk_cell BK901.out 2).trans rfl
         have hfs51 := blk_frozen BK901.out 2
         have hns51_0 := NB877_901.out
         have hms51_0 := NB901_877.out
         refine skip_ (w1 := ?_) (by rfl) rfl ?_ ?_
         rotate_left
         ·go_simp
          rfl
         refine hK.out _ _ ⟨((cell_far (p := ⟨gb901, _, none⟩) NB877_901.out _).trans (((cell_far (p := ⟨gb901, _, none⟩) NB877_901.out _).trans (((cell_far (p := ⟨gb901, _, none⟩) NB877_901.out _).trans (hHeld.1)))))), ((cell_far (p := ⟨gb901, _, none⟩) NB877_901.out _).trans (((cell_far (p := ⟨gb901, _, none⟩) NB877_901.out _).trans (((cell_far (p := ⟨gb901, _, none⟩) NB877_901.out _).trans (hHeld.2.1)))))), ((cell_far (p := ⟨gb901, _, none⟩) NB877_901.out _).trans (((cell_far (p := ⟨gb901, _, none⟩) NB877_901.out _).trans (((cell_far (p := ⟨gb901, _, none⟩) NB877_901.out _).trans (hHeld.2.2.1)))))), ((cell_far (p := ⟨gb901, _, none⟩) (by first | exact Kd.own_blk (Kd.R_ne HO_4.out BK901.out (by decide)) | (rw [add_block]; exact Kd.own_blk (Kd.R_ne HO_4.out BK901.out (by decide))) | (show (Addr.add _ _).block ≠ _; rw [add_block]; exact Kd.own_blk (Kd.R_ne HO_4.out BK901.out (by decide))) | (dsimp only; exact Kd.own_blk (Kd.R_ne HO_4.out BK901.out (by decide)))) _).trans (((cell_far (p := ⟨gb901, _, none⟩) (by first | exact Kd.own_blk (Kd.R_ne HO_4.out BK901.out (by decide)) | (rw [add_block]; exact Kd.own_blk (Kd.R_ne HO_4.out BK901.out (by decide))) | (show (Addr.add _ _).block ≠ _; rw [add_block]; exact Kd.own_blk (Kd.R_ne HO_4.out BK901.out (by decide))) | (dsimp only; exact Kd.own_blk (Kd.R_ne HO_4.out BK901.out (by decide)))) _).trans (((cell_far (p := ⟨gb901, _, none⟩) (by first | exact Kd.own_blk (Kd.R_ne HO_4.out BK901.out (by decide)) | (rw [add_block]; exact Kd.own_blk (Kd.R_ne HO_4.out BK901.out (by decide))) | (show (Addr.add _ _).block ≠ _; rw [add_block]; exact Kd.own_blk (Kd.R_ne HO_4.out BK901.out (by decide))) | (dsimp only; exact Kd.own_blk (Kd.R_ne HO_4.out BK901.out (by decide)))) _).trans (hHeld.2.2.2.1)))))), ((cell_far (p := ⟨gb901, _, none⟩) (by first | exact Kd.own_blk (Kd.R_ne HO_4.out BK901.out (by decide)) | (rw [add_block]; exact Kd.own_blk (Kd.R_ne HO_4.out BK901.out (by decide))) | (show (Addr.add _ _).block ≠ _; rw [add_block]; exact Kd.own_blk (Kd.R_ne HO_4.out BK901.out (by decide))) | (dsimp only; exact Kd.own_blk (Kd.R_ne HO_4.out BK901.out (by decide)))) _).trans (((cell_far (p := ⟨gb901, _, none⟩) (by first | exact Kd.own_blk (Kd.R_ne HO_4.out BK901.out (by decide)) | (rw [add_block]; exact Kd.own_blk (Kd.R_ne HO_4.out BK901.out (by decide))) | (show (Addr.add _ _).block ≠ _; rw [add_block]; exact Kd.own_blk (Kd.R_ne HO_4.out BK901.out (by decide))) | (dsimp only; exact Kd.own_blk (Kd.R_ne HO_4.out BK901.out (by decide)))) _).trans (((cell_far (p := ⟨gb901, _, none⟩) (by first | exact Kd.own_blk (Kd.R_ne HO_4.out BK901.out (by decide)) | (rw [add_block]; exact Kd.own_blk (Kd.R_ne HO_4.out BK901.out (by decide))) | (show (Addr.add _ _).block ≠ _; rw [add_block]; exact Kd.own_blk (Kd.R_ne HO_4.out BK901.out (by decide))) | (dsimp only; exact Kd.own_blk (Kd.R_ne HO_4.out BK901.out (by decide)))) _).trans (hHeld.2.2.2.2))))))⟩ (fun hHeld => ?_)
         clear hK K
         refine pure_ (i := 13) (N := some 6) (v := ?_) (a' := ?_) #[true, true, true, true, true, true, true, true, true, true, true, true, true, true] rfl rfl (any_of HT_.out (by kernel_rfl)) (fun _ _ _ h => h) (Or.inl ⟨by rfl, ?_⟩) ?_ ?_
         rotate_left
         ·intro w'
          go_simp
          with_reducible rfl
         rotate_left
         ·simp only [Act.put, List.setIfInBounds_toArray, List.set_cons_zero, List.set_cons_succ, i64_w, i32_w]
          rfl
         refine done_ (done_of HT_.out (by kernel_rfl)) ?_
         try go_wp2
         have n0_ : Aside0 (Kd.R (Kd.int .i64) 3 (((w45.setCell ⟨gb901, 0, none⟩ (.slice Ao46 t891.length co46)).setCell ⟨gb901, 1, none⟩ (.slice Ao48 t894.length co48)).setCell ⟨gb901, 2, none⟩ (.slice Ao50 t897.length co50)) w.heap.size (fun k_ => some k_ ≠ (.slice Ao8 t868.length co8 : Value).ownBlock ∧ some k_ ≠ (.slice Ao10 t871.length co10 : Value).ownBlock ∧ some k_ ≠ (.slice Ao11 t874.length co11 : Value).ownBlock ∧ some k_ ≠ (.slice Ao46 t891.length co46 : Value).ownBlock ∧ some k_ ≠ (.slice Ao48 t894.length co48 : Value).ownBlock ∧ some k_ ≠ (.slice Ao50 t897.length co50 : Value).ownBlock) (.slice (some ad889) t878.length co42) t878) := ⟨rl (Kd.R_mono (Kd.R_far (p := ⟨gb901, 2, none⟩) (Kd.R_far (p := ⟨gb901, 1, none⟩) (Kd.R_far (p := ⟨gb901, 0, none⟩) (Kd.R_types HO_4.out BK901.out (by decide)) (fun _ hk => hk.2) (.slice Ao46 t891.length co46)) (fun _ hk => hk.2) (.slice Ao48 t894.length co48)) (fun _ hk => hk.2) (.slice Ao50 t897.length co50)) (fun _ hk => by simp only [ne_eq] at hk ⊢; simp only [hk, not_false_eq_true, and_self]))⟩
         have n1_ : Aside0 (Kd.R (Kd.int .i64) 3 (((w45.setCell ⟨gb901, 0, none⟩ (.slice Ao46 t891.length co46)).setCell ⟨gb901, 1, none⟩ (.slice Ao48 t894.length co48)).setCell ⟨gb901, 2, none⟩ (.slice Ao50 t897.length co50)) w.heap.size (fun k_ => some k_ ≠ (.slice (some ad889) t878.length co42 : Value).ownBlock ∧ some k_ ≠ (.slice Ao10 t871.length co10 : Value).ownBlock ∧ some k_ ≠ (.slice Ao11 t874.length co11 : Value).ownBlock ∧ some k_ ≠ (.slice Ao46 t891.length co46 : Value).ownBlock ∧ some k_ ≠ (.slice Ao48 t894.length co48 : Value).ownBlock ∧ some k_ ≠ (.slice Ao50 t897.length co50 : Value).ownBlock) (.slice Ao8 t868.length co8) t868) := ⟨rl (Kd.R_mono (Kd.R_far (p := ⟨gb901, 2, none⟩) (Kd.R_far (p := ⟨gb901, 1, none⟩) (Kd.R_far (p := ⟨gb901, 0, none⟩) (Kd.R_types HO_878000.out BK901.out (by decide)) (fun _ hk => hk.2) (.slice Ao46 t891.length co46)) (fun _ hk => hk.2) (.slice Ao48 t894.length co48)) (fun _ hk => hk.2) (.slice Ao50 t897.length co50)) (fun _ hk => by simp only [ne_eq] at hk ⊢; simp only [hk, not_false_eq_true, and_self]))⟩
         have n2_ : Aside0 (Kd.R (Kd.int .i64) 3 (((w45.setCell ⟨gb901, 0, none⟩ (.slice Ao46 t891.length co46)).setCell ⟨gb901, 1, none⟩ (.slice Ao48 t894.length co48)).setCell ⟨gb901, 2, none⟩ (.slice Ao50 t897.length co50)) w.heap.size (fun k_ => some k_ ≠ (.slice (some ad889) t878.length co42 : Value).ownBlock ∧ some k_ ≠ (.slice Ao8 t868.length co8 : Value).ownBlock ∧ some k_ ≠ (.slice Ao11 t874.length co11 : Value).ownBlock ∧ some k_ ≠ (.slice Ao46 t891.length co46 : Value).ownBlock ∧ some k_ ≠ (.slice Ao48 t894.length co48 : Value).ownBlock ∧ some k_ ≠ (.slice Ao50 t897.length co50 : Value).ownBlock) (.slice Ao10 t871.length co10) t871) := ⟨rl (Kd.R_mono (Kd.R_far (p := ⟨gb901, 2, none⟩) (Kd.R_far (p := ⟨gb901, 1, none⟩) (Kd.R_far (p := ⟨gb901, 0, none⟩) (Kd.R_types HO_878001.out BK901.out (by decide)) (fun _ hk => hk.2) (.slice Ao46 t891.length co46)) (fun _ hk => hk.2) (.slice Ao48 t894.length co48)) (fun _ hk => hk.2) (.slice Ao50 t897.length co50)) (fun _ hk => by simp only [ne_eq] at hk ⊢; simp only [hk, not_false_eq_true, and_self]))⟩
         have n3_ : Aside0 (Kd.R (Kd.int .i64) 3 (((w45.setCell ⟨gb901, 0, none⟩ (.slice Ao46 t891.length co46)).setCell ⟨gb901, 1, none⟩ (.slice Ao48 t894.length co48)).setCell ⟨gb901, 2, none⟩ (.slice Ao50 t897.length co50)) w.heap.size (fun k_ => some k_ ≠ (.slice (some ad889) t878.length co42 : Value).ownBlock ∧ some k_ ≠ (.slice Ao8 t868.length co8 : Value).ownBlock ∧ some k_ ≠ (.slice Ao10 t871.length co10 : Value).ownBlock ∧ some k_ ≠ (.slice Ao46 t891.length co46 : Value).ownBlock ∧ some k_ ≠ (.slice Ao48 t894.length co48 : Value).ownBlock ∧ some k_ ≠ (.slice Ao50 t897.length co50 : Value).ownBlock) (.slice Ao11 t874.length co11) t874) := ⟨rl (Kd.R_mono (Kd.R_far (p := ⟨gb901, 2, none⟩) (Kd.R_far (p := ⟨gb901, 1, none⟩) (Kd.R_far (p := ⟨gb901, 0, none⟩) (Kd.R_types HO_878002.out BK901.out (by decide)) (fun _ hk => hk.2) (.slice Ao46 t891.length co46)) (fun _ hk => hk.2) (.slice Ao48 t894.length co48)) (fun _ hk => hk.2) (.slice Ao50 t897.length co50)) (fun _ hk => by simp only [ne_eq] at hk ⊢; simp only [hk, not_false_eq_true, and_self]))⟩
         have n4_ : Aside0 (Kd.R (Kd.int .i64) 3 (((w45.setCell ⟨gb901, 0, none⟩ (.slice Ao46 t891.length co46)).setCell ⟨gb901, 1, none⟩ (.slice Ao48 t894.length co48)).setCell ⟨gb901, 2, none⟩ (.slice Ao50 t897.length co50)) w.heap.size (fun k_ => some k_ ≠ (.slice (some ad889) t878.length co42 : Value).ownBlock ∧ some k_ ≠ (.slice Ao8 t868.length co8 : Value).ownBlock ∧ some k_ ≠ (.slice Ao10 t871.length co10 : Value).ownBlock ∧ some k_ ≠ (.slice Ao11 t874.length co11 : Value).ownBlock ∧ some k_ ≠ (.slice Ao48 t894.length co48 : Value).ownBlock ∧ some k_ ≠ (.slice Ao50 t897.length co50 : Value).ownBlock) (.slice Ao46 t891.length co46) t891) := ⟨rl (Kd.R_mono (Kd.R_far (p := ⟨gb901, 2, none⟩) (Kd.R_far (p := ⟨gb901, 1, none⟩) (Kd.R_far (p := ⟨gb901, 0, none⟩) (Kd.R_types HO893.out BK901.out (by decide)) (fun _ hk => hk.2) (.slice Ao46 t891.length co46)) (fun _ hk => hk.2) (.slice Ao48 t894.length co48)) (fun _ hk => hk.2) (.slice Ao50 t897.length co50)) (fun _ hk => by simp only [ne_eq] at hk ⊢; simp only [hk, not_false_eq_true, and_self]))⟩
         have n5_ : Aside0 (Kd.R (Kd.int .i64) 3 (((w45.setCell ⟨gb901, 0, none⟩ (.slice Ao46 t891.length co46)).setCell ⟨gb901, 1, none⟩ (.slice Ao48 t894.length co48)).setCell ⟨gb901, 2, none⟩ (.slice Ao50 t897.length co50)) w.heap.size (fun k_ => some k_ ≠ (.slice (some ad889) t878.length co42 : Value).ownBlock ∧ some k_ ≠ (.slice Ao8 t868.length co8 : Value).ownBlock ∧ some k_ ≠ (.slice Ao10 t871.length co10 : Value).ownBlock ∧ some k_ ≠ (.slice Ao11 t874.length co11 : Value).ownBlock ∧ some k_ ≠ (.slice Ao46 t891.length co46 : Value).ownBlock ∧ some k_ ≠ (.slice Ao50 t897.length co50 : Value).ownBlock) (.slice Ao48 t894.length co48) t894) := ⟨rl (Kd.R_mono (Kd.R_far (p := ⟨gb901, 2, none⟩) (Kd.R_far (p := ⟨gb901, 1, none⟩) (Kd.R_far (p := ⟨gb901, 0, none⟩) (Kd.R_types HO896.out BK901.out (by decide)) (fun _ hk => hk.2) (.slice Ao46 t891.length co46)) (fun _ hk => hk.2) (.slice Ao48 t894.length co48)) (fun _ hk => hk.2) (.slice Ao50 t897.length co50)) (fun _ hk => by simp only [ne_eq] at hk ⊢; simp only [hk, not_false_eq_true, and_self]))⟩
         have n6_ : Aside0 (Kd.R (Kd.int .i64) 3 (((w45.setCell ⟨gb901, 0, none⟩ (.slice Ao46 t891.length co46)).setCell ⟨gb901, 1, none⟩ (.slice Ao48 t894.length co48)).setCell ⟨gb901, 2, none⟩ (.slice Ao50 t897.length co50)) w.heap.size (fun k_ => some k_ ≠ (.slice (some ad889) t878.length co42 : Value).ownBlock ∧ some k_ ≠ (.slice Ao8 t868.length co8 : Value).ownBlock ∧ some k_ ≠ (.slice Ao10 t871.length co10 : Value).ownBlock ∧ some k_ ≠ (.slice Ao11 t874.length co11 : Value).ownBlock ∧ some k_ ≠ (.slice Ao46 t891.length co46 : Value).ownBlock ∧ some k_ ≠ (.slice Ao48 t894.length co48 : Value).ownBlock) (.slice Ao50 t897.length co50) t897) := ⟨rl (Kd.R_mono (Kd.R_far (p := ⟨gb901, 2, none⟩) (Kd.R_far (p := ⟨gb901, 1, none⟩) (Kd.R_far (p := ⟨gb901, 0, none⟩) (Kd.R_types HO899.out BK901.out (by decide)) (fun _ hk => hk.2) (.slice Ao46 t891.length co46)) (fun _ hk => hk.2) (.slice Ao48 t894.length co48)) (fun _ hk => hk.2) (.slice Ao50 t897.length co50)) (fun _ hk => by simp only [ne_eq] at hk ⊢; simp only [hk, not_false_eq_true, and_self]))⟩
         have n7_ : Aside0 ((((w45.setCell ⟨gb901, 0, none⟩ (.slice Ao46 t891.length co46)).setCell ⟨gb901, 1, none⟩ (.slice Ao48 t894.length co48)).setCell ⟨gb901, 2, none⟩ (.slice Ao50 t897.length co50)).heap[gb877]? = some (.cells #[.slice Ao8 t868.length co8, .slice Ao10 t871.length co10, .slice Ao11 t874.length co11] 25 (0, 0))) := ⟨kf1 NB877_901.out BK877.out⟩
         have n8_ : Aside0 ((((w45.setCell ⟨gb901, 0, none⟩ (.slice Ao46 t891.length co46)).setCell ⟨gb901, 1, none⟩ (.slice Ao48 t894.length co48)).setCell ⟨gb901, 2, none⟩ (.slice Ao50 t897.length co50)).heap[gb901]? = some (.cells #[.slice Ao46 t891.length co46, .slice Ao48 t894.length co48, .slice Ao50 t897.length co50] 25 (0, 0))) := ⟨kp3 (kf0 BK901.out)⟩
         have n9_ : Aside0 (Below w.heap.size w (((w45.setCell ⟨gb901, 0, none⟩ (.slice Ao46 t891.length co46)).setCell ⟨gb901, 1, none⟩ (.slice Ao48 t894.length co48)).setCell ⟨gb901, 2, none⟩ (.slice Ao50 t897.length co50))) := ⟨by exact bs2 GE877.out GE901.out HB.out⟩
         (try clear HO_4)
         (try clear HO_878000)
         (try clear HO_878001)
         (try clear HO_878002)
         (try clear HO893)
         (try clear HO896)
         (try clear HO899)
         (try clear BK877)
         (try clear BK901)
         (try clear HB)
         generalize (((w45.setCell ⟨gb901, 0, none⟩ (.slice Ao46 t891.length co46)).setCell ⟨gb901, 1, none⟩ (.slice Ao48 t894.length co48)).setCell ⟨gb901, 2, none⟩ (.slice Ao50 t897.length co50)) = w52 at n0_ n1_ n2_ n3_ n4_ n5_ n6_ n7_ n8_ n9_ ⊢
         have HO_4 := n0_
         have HO_878000 := n1_
         have HO_878001 := n2_
         have HO_878002 := n3_
         have HO893 := n4_
         have HO896 := n5_
         have HO899 := n6_
         have BK877 := n7_
         have BK901 := n8_
         have HB := n9_
         clear n0_ n1_ n2_ n3_ n4_ n5_ n6_ n7_ n8_ n9_
         replace HO_4 := am (Kd.R_drew HO_4.out)
         replace HO_878000 := am (Kd.R_drew HO_878000.out)
         replace HO_878001 := am (Kd.R_drew HO_878001.out)
         replace HO_878002 := am (Kd.R_drew HO_878002.out)
         replace HO893 := am (Kd.R_drew HO893.out)
         replace HO896 := am (Kd.R_drew HO896.out)
         replace HO899 := am (Kd.R_drew HO899.out)
         replace BK877 := am (blk_drew BK877.out)
         replace BK901 := am (blk_drew BK901.out)
         replace HB := am (below_drew1 HB.out)
         have p902 : 0 ≤ (0 : Int) := (by omega)
         have q902 : 0 < (t878.length : Int) := of_decide_eq_true (by first | (with_reducible assumption) | assumption)
         obtain ⟨ad902, e902, hx902_0⟩ := Kd.at_int (Kd.R_reads' HO_4.out).2.2 0 p902 q902
         obtain rfl : ad889 = ad902 := (by injection e902)
         have qi902 : (0 < t878.length) = True := eq_true (by omega)
         (try rw [show ((0 : Int)).toNat = 0 from rfl] at hx902_0)
         (try rw [Addr.add_zero'] at hx902_0)
         replace p902 := eq_true p902
         replace q902 := eq_true q902
         refine start_ (n := 11) (S := fun w' => w'.cell? ⟨gb901, 0, none⟩ = some (.slice Ao46 t891.length co46) ∧ w'.cell? ⟨gb901, 1, none⟩ = some (.slice Ao48 t894.length co48) ∧ w'.cell? ⟨gb901, 2, none⟩ = some (.slice Ao50 t897.length co50) ∧ w'.cell? ad889 = some (.int .i64 (rd t878 0))) (ds := []) #[false, false, false, false, false, false, false, false, false, false, false] (by kernel_rfl) rfl rfl ⟨(blk_cell BK901.out 0).trans rfl, (blk_cell BK901.out 1).trans rfl, (blk_cell BK901.out 2).trans rfl, hx902_0⟩ (fun hHeld => ?_); refine with_tabW laws_FnGarbagePointers.tab8 laws_FnGarbagePointers.bits8 (fun HT_ HW_ => ?_)
         generalize w52.drew = w53 at HO_4 HO_878000 HO_878001 HO_878002 HO893 HO896 HO899 BK877 BK901 HB hx902_0 hHeld ⊢
         refine pure_ (i := 1) (N := some 43) (v := ?_) (a' := ?_) #[false, true, false, false, false, false, false, false, false, false, false] rfl rfl (any_of HT_.out (by kernel_rfl)) (fun _ _ _ h => h) (Or.inl ⟨by rfl, ?_⟩) ?_ ?_
         rotate_left
         ·intro w'
          go_simp
          with_reducible rfl
         rotate_left
         ·simp only [Act.put, List.setIfInBounds_toArray, List.set_cons_zero, List.set_cons_succ, i64_w, i32_w]
          rfl
         refine pure_ (i := 2) (N := some 44) (v := ?_) (a' := ?_) #[false, true, true, false, false, false, false, false, false, false, false] rfl rfl (any_of HT_.out (by kernel_rfl)) (fun _ _ _ h => h) (Or.inl ⟨by rfl, ?_⟩) ?_ ?_
         rotate_left
         ·intro w'
          go_simp
          with_reducible rfl
         rotate_left
         ·simp only [Act.put, List.setIfInBounds_toArray, List.set_cons_zero, List.set_cons_succ, i64_w, i32_w]
          rfl
         refine take_ (i := 0) (N := some 42) (v := ?_) (a' := ?_) #[true, true, true, false, false, false, false, false, false, false, false] rfl rfl (take_ofW HT_.out HW_.out (by kernel_rfl)) (fun _ _ _ h => h) (Or.inl ⟨by rfl, ?_⟩) hHeld ?_ ?_
         rotate_left
         ·rintro w' ⟨s0, s1, s2, s3⟩
          go_simp
          with_reducible rfl
         rotate_left
         ·simp only [Act.put, List.setIfInBounds_toArray, List.set_cons_zero, List.set_cons_succ, i64_w, i32_w]
          rfl
         refine take_ (i := 3) (N := some 45) (v := ?_) (a' := ?_) #[true, true, true, true, false, false, false, false, false, false, false] rfl rfl (take_ofW HT_.out HW_.out (by kernel_rfl)) (fun _ _ _ h => h) (Or.inl ⟨by rfl, ?_⟩) hHeld ?_ ?_
         rotate_left
         ·rintro w' ⟨s0, s1, s2, s3⟩
          go_simp
          with_reducible rfl
         rotate_left
         ·simp only [Act.put, List.setIfInBounds_toArray, List.set_cons_zero, List.set_cons_succ, i64_w, i32_w]
          rfl
         refine join_ (σ := Value × Value × Value × Nat) 2 #[true, true, true, true, true, true, true, true, true, false, false] (fun s_ => [(46, .tuple #[.agg #[s_.1, s_.2.1, s_.2.2.1], .bool true]), (7, .pointer (some ⟨s_.2.2.2, 0, none⟩)), (41, .tuple #[.agg #[s_.1, s_.2.1, s_.2.2.1], .bool true]), (47, .agg #[s_.1, s_.2.1, s_.2.2.1]), (48, .bool true)]) (fun s_ w' => (w'.cell? ⟨gb901, 0, none⟩ = some (.slice Ao46 t891.length co46) ∧ w'.cell? ⟨gb901, 1, none⟩ = some (.slice Ao48 t894.length co48) ∧ w'.cell? ⟨gb901, 2, none⟩ = some (.slice Ao50 t897.length co50) ∧ w'.cell? ad889 = some (.int .i64 (rd t878 0))) ∧ (Kd.R (Kd.int .i64) 3 w' w.heap.size (fun k_ => some k_ ≠ (.slice Ao48 t894.length co48 : Value).ownBlock ∧ some k_ ≠ (.slice Ao50 t897.length co50 : Value).ownBlock ∧ some k_ ≠ (s_.1 : Value).ownBlock ∧ some k_ ≠ (s_.2.1 : Value).ownBlock ∧ some k_ ≠ (s_.2.2.1 : Value).ownBlock ∧ some k_ ≠ (.slice (some ad889) t878.length co42 : Value).ownBlock ∧ some k_ ≠ (.slice Ao8 t868.length co8 : Value).ownBlock ∧ some k_ ≠ (.slice Ao10 t871.length co10 : Value).ownBlock ∧ some k_ ≠ (.slice Ao11 t874.length co11 : Value).ownBlock) (.slice Ao46 t891.length co46) t891) ∧ (Kd.R (Kd.int .i64) 3 w' w.heap.size (fun k_ => some k_ ≠ (.slice Ao46 t891.length co46 : Value).ownBlock ∧ some k_ ≠ (.slice Ao50 t897.length co50 : Value).ownBlock ∧ some k_ ≠ (s_.1 : Value).ownBlock ∧ some k_ ≠ (s_.2.1 : Value).ownBlock ∧ some k_ ≠ (s_.2.2.1 : Value).ownBlock ∧ some k_ ≠ (.slice (some ad889) t878.length co42 : Value).ownBlock ∧ some k_ ≠ (.slice Ao8 t868.length co8 : Value).ownBlock ∧ some k_ ≠ (.slice Ao10 t871.length co10 : Value).ownBlock ∧ some k_ ≠ (.slice Ao11 t874.length co11 : Value).ownBlock) (.slice Ao48 t894.length co48) t894) ∧ (Kd.R (Kd.int .i64) 3 w' w.heap.size (fun k_ => some k_ ≠ (.slice Ao46 t891.length co46 : Value).ownBlock ∧ some k_ ≠ (.slice Ao48 t894.length co48 : Value).ownBlock ∧ some k_ ≠ (s_.1 : Value).ownBlock ∧ some k_ ≠ (s_.2.1 : Value).ownBlock ∧ some k_ ≠ (s_.2.2.1 : Value).ownBlock ∧ some k_ ≠ (.slice (some ad889) t878.length co42 : Value).ownBlock ∧ some k_ ≠ (.slice Ao8 t868.length co8 : Value).ownBlock ∧ some k_ ≠ (.slice Ao10 t871.length co10 : Value).ownBlock ∧ some k_ ≠ (.slice Ao11 t874.length co11 : Value).ownBlock) (.slice Ao50 t897.length co50) t897) ∧ (Kd.R (Kd.int .i64) 3 w' w.heap.size (fun k_ => some k_ ≠ (.slice Ao46 t891.length co46 : Value).ownBlock ∧ some k_ ≠ (.slice Ao48 t894.length co48 : Value).ownBlock ∧ some k_ ≠ (.slice Ao50 t897.length co50 : Value).ownBlock ∧ some k_ ≠ (s_.2.1 : Value).ownBlock ∧ some k_ ≠ (s_.2.2.1 : Value).ownBlock ∧ some k_ ≠ (.slice (some ad889) t878.length co42 : Value).ownBlock ∧ some k_ ≠ (.slice Ao8 t868.length co8 : Value).ownBlock ∧ some k_ ≠ (.slice Ao10 t871.length co10 : Value).ownBlock ∧ some k_ ≠ (.slice Ao11 t874.length co11 : Value).ownBlock) s_.1 t903) ∧ (Kd.R (Kd.int .i64) 3 w' w.heap.size (fun k_ => some k_ ≠ (.slice Ao46 t891.length co46 : Value).ownBlock ∧ some k_ ≠ (.slice Ao48 t894.length co48 : Value).ownBlock ∧ some k_ ≠ (.slice Ao50 t897.length co50 : Value).ownBlock ∧ some k_ ≠ (s_.1 : Value).ownBlock ∧ some k_ ≠ (s_.2.2.1 : Value).ownBlock ∧ some k_ ≠ (.slice (some ad889) t878.length co42 : Value).ownBlock ∧ some k_ ≠ (.slice Ao8 t868.length co8 : Value).ownBlock ∧ some k_ ≠ (.slice Ao10 t871.length co10 : Value).ownBlock ∧ some k_ ≠ (.slice Ao11 t874.length co11 : Value).ownBlock) s_.2.1 t906) ∧ (Kd.R (Kd.int .i64) 3 w' w.heap.size (fun k_ => some k_ ≠ (.slice Ao46 t891.length co46 : Value).ownBlock ∧ some k_ ≠ (.slice Ao48 t894.length co48 : Value).ownBlock ∧ some k_ ≠ (.slice Ao50 t897.length co50 : Value).ownBlock ∧ some k_ ≠ (s_.1 : Value).ownBlock ∧ some k_ ≠ (s_.2.1 : Value).ownBlock ∧ some k_ ≠ (.slice (some ad889) t878.length co42 : Value).ownBlock ∧ some k_ ≠ (.slice Ao8 t868.length co8 : Value).ownBlock ∧ some k_ ≠ (.slice Ao10 t871.length co10 : Value).ownBlock ∧ some k_ ≠ (.slice Ao11 t874.length co11 : Value).ownBlock) s_.2.2.1 t909) ∧ (Kd.R (Kd.int .i64) 3 w' w.heap.size (fun k_ => some k_ ≠ (.slice Ao46 t891.length co46 : Value).ownBlock ∧ some k_ ≠ (.slice Ao48 t894.length co48 : Value).ownBlock ∧ some k_ ≠ (.slice Ao50 t897.length co50 : Value).ownBlock ∧ some k_ ≠ (s_.1 : Value).ownBlock ∧ some k_ ≠ (s_.2.1 : Value).ownBlock ∧ some k_ ≠ (s_.2.2.1 : Value).ownBlock ∧ some k_ ≠ (.slice Ao8 t868.length co8 : Value).ownBlock ∧ some k_ ≠ (.slice Ao10 t871.length co10 : Value).ownBlock ∧ some k_ ≠ (.slice Ao11 t874.length co11 : Value).ownBlock) (.slice (some ad889) t878.length co42) t878) ∧ (Kd.R (Kd.int .i64) 3 w' w.heap.size (fun k_ => some k_ ≠ (.slice Ao46 t891.length co46 : Value).ownBlock ∧ some k_ ≠ (.slice Ao48 t894.length co48 : Value).ownBlock ∧ some k_ ≠ (.slice Ao50 t897.length co50 : Value).ownBlock ∧ some k_ ≠ (s_.1 : Value).ownBlock ∧ some k_ ≠ (s_.2.1 : Value).ownBlock ∧ some k_ ≠ (s_.2.2.1 : Value).ownBlock ∧ some k_ ≠ (.slice (some ad889) t878.length co42 : Value).ownBlock ∧ some k_ ≠ (.slice Ao10 t871.length co10 : Value).ownBlock ∧ some k_ ≠ (.slice Ao11 t874.length co11 : Value).ownBlock) (.slice Ao8 t868.length co8) t868) ∧ (Kd.R (Kd.int .i64) 3 w' w.heap.size (fun k_ => some k_ ≠ (.slice Ao46 t891.length co46 : Value).ownBlock ∧ some k_ ≠ (.slice Ao48 t894.length co48 : Value).ownBlock ∧ some k_ ≠ (.slice Ao50 t897.length co50 : Value).ownBlock ∧ some k_ ≠ (s_.1 : Value).ownBlock ∧ some k_ ≠ (s_.2.1 : Value).ownBlock ∧ some k_ ≠ (s_.2.2.1 : Value).ownBlock ∧ some k_ ≠ (.slice (some ad889) t878.length co42 : Value).ownBlock ∧ some k_ ≠ (.slice Ao8 t868.length co8 : Value).ownBlock ∧ some k_ ≠ (.slice Ao11 t874.length co11 : Value).ownBlock) (.slice Ao10 t871.length co10) t871) ∧ (Kd.R (Kd.int .i64) 3 w' w.heap.size (fun k_ => some k_ ≠ (.slice Ao46 t891.length co46 : Value).ownBlock ∧ some k_ ≠ (.slice Ao48 t894.length co48 : Value).ownBlock ∧ some k_ ≠ (.slice Ao50 t897.length co50 : Value).ownBlock ∧ some k_ ≠ (s_.1 : Value).ownBlock ∧ some k_ ≠ (s_.2.1 : Value).ownBlock ∧ some k_ ≠ (s_.2.2.1 : Value).ownBlock ∧ some k_ ≠ (.slice (some ad889) t878.length co42 : Value).ownBlock ∧ some k_ ≠ (.slice Ao8 t868.length co8 : Value).ownBlock ∧ some k_ ≠ (.slice Ao10 t871.length co10 : Value).ownBlock) (.slice Ao11 t874.length co11) t874) ∧ (w'.heap[gb877]? = some (.cells #[.slice Ao8 t868.length co8, .slice Ao10 t871.length co10, .slice Ao11 t874.length co11] 25 (0, 0))) ∧ (w'.heap[gb901]? = some (.cells #[.slice Ao46 t891.length co46, .slice Ao48 t894.length co48, .slice Ao50 t897.length co50] 25 (0, 0))) ∧ (w'.heap[s_.2.2.2]? = some (.cells #[.slice none 0 0, .slice none 0 0, .slice none 0 0] 25 (0, 0))) ∧ (w.heap.size ≤ s_.2.2.2) ∧ (w.heap.size ≤ s_.2.2.2) ∧ (gb877 ≠ s_.2.2.2) ∧ (s_.2.2.2 ≠ gb877) ∧ (gb901 ≠ s_.2.2.2) ∧ (s_.2.2.2 ≠ gb901) ∧ (Below w.heap.size w w')) ?_ ?_
         rotate_left
         ·intro hCont
          refine two_ (i := 4) (j := 8) (Ni := some 46) (Nj := some 7) #[true, true, true, true, true, false, false, false, false, false, false] #[true, true, true, true, false, false, false, false, true, false, false] rfl rfl rfl rfl (two_of HT_.out (by kernel_rfl)) (by decide) (by decide) (fun K hK => ?_) (fun K hK => ?_)
          ·skip
           refine goes_ Try.func32 (by kernel_rfl) rfl #[.agg #[.slice Ao46 t891.length co46, .slice Ao48 t894.length co48, .slice Ao50 t897.length co50], .int .i64 (rd t878 0), .int .i64 0] (by rfl) rfl rfl (by (try simp only [List.map_toArray, List.map_cons, List.map_nil]); first | done | rfl | (simp only [List.length_drop, List.length_take]; rfl)) ?_
           with_reducible refine (impl_PutRight.calls kj4 _ _ t891 _ _ t894 _ _ t897 (rd t878 0) 0 t903 t906 t909 true _ ?side1 ?side2 ?side3 ?side4 ?side5 ?side6 A33.out).mono ?_
           (case side1 => exact cl ((Kd.R_reads' HO893.out).2.2))
           (case side2 => exact (Kd.R_reads' HO893.out).2.1)
           (case side3 => exact cl ((Kd.R_reads' HO896.out).2.2))
           (case side4 => exact (Kd.R_reads' HO896.out).2.1)
           (case side5 => exact cl ((Kd.R_reads' HO899.out).2.2))
           (case side6 => exact (Kd.R_reads' HO899.out).2.1)
           rintro e w54 ⟨v904, v907, v910, rfl, ho0, ho1, ho2, hb⟩
           have HS3_ := (hb.cell (World.block_lt_of_cell? _ _ (hHeld.2.2.2))).trans (hHeld.2.2.2)
           refine ⟨_, rfl, ?_⟩
           have HO905 := am (Kd.R_lower (Kd.R_new' (Kd.R_new' (Kd.R_new' (Kd.R_new' (Kd.R_new' (Kd.R_new' (Kd.R_new' ho0 (Kd.R_lt (rl HO_4.out))) (Kd.R_lt (rl HO_878000.out))) (Kd.R_lt (rl HO_878001.out))) (Kd.R_lt (rl HO_878002.out))) (Kd.R_lt (rl HO893.out))) (Kd.R_lt (rl HO896.out))) (Kd.R_lt (rl HO899.out))) (below_size (bs2 GE877.out GE901.out HB.out)))
           have HO908 := am (Kd.R_lower (Kd.R_new' (Kd.R_new' (Kd.R_new' (Kd.R_new' (Kd.R_new' (Kd.R_new' (Kd.R_new' ho1 (Kd.R_lt (rl HO_4.out))) (Kd.R_lt (rl HO_878000.out))) (Kd.R_lt (rl HO_878001.out))) (Kd.R_lt (rl HO_878002.out))) (Kd.R_lt (rl HO893.out))) (Kd.R_lt (rl HO896.out))) (Kd.R_lt (rl HO899.out))) (below_size (bs2 GE877.out GE901.out HB.out)))
           have HO911 := am (Kd.R_lower (Kd.R_new' (Kd.R_new' (Kd.R_new' (Kd.R_new' (Kd.R_new' (Kd.R_new' (Kd.R_new' ho2 (Kd.R_lt (rl HO_4.out))) (Kd.R_lt (rl HO_878000.out))) (Kd.R_lt (rl HO_878001.out))) (Kd.R_lt (rl HO_878002.out))) (Kd.R_lt (rl HO893.out))) (Kd.R_lt (rl HO896.out))) (Kd.R_lt (rl HO899.out))) (below_size (bs2 GE877.out GE901.out HB.out)))
           replace HO_4 := am (Kd.R_mono (Kd.R_told (Kd.R_told (Kd.R_told (Kd.R_old (rl HO_4.out) hb) (Kd.R_base ho0)) (Kd.R_base ho1)) (Kd.R_base ho2)) (fun _ h_ => h_.1))
           replace HO_878000 := am (Kd.R_mono (Kd.R_told (Kd.R_told (Kd.R_told (Kd.R_old (rl HO_878000.out) hb) (Kd.R_base ho0)) (Kd.R_base ho1)) (Kd.R_base ho2)) (fun _ h_ => h_.1))
           replace HO_878001 := am (Kd.R_mono (Kd.R_told (Kd.R_told (Kd.R_told (Kd.R_old (rl HO_878001.out) hb) (Kd.R_base ho0)) (Kd.R_base ho1)) (Kd.R_base ho2)) (fun _ h_ => h_.1))
           replace HO_878002 := am (Kd.R_mono (Kd.R_told (Kd.R_told (Kd.R_told (Kd.R_old (rl HO_878002.out) hb) (Kd.R_base ho0)) (Kd.R_base ho1)) (Kd.R_base ho2)) (fun _ h_ => h_.1))
           replace HO893 := am (Kd.R_mono (Kd.R_told (Kd.R_told (Kd.R_told (Kd.R_old (rl HO893.out) hb) (Kd.R_base ho0)) (Kd.R_base ho1)) (Kd.R_base ho2)) (fun _ h_ => h_.1))
           replace HO896 := am (Kd.R_mono (Kd.R_told (Kd.R_told (Kd.R_told (Kd.R_old (rl HO896.out) hb) (Kd.R_base ho0)) (Kd.R_base ho1)) (Kd.R_base ho2)) (fun _ h_ => h_.1))
           replace HO899 := am (Kd.R_mono (Kd.R_told (Kd.R_told (Kd.R_told (Kd.R_old (rl HO899.out) hb) (Kd.R_base ho0)) (Kd.R_base ho1)) (Kd.R_base ho2)) (fun _ h_ => h_.1))
           replace BK877 := am (blk_below (g := gb877) (o := .cells #[.slice Ao8 t868.length co8, .slice Ao10 t871.length co10, .slice Ao11 t874.length co11] 25 (0, 0)) (kl BK877.out) hb)
           replace BK901 := am (blk_below (g := gb901) (o := .cells #[.slice Ao46 t891.length co46, .slice Ao48 t894.length co48, .slice Ao50 t897.length co50] 25 (0, 0)) (kl BK901.out) hb)
           replace HB := am (below_step (bs2 GE877.out GE901.out HB.out) hb)
           (try clear hb)
           (try clear hb2)
           (try clear hk)
           (try clear hi)
           (try clear ho0)
           (try clear ho1)
           (try clear ho2)
           refine hK.out _ _ ⟨(blk_cell BK901.out 0).trans rfl, (blk_cell BK901.out 1).trans rfl, (blk_cell BK901.out 2).trans rfl, HS3_⟩ (fun hHeld => ?_)
           clear hK K
           refine norm_ (a' := ?_) ?_ ?_
           rotate_left
           ·show Act.put _ (some 46) _ = _
            simp only [Act.put, List.setIfInBounds_toArray, List.set_cons_zero, List.set_cons_succ, i64_w, i32_w]
            rfl
           refine pure_ (i := 5) (N := some 41) (v := ?_) (a' := ?_) #[true, true, true, true, true, true, false, false, false, false, false] rfl rfl (any_of HT_.out (by kernel_rfl)) (fun _ _ _ h => h) (Or.inl ⟨by rfl, ?_⟩) ?_ ?_
           rotate_left
           ·intro w'
            go_simp
            with_reducible rfl
           rotate_left
           ·simp only [Act.put, List.setIfInBounds_toArray, List.set_cons_zero, List.set_cons_succ, i64_w, i32_w]
            rfl
           refine pure_ (i := 6) (N := some 47) (v := ?_) (a' := ?_) #[true, true, true, true, true, true, true, false, false, false, false] rfl rfl (any_of HT_.out (by kernel_rfl)) (fun _ _ _ h => h) (Or.inl ⟨by rfl, ?_⟩) ?_ ?_
           rotate_left
           ·intro w'
            go_simp
            with_reducible rfl
           rotate_left
           ·simp only [Act.put, List.setIfInBounds_toArray, List.set_cons_zero, List.set_cons_succ, i64_w, i32_w]
            rfl
           refine pure_ (i := 7) (N := some 48) (v := ?_) (a' := ?_) #[true, true, true, true, true, true, true, true, false, false, false] rfl rfl (any_of HT_.out (by kernel_rfl)) (fun _ _ _ h => h) (Or.inl ⟨by rfl, ?_⟩) ?_ ?_
           rotate_left
           ·intro w'
            go_simp
            with_reducible rfl
           rotate_left
           ·simp only [Act.put, List.setIfInBounds_toArray, List.set_cons_zero, List.set_cons_succ, i64_w, i32_w]
            rfl
           refine one_ (i := 8) (N := some 7) #[true, true, true, true, true, true, true, true, true, false, false] rfl rfl (one_of HT_.out (by kernel_rfl)) (by decide) (fun K hK => ?_)
           refine box_step ?hg (N := 7) ?hd (cs := #[.slice none 0 0, .slice none 0 0, .slice none 0 0]) (t := 25) ?hr ?_; (case hd => rfl); (case hg => rfl); (case hr => first | (go_simp; done) | (go_simp; rfl))
           intro gb913 hg w55 hbox hb
           have HS3_ := (hb.cell (World.block_lt_of_cell? _ _ (hHeld.2.2.2))).trans (hHeld.2.2.2)
           replace HO_4 := am (Kd.R_below (rl HO_4.out) hb)
           replace HO_878000 := am (Kd.R_below (rl HO_878000.out) hb)
           replace HO_878001 := am (Kd.R_below (rl HO_878001.out) hb)
           replace HO_878002 := am (Kd.R_below (rl HO_878002.out) hb)
           replace HO893 := am (Kd.R_below (rl HO893.out) hb)
           replace HO896 := am (Kd.R_below (rl HO896.out) hb)
           replace HO899 := am (Kd.R_below (rl HO899.out) hb)
           replace HO905 := am (Kd.R_below (rl HO905.out) hb)
           replace HO908 := am (Kd.R_below (rl HO908.out) hb)
           replace HO911 := am (Kd.R_below (rl HO911.out) hb)
           have BK913 := am (hbox)
           have GW913 := am ((by rw [hg]; exact (below_size (bs2 GE877.out GE901.out HB.out)) : w.heap.size ≤ gb913))
           have GE913 := am ((by rw [hg]; exact (below_size (bs2 GE877.out GE901.out HB.out)) : w.heap.size ≤ gb913))
           replace HB := am (below_step (bs2 GE877.out GE901.out HB.out) hb)
           have NB877_913 := am ((by rw [hg]; exact Nat.ne_of_lt (blk_lt (g := gb877) (o := .cells #[.slice Ao8 t868.length co8, .slice Ao10 t871.length co10, .slice Ao11 t874.length co11] 25 (0, 0)) (kl BK877.out)) : gb877 ≠ gb913))
           have NB913_877 := am ((by rw [hg]; exact Nat.ne_of_gt (blk_lt (g := gb877) (o := .cells #[.slice Ao8 t868.length co8, .slice Ao10 t871.length co10, .slice Ao11 t874.length co11] 25 (0, 0)) (kl BK877.out)) : gb913 ≠ gb877))
           replace BK877 := am (blk_below (g := gb877) (o := .cells #[.slice Ao8 t868.length co8, .slice Ao10 t871.length co10, .slice Ao11 t874.length co11] 25 (0, 0)) (kl BK877.out) hb)
           have NB901_913 := am ((by rw [hg]; exact Nat.ne_of_lt (blk_lt (g := gb901) (o := .cells #[.slice Ao46 t891.length co46, .slice Ao48 t894.length co48, .slice Ao50 t897.length co50] 25 (0, 0)) (kl BK901.out)) : gb901 ≠ gb913))
           have NB913_901 := am ((by rw [hg]; exact Nat.ne_of_gt (blk_lt (g := gb901) (o := .cells #[.slice Ao46 t891.length co46, .slice Ao48 t894.length co48, .slice Ao50 t897.length co50] 25 (0, 0)) (kl BK901.out)) : gb913 ≠ gb901))
           replace BK901 := am (blk_below (g := gb901) (o := .cells #[.slice Ao46 t891.length co46, .slice Ao48 t894.length co48, .slice Ao50 t897.length co50] 25 (0, 0)) (kl BK901.out) hb)
           clear hb hbox hg
           refine hK.out _ _ ⟨(blk_cell BK901.out 0).trans rfl, (blk_cell BK901.out 1).trans rfl, (blk_cell BK901.out 2).trans rfl, HS3_⟩ (fun hHeld => ?_)
           clear hK K
           refine norm_ (a' := ?_) ?_ ?_
           rotate_left
           ·show Act.put _ (some 7) _ = _
            simp only [Act.put, List.setIfInBounds_toArray, List.set_cons_zero, List.set_cons_succ, i64_w, i32_w]
            rfl
           exact norm_ (by simp only [putAll, Act.put, List.setIfInBounds_toArray, List.set_cons_zero, List.set_cons_succ]) (hCont (v904, v907, v910, gb913) _ ⟨hHeld, (rl (Kd.R_mono HO893.out (fun _ hk => by simp only [ne_eq] at hk ⊢; simp only [hk, not_false_eq_true, and_self]))), (rl (Kd.R_mono HO896.out (fun _ hk => by simp only [ne_eq] at hk ⊢; simp only [hk, not_false_eq_true, and_self]))), (rl (Kd.R_mono HO899.out (fun _ hk => by simp only [ne_eq] at hk ⊢; simp only [hk, not_false_eq_true, and_self]))), (rl (Kd.R_mono HO905.out (fun _ hk => by simp only [ne_eq] at hk ⊢; simp only [hk, not_false_eq_true, and_self]))), (rl (Kd.R_mono HO908.out (fun _ hk => by simp only [ne_eq] at hk ⊢; simp only [hk, not_false_eq_true, and_self]))), (rl (Kd.R_mono HO911.out (fun _ hk => by simp only [ne_eq] at hk ⊢; simp only [hk, not_false_eq_true, and_self]))), (rl (Kd.R_mono HO_4.out (fun _ hk => by simp only [ne_eq] at hk ⊢; simp only [hk, not_false_eq_true, and_self]))), (rl (Kd.R_mono HO_878000.out (fun _ hk => by simp only [ne_eq] at hk ⊢; simp only [hk, not_false_eq_true, and_self]))), (rl (Kd.R_mono HO_878001.out (fun _ hk => by simp only [ne_eq] at hk ⊢; simp only [hk, not_false_eq_true, and_self]))), (rl (Kd.R_mono HO_878002.out (fun _ hk => by simp only [ne_eq] at hk ⊢; simp only [hk, not_false_eq_true, and_self]))), (kl BK877.out), (kl BK901.out), (kl BK913.out), GW913.out, GE913.out, NB877_913.out, NB913_877.out, NB901_913.out, NB913_901.out, (bs3 GE877.out GE901.out GE913.out HB.out)⟩)
          ·skip
           refine box_step ?hg (N := 7) ?hd (cs := #[.slice none 0 0, .slice none 0 0, .slice none 0 0]) (t := 25) ?hr ?_; (case hd => rfl); (case hg => rfl); (case hr => first | (go_simp; done) | (go_simp; rfl))
           intro gb913 hg w54 hbox hb
           have HS3_ := (hb.cell (World.block_lt_of_cell? _ _ (hHeld.2.2.2))).trans (hHeld.2.2.2)
           replace HO_4 := am (Kd.R_below (rl HO_4.out) hb)
           replace HO_878000 := am (Kd.R_below (rl HO_878000.out) hb)
           replace HO_878001 := am (Kd.R_below (rl HO_878001.out) hb)
           replace HO_878002 := am (Kd.R_below (rl HO_878002.out) hb)
           replace HO893 := am (Kd.R_below (rl HO893.out) hb)
           replace HO896 := am (Kd.R_below (rl HO896.out) hb)
           replace HO899 := am (Kd.R_below (rl HO899.out) hb)
           have BK913 := am (hbox)
           have GW913 := am ((by rw [hg]; exact (below_size (bs2 GE877.out GE901.out HB.out)) : w.heap.size ≤ gb913))
           have GE913 := am ((by rw [hg]; exact (below_size (bs2 GE877.out GE901.out HB.out)) : w.heap.size ≤ gb913))
           replace HB := am (below_step (bs2 GE877.out GE901.out HB.out) hb)
           have NB877_913 := am ((by rw [hg]; exact Nat.ne_of_lt (blk_lt (g := gb877) (o := .cells #[.slice Ao8 t868.length co8, .slice Ao10 t871.length co10, .slice Ao11 t874.length co11] 25 (0, 0)) (kl BK877.out)) : gb877 ≠ gb913))
           have NB913_877 := am ((by rw [hg]; exact Nat.ne_of_gt (blk_lt (g := gb877) (o := .cells #[.slice Ao8 t868.length co8, .slice Ao10 t871.length co10, .slice Ao11 t874.length co11] 25 (0, 0)) (kl BK877.out)) : gb913 ≠ gb877))
           replace BK877 := am (blk_below (g := gb877) (o := .cells #[.slice Ao8 t868.length co8, .slice Ao10 t871.length co10, .slice Ao11 t874.length co11] 25 (0, 0)) (kl BK877.out) hb)
           have NB901_913 := am ((by rw [hg]; exact Nat.ne_of_lt (blk_lt (g := gb901) (o := .cells #[.slice Ao46 t891.length co46, .slice Ao48 t894.length co48, .slice Ao50 t897.length co50] 25 (0, 0)) (kl BK901.out)) : gb901 ≠ gb913))
           have NB913_901 := am ((by rw [hg]; exact Nat.ne_of_gt (blk_lt (g := gb901) (o := .cells #[.slice Ao46 t891.length co46, .slice Ao48 t894.length co48, .slice Ao50 t897.length co50] 25 (0, 0)) (kl BK901.out)) : gb913 ≠ gb901))
           replace BK901 := am (blk_below (g := gb901) (o := .cells #[.slice Ao46 t891.length co46, .slice Ao48 t894.length co48, .slice Ao50 t897.length co50] 25 (0, 0)) (kl BK901.out) hb)
           clear hb hbox hg
           refine hK.out _ _ ⟨(blk_cell BK901.out 0).trans rfl, (blk_cell BK901.out 1).trans rfl, (blk_cell BK901.out 2).trans rfl, HS3_⟩ (fun hHeld => ?_)
           clear hK K
           refine norm_ (a' := ?_) ?_ ?_
           rotate_left
           ·show Act.put _ (some 7) _ = _
            simp only [Act.put, List.setIfInBounds_toArray, List.set_cons_zero, List.set_cons_succ, i64_w, i32_w]
            rfl
           refine one_ (i := 4) (N := some 46) #[true, true, true, true, true, false, false, false, true, false, false] rfl rfl (one_of HT_.out (by kernel_rfl)) (by decide) (fun K hK => ?_)
           refine goes_ Try.func32 (by kernel_rfl) rfl #[.agg #[.slice Ao46 t891.length co46, .slice Ao48 t894.length co48, .slice Ao50 t897.length co50], .int .i64 (rd t878 0), .int .i64 0] (by rfl) rfl rfl (by (try simp only [List.map_toArray, List.map_cons, List.map_nil]); first | done | rfl | (simp only [List.length_drop, List.length_take]; rfl)) ?_
           with_reducible refine (impl_PutRight.calls kj4 _ _ t891 _ _ t894 _ _ t897 (rd t878 0) 0 t903 t906 t909 true _ ?side1 ?side2 ?side3 ?side4 ?side5 ?side6 A33.out).mono ?_
           (case side1 => exact cl ((Kd.R_reads' HO893.out).2.2))
           (case side2 => exact (Kd.R_reads' HO893.out).2.1)
           (case side3 => exact cl ((Kd.R_reads' HO896.out).2.2))
           (case side4 => exact (Kd.R_reads' HO896.out).2.1)
           (case side5 => exact cl ((Kd.R_reads' HO899.out).2.2))
           (case side6 => exact (Kd.R_reads' HO899.out).2.1)
           rintro e w55 ⟨v904, v907, v910, rfl, ho0, ho1, ho2, hb⟩
           have HS3_ := (hb.cell (World.block_lt_of_cell? _ _ (hHeld.2.2.2))).trans (hHeld.2.2.2)
           refine ⟨_, rfl, ?_⟩
           have HO905 := am (Kd.R_lower (Kd.R_new' (Kd.R_new' (Kd.R_new' (Kd.R_new' (Kd.R_new' (Kd.R_new' (Kd.R_new' ho0 (Kd.R_lt (rl HO_4.out))) (Kd.R_lt (rl HO_878000.out))) (Kd.R_lt (rl HO_878001.out))) (Kd.R_lt (rl HO_878002.out))) (Kd.R_lt (rl HO893.out))) (Kd.R_lt (rl HO896.out))) (Kd.R_lt (rl HO899.out))) (below_size (bs3 GE877.out GE901.out GE913.out HB.out)))
           have HO908 := am (Kd.R_lower (Kd.R_new' (Kd.R_new' (Kd.R_new' (Kd.R_new' (Kd.R_new' (Kd.R_new' (Kd.R_new' ho1 (Kd.R_lt (rl HO_4.out))) (Kd.R_lt (rl HO_878000.out))) (Kd.R_lt (rl HO_878001.out))) (Kd.R_lt (rl HO_878002.out))) (Kd.R_lt (rl HO893.out))) (Kd.R_lt (rl HO896.out))) (Kd.R_lt (rl HO899.out))) (below_size (bs3 GE877.out GE901.out GE913.out HB.out)))
           have HO911 := am (Kd.R_lower (Kd.R_new' (Kd.R_new' (Kd.R_new' (Kd.R_new' (Kd.R_new' (Kd.R_new' (Kd.R_new' ho2 (Kd.R_lt (rl HO_4.out))) (Kd.R_lt (rl HO_878000.out))) (Kd.R_lt (rl HO_878001.out))) (Kd.R_lt (rl HO_878002.out))) (Kd.R_lt (rl HO893.out))) (Kd.R_lt (rl HO896.out))) (Kd.R_lt (rl HO899.out))) (below_size (bs3 GE877.out GE901.out GE913.out HB.out)))
           replace HO_4 := am (Kd.R_mono (Kd.R_told (Kd.R_told (Kd.R_told (Kd.R_old (rl HO_4.out) hb) (Kd.R_base ho0)) (Kd.R_base ho1)) (Kd.R_base ho2)) (fun _ h_ => h_.1))
           replace HO_878000 := am (Kd.R_mono (Kd.R_told (Kd.R_told (Kd.R_told (Kd.R_old (rl HO_878000.out) hb) (Kd.R_base ho0)) (Kd.R_base ho1)) (Kd.R_base ho2)) (fun _ h_ => h_.1))
           replace HO_878001 := am (Kd.R_mono (Kd.R_told (Kd.R_told (Kd.R_told (Kd.R_old (rl HO_878001.out) hb) (Kd.R_base ho0)) (Kd.R_base ho1)) (Kd.R_base ho2)) (fun _ h_ => h_.1))
           replace HO_878002 := am (Kd.R_mono (Kd.R_told (Kd.R_told (Kd.R_told (Kd.R_old (rl HO_878002.out) hb) (Kd.R_base ho0)) (Kd.R_base ho1)) (Kd.R_base ho2)) (fun _ h_ => h_.1))
           replace HO893 := am (Kd.R_mono (Kd.R_told (Kd.R_told (Kd.R_told (Kd.R_old (rl HO893.out) hb) (Kd.R_base ho0)) (Kd.R_base ho1)) (Kd.R_base ho2)) (fun _ h_ => h_.1))
           replace HO896 := am (Kd.R_mono (Kd.R_told (Kd.R_told (Kd.R_told (Kd.R_old (rl HO896.out) hb) (Kd.R_base ho0)) (Kd.R_base ho1)) (Kd.R_base ho2)) (fun _ h_ => h_.1))
           replace HO899 := am (Kd.R_mono (Kd.R_told (Kd.R_told (Kd.R_told (Kd.R_old (rl HO899.out) hb) (Kd.R_base ho0)) (Kd.R_base ho1)) (Kd.R_base ho2)) (fun _ h_ => h_.1))
           replace BK877 := am (blk_below (g := gb877) (o := .cells #[.slice Ao8 t868.length co8, .slice Ao10 t871.length co10, .slice Ao11 t874.length co11] 25 (0, 0)) (kl BK877.out) hb)
           replace BK901 := am (blk_below (g := gb901) (o := .cells #[.slice Ao46 t891.length co46, .slice Ao48 t894.length co48, .slice Ao50 t897.length co50] 25 (0, 0)) (kl BK901.out) hb)
           replace BK913 := am (blk_below (g := gb913) (o := .cells #[.slice none 0 0, .slice none 0 0, .slice none 0 0] 25 (0, 0)) (kl BK913.out) hb)
           replace HB := am (below_step (bs3 GE877.out GE901.out GE913.out HB.out) hb)
           (try clear hb)
           (try clear hb2)
           (try clear hk)
           (try clear hi)
           (try clear ho0)
           (try clear ho1)
           (try clear ho2)
           refine hK.out _ _ ⟨(blk_cell BK901.out 0).trans rfl, (blk_cell BK901.out 1).trans rfl, (blk_cell BK901.out 2).trans rfl, HS3_⟩ (fun hHeld => ?_)
           clear hK K
           refine norm_ (a' := ?_) ?_ ?_
           rotate_left
           ·show Act.put _ (some 46) _ = _
            simp only [Act.put, List.setIfInBounds_toArray, List.set_cons_zero, List.set_cons_succ, i64_w, i32_w]
            rfl
           refine pure_ (i := 5) (N := some 41) (v := ?_) (a' := ?_) #[true, true, true, true, true, true, false, false, true, false, false] rfl rfl (any_of HT_.out (by kernel_rfl)) (fun _ _ _ h => h) (Or.inl ⟨by rfl, ?_⟩) ?_ ?_
           rotate_left
           ·intro w'
            go_simp
            with_reducible rfl
           rotate_left
           ·simp only [Act.put, List.setIfInBounds_toArray, List.set_cons_zero, List.set_cons_succ, i64_w, i32_w]
            rfl
           refine pure_ (i := 6) (N := some 47) (v := ?_) (a' := ?_) #[true, true, true, true, true, true, true, false, true, false, false] rfl rfl (any_of HT_.out (by kernel_rfl)) (fun _ _ _ h => h) (Or.inl ⟨by rfl, ?_⟩) ?_ ?_
           rotate_left
           ·intro w'
            go_simp
            with_reducible rfl
           rotate_left
           ·simp only [Act.put, List.setIfInBounds_toArray, List.set_cons_zero, List.set_cons_succ, i64_w, i32_w]
            rfl
           refine pure_ (i := 7) (N := some 48) (v := ?_) (a' := ?_) #[true, true, true, true, true, true, true, true, true, false, false] rfl rfl (any_of HT_.out (by kernel_rfl)) (fun _ _ _ h => h) (Or.inl ⟨by rfl, ?_⟩) ?_ ?_
           rotate_left
           ·intro w'
            go_simp
            with_reducible rfl
           rotate_left
           ·simp only [Act.put, List.setIfInBounds_toArray, List.set_cons_zero, List.set_cons_succ, i64_w, i32_w]
            rfl
           exact norm_ (by simp only [putAll, Act.put, List.setIfInBounds_toArray, List.set_cons_zero, List.set_cons_succ]) (hCont (v904, v907, v910, gb913) _ ⟨hHeld, (rl (Kd.R_mono HO893.out (fun _ hk => by simp only [ne_eq] at hk ⊢; simp only [hk, not_false_eq_true, and_self]))), (rl (Kd.R_mono HO896.out (fun _ hk => by simp only [ne_eq] at hk ⊢; simp only [hk, not_false_eq_true, and_self]))), (rl (Kd.R_mono HO899.out (fun _ hk => by simp only [ne_eq] at hk ⊢; simp only [hk, not_false_eq_true, and_self]))), (rl (Kd.R_mono HO905.out (fun _ hk => by simp only [ne_eq] at hk ⊢; simp only [hk, not_false_eq_true, and_self]))), (rl (Kd.R_mono HO908.out (fun _ hk => by simp only [ne_eq] at hk ⊢; simp only [hk, not_false_eq_true, and_self]))), (rl (Kd.R_mono HO911.out (fun _ hk => by simp only [ne_eq] at hk ⊢; simp only [hk, not_false_eq_true, and_self]))), (rl (Kd.R_mono HO_4.out (fun _ hk => by simp only [ne_eq] at hk ⊢; simp only [hk, not_false_eq_true, and_self]))), (rl (Kd.R_mono HO_878000.out (fun _ hk => by simp only [ne_eq] at hk ⊢; simp only [hk, not_false_eq_true, and_self]))), (rl (Kd.R_mono HO_878001.out (fun _ hk => by simp only [ne_eq] at hk ⊢; simp only [hk, not_false_eq_true, and_self]))), (rl (Kd.R_mono HO_878002.out (fun _ hk => by simp only [ne_eq] at hk ⊢; simp only [hk, not_false_eq_true, and_self]))), (kl BK877.out), (kl BK901.out), (kl BK913.out), GW913.out, GE913.out, NB877_913.out, NB913_877.out, NB901_913.out, NB913_901.out, (bs3 GE877.out GE901.out GE913.out HB.out)⟩)
         rintro ⟨v904, v907, v910, gb913⟩ w56 ⟨hS_, h0_, h1_, h2_, h3_, h4_, h5_, h6_, h7_, h8_, h9_, h10_, h11_, h12_, h13_, h14_, h15_, h16_, h17_, h18_, h19_⟩
         replace HO893 : Aside0 (Kd.R (Kd.int .i64) 3 w56 w.heap.size (fun k_ => some k_ ≠ (.slice Ao48 t894.length co48 : Value).ownBlock ∧ some k_ ≠ (.slice Ao50 t897.length co50 : Value).ownBlock ∧ some k_ ≠ (v904 : Value).ownBlock ∧ some k_ ≠ (v907 : Value).ownBlock ∧ some k_ ≠ (v910 : Value).ownBlock ∧ some k_ ≠ (.slice (some ad889) t878.length co42 : Value).ownBlock ∧ some k_ ≠ (.slice Ao8 t868.length co8 : Value).ownBlock ∧ some k_ ≠ (.slice Ao10 t871.length co10 : Value).ownBlock ∧ some k_ ≠ (.slice Ao11 t874.length co11 : Value).ownBlock) (.slice Ao46 t891.length co46) t891) := ⟨h0_⟩
         replace HO896 : Aside0 (Kd.R (Kd.int .i64) 3 w56 w.heap.size (fun k_ => some k_ ≠ (.slice Ao46 t891.length co46 : Value).ownBlock ∧ some k_ ≠ (.slice Ao50 t897.length co50 : Value).ownBlock ∧ some k_ ≠ (v904 : Value).ownBlock ∧ some k_ ≠ (v907 : Value).ownBlock ∧ some k_ ≠ (v910 : Value).ownBlock ∧ some k_ ≠ (.slice (some ad889) t878.length co42 : Value).ownBlock ∧ some k_ ≠ (.slice Ao8 t868.length co8 : Value).ownBlock ∧ some k_ ≠ (.slice Ao10 t871.length co10 : Value).ownBlock ∧ some k_ ≠ (.slice Ao11 t874.length co11 : Value).ownBlock) (.slice Ao48 t894.length co48) t894) := ⟨h1_⟩
         replace HO899 : Aside0 (Kd.R (Kd.int .i64) 3 w56 w.heap.size (fun k_ => some k_ ≠ (.slice Ao46 t891.length co46 : Value).ownBlock ∧ some k_ ≠ (.slice Ao48 t894.length co48 : Value).ownBlock ∧ some k_ ≠ (v904 : Value).ownBlock ∧ some k_ ≠ (v907 : Value).ownBlock ∧ some k_ ≠ (v910 : Value).ownBlock ∧ some k_ ≠ (.slice (some ad889) t878.length co42 : Value).ownBlock ∧ some k_ ≠ (.slice Ao8 t868.length co8 : Value).ownBlock ∧ some k_ ≠ (.slice Ao10 t871.length co10 : Value).ownBlock ∧ some k_ ≠ (.slice Ao11 t874.length co11 : Value).ownBlock) (.slice Ao50 t897.length co50) t897) := ⟨h2_⟩
         have HO905 : Aside0 (Kd.R (Kd.int .i64) 3 w56 w.heap.size (fun k_ => some k_ ≠ (.slice Ao46 t891.length co46 : Value).ownBlock ∧ some k_ ≠ (.slice Ao48 t894.length co48 : Value).ownBlock ∧ some k_ ≠ (.slice Ao50 t897.length co50 : Value).ownBlock ∧ some k_ ≠ (v907 : Value).ownBlock ∧ some k_ ≠ (v910 : Value).ownBlock ∧ some k_ ≠ (.slice (some ad889) t878.length co42 : Value).ownBlock ∧ some k_ ≠ (.slice Ao8 t868.length co8 : Value).ownBlock ∧ some k_ ≠ (.slice Ao10 t871.length co10 : Value).ownBlock ∧ some k_ ≠ (.slice Ao11 t874.length co11 : Value).ownBlock) v904 t903) := ⟨h3_⟩
         have HO908 : Aside0 (Kd.R (Kd.int .i64) 3 w56 w.heap.size (fun k_ => some k_ ≠ (.slice Ao46 t891.length co46 : Value).ownBlock ∧ some k_ ≠ (.slice Ao48 t894.length co48 : Value).ownBlock ∧ some k_ ≠ (.slice Ao50 t897.length co50 : Value).ownBlock ∧ some k_ ≠ (v904 : Value).ownBlock ∧ some k_ ≠ (v910 : Value).ownBlock ∧ some k_ ≠ (.slice (some ad889) t878.length co42 : Value).ownBlock ∧ some k_ ≠ (.slice Ao8 t868.length co8 : Value).ownBlock ∧ some k_ ≠ (.slice Ao10 t871.length co10 : Value).ownBlock ∧ some k_ ≠ (.slice Ao11 t874.length co11 : Value).ownBlock) v907 t906) := ⟨h4_⟩
         have HO911 : Aside0 (Kd.R (Kd.int .i64) 3 w56 w.heap.size (fun k_ => some k_ ≠ (.slice Ao46 t891.length co46 : Value).ownBlock ∧ some k_ ≠ (.slice Ao48 t894.length co48 : Value).ownBlock ∧ some k_ ≠ (.slice Ao50 t897.length co50 : Value).ownBlock ∧ some k_ ≠ (v904 : Value).ownBlock ∧ some k_ ≠ (v907 : Value).ownBlock ∧ some k_ ≠ (.slice (some ad889) t878.length co42 : Value).ownBlock ∧ some k_ ≠ (.slice Ao8 t868.length co8 : Value).ownBlock ∧ some k_ ≠ (.slice Ao10 t871.length co10 : Value).ownBlock ∧ some k_ ≠ (.slice Ao11 t874.length co11 : Value).ownBlock) v910 t909) := ⟨h5_⟩
         replace HO_4 : Aside0 (Kd.R (Kd.int .i64) 3 w56 w.heap.size (fun k_ => some k_ ≠ (.slice Ao46 t891.length co46 : Value).ownBlock ∧ some k_ ≠ (.slice Ao48 t894.length co48 : Value).ownBlock ∧ some k_ ≠ (.slice Ao50 t897.length co50 : Value).ownBlock ∧ some k_ ≠ (v904 : Value).ownBlock ∧ some k_ ≠ (v907 : Value).ownBlock ∧ some k_ ≠ (v910 : Value).ownBlock ∧ some k_ ≠ (.slice Ao8 t868.length co8 : Value).ownBlock ∧ some k_ ≠ (.slice Ao10 t871.length co10 : Value).ownBlock ∧ some k_ ≠ (.slice Ao11 t874.length co11 : Value).ownBlock) (.slice (some ad889) t878.length co42) t878) := ⟨h6_⟩
         replace HO_878000 : Aside0 (Kd.R (Kd.int .i64) 3 w56 w.heap.size (fun k_ => some k_ ≠ (.slice Ao46 t891.length co46 : Value).ownBlock ∧ some k_ ≠ (.slice Ao48 t894.length co48 : Value).ownBlock ∧ some k_ ≠ (.slice Ao50 t897.length co50 : Value).ownBlock ∧ some k_ ≠ (v904 : Value).ownBlock ∧ some k_ ≠ (v907 : Value).ownBlock ∧ some k_ ≠ (v910 : Value).ownBlock ∧ some k_ ≠ (.slice (some ad889) t878.length co42 : Value).ownBlock ∧ some k_ ≠ (.slice Ao10 t871.length co10 : Value).ownBlock ∧ some k_ ≠ (.slice Ao11 t874.length co11 : Value).ownBlock) (.slice Ao8 t868.length co8) t868) := ⟨h7_⟩
         replace HO_878001 : Aside0 (Kd.R (Kd.int .i64) 3 w56 w.heap.size (fun k_ => some k_ ≠ (.slice Ao46 t891.length co46 : Value).ownBlock ∧ some k_ ≠ (.slice Ao48 t894.length co48 : Value).ownBlock ∧ some k_ ≠ (.slice Ao50 t897.length co50 : Value).ownBlock ∧ some k_ ≠ (v904 : Value).ownBlock ∧ some k_ ≠ (v907 : Value).ownBlock ∧ some k_ ≠ (v910 : Value).ownBlock ∧ some k_ ≠ (.slice (some ad889) t878.length co42 : Value).ownBlock ∧ some k_ ≠ (.slice Ao8 t868.length co8 : Value).ownBlock ∧ some k_ ≠ (.slice Ao11 t874.length co11 : Value).ownBlock) (.slice Ao10 t871.length co10) t871) := ⟨h8_⟩
         replace HO_878002 : Aside0 (Kd.R (Kd.int .i64) 3 w56 w.heap.size (fun k_ => some k_ ≠ (.slice Ao46 t891.length co46 : Value).ownBlock ∧ some k_ ≠ (.slice Ao48 t894.length co48 : Value).ownBlock ∧ some k_ ≠ (.slice Ao50 t897.length co50 : Value).ownBlock ∧ some k_ ≠ (v904 : Value).ownBlock ∧ some k_ ≠ (v907 : Value).ownBlock ∧ some k_ ≠ (v910 : Value).ownBlock ∧ some k_ ≠ (.slice (some ad889) t878.length co42 : Value).ownBlock ∧ some k_ ≠ (.slice Ao8 t868.length co8 : Value).ownBlock ∧ some k_ ≠ (.slice Ao10 t871.length co10 : Value).ownBlock) (.slice Ao11 t874.length co11) t874) := ⟨h9_⟩
         replace BK877 : Aside0 (w56.heap[gb877]? = some (.cells #[.slice Ao8 t868.length co8, .slice Ao10 t871.length co10, .slice Ao11 t874.length co11] 25 (0, 0))) := ⟨h10_⟩
         replace BK901 : Aside0 (w56.heap[gb901]? = some (.cells #[.slice Ao46 t891.length co46, .slice Ao48 t894.length co48, .slice Ao50 t897.length co50] 25 (0, 0))) := ⟨h11_⟩
         have BK913 : Aside0 (w56.heap[gb913]? = some (.cells #[.slice none 0 0, .slice none 0 0, .slice none 0 0] 25 (0, 0))) := ⟨h12_⟩
         have GW913 : Aside0 (w.heap.size ≤ gb913) := ⟨h13_⟩
         have GE913 : Aside0 (w.heap.size ≤ gb913) := ⟨h14_⟩
         have NB877_913 : Aside0 (gb877 ≠ gb913) := ⟨h15_⟩
         have NB913_877 : Aside0 (gb913 ≠ gb877) := ⟨h16_⟩
         have NB901_913 : Aside0 (gb901 ≠ gb913) := ⟨h17_⟩
         have NB913_901 : Aside0 (gb913 ≠ gb901) := ⟨h18_⟩
         replace HB : Aside0 (Below w.heap.size w w56) := ⟨h19_⟩
         clear h0_ h1_ h2_ h3_ h4_ h5_ h6_ h7_ h8_ h9_ h10_ h11_ h12_ h13_ h14_ h15_ h16_ h17_ h18_ h19_
         have hHeld : w56.cell? ⟨gb901, 0, none⟩ = some (.slice Ao46 t891.length co46) ∧ w56.cell? ⟨gb901, 1, none⟩ = some (.slice Ao48 t894.length co48) ∧ w56.cell? ⟨gb901, 2, none⟩ = some (.slice Ao50 t897.length co50) ∧ w56.cell? ad889 = some (.int .i64 (rd t878 0)) := hS_
         obtain ⟨Ao57, co57, eo57⟩ := Kd.R_slice HO905.out
         (first | subst eo57 | (injection eo57 with f1_ f2_ f3_; have f4_ := f1_.symm; have f5_ := f3_.symm; clear f1_ f2_ f3_; subst f4_; subst f5_))
         obtain ⟨Ao59, co59, eo59⟩ := Kd.R_slice HO908.out
         (first | subst eo59 | (injection eo59 with f1_ f2_ f3_; have f4_ := f1_.symm; have f5_ := f3_.symm; clear f1_ f2_ f3_; subst f4_; subst f5_))
         obtain ⟨Ao61, co61, eo61⟩ := Kd.R_slice HO911.out
         (first | subst eo61 | (injection eo61 with f1_ f2_ f3_; have f4_ := f1_.symm; have f5_ := f3_.symm; clear f1_ f2_ f3_; subst f4_; subst f5_))
         refine norm_ (a' := ?_) ?_ ?_
         rotate_left
         ·simp only [putAll, Act.put, List.setIfInBounds_toArray, List.set_cons_zero, List.set_cons_succ]
          rfl
         refine one_ (i := 9) (N := none) #[true, true, true, true, true, true, true, true, true, true, false] rfl rfl (one_of HT_.out (by kernel_rfl)) (by decide) (fun K hK => ?_)
         have hs58 : w56.cell? ⟨gb913, 0, none⟩ = some (.slice none 0 0) := (blk_cell BK913.out 0).trans rfl
         have hfs58 := blk_frozen BK913.out 0
         have hns58_0 := NB877_913.out
         have hns58_1 := NB901_913.out
         have hms58_0 := NB913_877.out
         have hms58_1 := NB913_901.out
         have hs60 : w56.cell? ⟨gb913, 1, none⟩ = some (.slice none 0 0) := (blk_cell BK913.out 1).trans rfl
         have hfs60 := blk_frozen BK913.out 1
         have hns60_0 := NB877_913.out
         have hns60_1 := NB901_913.out
         have hms60_0 := NB913_877.out
         have hms60_1 := NB913_901.out
         have hs62 : w56.cell? ⟨gb913, 2, none⟩ = some (.slice none 0 0) := (blk_cell BK913.out 2).trans rfl
         have hfs62 := blk_frozen BK913.out 2
         have hns62_0 := NB877_913.out
         have hns62_1 := NB901_913.out
         have hms62_0 := NB913_877.out
         have hms62_1 := NB913_901.out
         refine skip_ (w1 := ?_) (by rfl) rfl ?_ ?_
         rotate_left
         ·go_simp
          rfl
         refine hK.out _ _ ⟨((cell_far (p := ⟨gb913, _, none⟩) NB901_913.out _).trans (((cell_far (p := ⟨gb913, _, none⟩) NB901_913.out _).trans (((cell_far (p := ⟨gb913, _, none⟩) NB901_913.out _).trans (hHeld.1)))))), ((cell_far (p := ⟨gb913, _, none⟩) NB901_913.out _).trans (((cell_far (p := ⟨gb913, _, none⟩) NB901_913.out _).trans (((cell_far (p := ⟨gb913, _, none⟩) NB901_913.out _).trans (hHeld.2.1)))))), ((cell_far (p := ⟨gb913, _, none⟩) NB901_913.out _).trans (((cell_far (p := ⟨gb913, _, none⟩) NB901_913.out _).trans (((cell_far (p := ⟨gb913, _, none⟩) NB901_913.out _).trans (hHeld.2.2.1)))))), ((cell_far (p := ⟨gb913, _, none⟩) (by first | exact Kd.own_blk (Kd.R_ne HO_4.out BK913.out (by decide)) | (rw [add_block]; exact Kd.own_blk (Kd.R_ne HO_4.out BK913.out (by decide))) | (show (Addr.add _ _).block ≠ _; rw [add_block]; exact Kd.own_blk (Kd.R_ne HO_4.out BK913.out (by decide))) | (dsimp only; exact Kd.own_blk (Kd.R_ne HO_4.out BK913.out (by decide)))) _).trans (((cell_far (p := ⟨gb913, _, none⟩) (by first | exact Kd.own_blk (Kd.R_ne HO_4.out BK913.out (by decide)) | (rw [add_block]; exact Kd.own_blk (Kd.R_ne HO_4.out BK913.out (by decide))) | (show (Addr.add _ _).block ≠ _; rw [add_block]; exact Kd.own_blk (Kd.R_ne HO_4.out BK913.out (by decide))) | (dsimp only; exact Kd.own_blk (Kd.R_ne HO_4.out BK913.out (by decide)))) _).trans (((cell_far (p := ⟨gb913, _, none⟩) (by first | exact Kd.own_blk (Kd.R_ne HO_4.out BK913.out (by decide)) | (rw [add_block]; exact Kd.own_blk (Kd.R_ne HO_4.out BK913.out (by decide))) | (show (Addr.add _ _).block ≠ _; rw [add_block]; exact Kd.own_blk (Kd.R_ne HO_4.out BK913.out (by decide))) | (dsimp only; exact Kd.own_blk (Kd.R_ne HO_4.out BK913.out (by decide)))) _).trans (hHeld.2.2.2))))))⟩ (fun hHeld => ?_)
         clear hK K
         refine pure_ (i := 10) (N := some 8) (v := ?_) (a' := ?_) #[true, true, true, true, true, true, true, true, true, true, true] rfl rfl (any_of HT_.out (by kernel_rfl)) (fun _ _ _ h => h) (Or.inl ⟨by rfl, ?_⟩) ?_ ?_
         rotate_left
         ·intro w'
          go_simp
          with_reducible rfl
         rotate_left
         ·simp only [Act.put, List.setIfInBounds_toArray, List.set_cons_zero, List.set_cons_succ, i64_w, i32_w]
          rfl
         refine done_ (done_of HT_.out (by kernel_rfl)) ?_
         try go_wp2
         have n0_ : Aside0 (Kd.R (Kd.int .i64) 3 (((w56.setCell ⟨gb913, 0, none⟩ (.slice Ao57 t903.length co57)).setCell ⟨gb913, 1, none⟩ (.slice Ao59 t906.length co59)).setCell ⟨gb913, 2, none⟩ (.slice Ao61 t909.length co61)) w.heap.size (fun k_ => some k_ ≠ (.slice Ao8 t868.length co8 : Value).ownBlock ∧ some k_ ≠ (.slice Ao10 t871.length co10 : Value).ownBlock ∧ some k_ ≠ (.slice Ao11 t874.length co11 : Value).ownBlock ∧ some k_ ≠ (.slice Ao46 t891.length co46 : Value).ownBlock ∧ some k_ ≠ (.slice Ao48 t894.length co48 : Value).ownBlock ∧ some k_ ≠ (.slice Ao50 t897.length co50 : Value).ownBlock ∧ some k_ ≠ (.slice Ao57 t903.length co57 : Value).ownBlock ∧ some k_ ≠ (.slice Ao59 t906.length co59 : Value).ownBlock ∧ some k_ ≠ (.slice Ao61 t909.length co61 : Value).ownBlock) (.slice (some ad889) t878.length co42) t878) := ⟨rl (Kd.R_mono (Kd.R_far (p := ⟨gb913, 2, none⟩) (Kd.R_far (p := ⟨gb913, 1, none⟩) (Kd.R_far (p := ⟨gb913, 0, none⟩) (Kd.R_types HO_4.out BK913.out (by decide)) (fun _ hk => hk.2) (.slice Ao57 t903.length co57)) (fun _ hk => hk.2) (.slice Ao59 t906.length co59)) (fun _ hk => hk.2) (.slice Ao61 t909.length co61)) (fun _ hk => by simp only [ne_eq] at hk ⊢; simp only [hk, not_false_eq_true, and_self]))⟩
         have n1_ : Aside0 (Kd.R (Kd.int .i64) 3 (((w56.setCell ⟨gb913, 0, none⟩ (.slice Ao57 t903.length co57)).setCell ⟨gb913, 1, none⟩ (.slice Ao59 t906.length co59)).setCell ⟨gb913, 2, none⟩ (.slice Ao61 t909.length co61)) w.heap.size (fun k_ => some k_ ≠ (.slice (some ad889) t878.length co42 : Value).ownBlock ∧ some k_ ≠ (.slice Ao10 t871.length co10 : Value).ownBlock ∧ some k_ ≠ (.slice Ao11 t874.length co11 : Value).ownBlock ∧ some k_ ≠ (.slice Ao46 t891.length co46 : Value).ownBlock ∧ some k_ ≠ (.slice Ao48 t894.length co48 : Value).ownBlock ∧ some k_ ≠ (.slice Ao50 t897.length co50 : Value).ownBlock ∧ some k_ ≠ (.slice Ao57 t903.length co57 : Value).ownBlock ∧ some k_ ≠ (.slice Ao59 t906.length co59 : Value).ownBlock ∧ some k_ ≠ (.slice Ao61 t909.length co61 : Value).ownBlock) (.slice Ao8 t868.length co8) t868) := ⟨rl (Kd.R_mono (Kd.R_far (p := ⟨gb913, 2, none⟩) (Kd.R_far (p := ⟨gb913, 1, none⟩) (Kd.R_far (p := ⟨gb913, 0, none⟩) (Kd.R_types HO_878000.out BK913.out (by decide)) (fun _ hk => hk.2) (.slice Ao57 t903.length co57)) (fun _ hk => hk.2) (.slice Ao59 t906.length co59)) (fun _ hk => hk.2) (.slice Ao61 t909.length co61)) (fun _ hk => by simp only [ne_eq] at hk ⊢; simp only [hk, not_false_eq_true, and_self]))⟩
         have n2_ : Aside0 (Kd.R (Kd.int .i64) 3 (((w56.setCell ⟨gb913, 0, none⟩ (.slice Ao57 t903.length co57)).setCell ⟨gb913, 1, none⟩ (.slice Ao59 t906.length co59)).setCell ⟨gb913, 2, none⟩ (.slice Ao61 t909.length co61)) w.heap.size (fun k_ => some k_ ≠ (.slice (some ad889) t878.length co42 : Value).ownBlock ∧ some k_ ≠ (.slice Ao8 t868.length co8 : Value).ownBlock ∧ some k_ ≠ (.slice Ao11 t874.length co11 : Value).ownBlock ∧ some k_ ≠ (.slice Ao46 t891.length co46 : Value).ownBlock ∧ some k_ ≠ (.slice Ao48 t894.length co48 : Value).ownBlock ∧ some k_ ≠ (.slice Ao50 t897.length co50 : Value).ownBlock ∧ some k_ ≠ (.slice Ao57 t903.length co57 : Value).ownBlock ∧ some k_ ≠ (.slice Ao59 t906.length co59 : Value).ownBlock ∧ some k_ ≠ (.slice Ao61 t909.length co61 : Value).ownBlock) (.slice Ao10 t871.length co10) t871) := ⟨rl (Kd.R_mono (Kd.R_far (p := ⟨gb913, 2, none⟩) (Kd.R_far (p := ⟨gb913, 1, none⟩) (Kd.R_far (p := ⟨gb913, 0, none⟩) (Kd.R_types HO_878001.out BK913.out (by decide)) (fun _ hk => hk.2) (.slice Ao57 t903.length co57)) (fun _ hk => hk.2) (.slice Ao59 t906.length co59)) (fun _ hk => hk.2) (.slice Ao61 t909.length co61)) (fun _ hk => by simp only [ne_eq] at hk ⊢; simp only [hk, not_false_eq_true, and_self]))⟩
         have n3_ : Aside0 (Kd.R (Kd.int .i64) 3 (((w56.setCell ⟨gb913, 0, none⟩ (.slice Ao57 t903.length co57)).setCell ⟨gb913, 1, none⟩ (.slice Ao59 t906.length co59)).setCell ⟨gb913, 2, none⟩ (.slice Ao61 t909.length co61)) w.heap.size (fun k_ => some k_ ≠ (.slice (some ad889) t878.length co42 : Value).ownBlock ∧ some k_ ≠ (.slice Ao8 t868.length co8 : Value).ownBlock ∧ some k_ ≠ (.slice Ao10 t871.length co10 : Value).ownBlock ∧ some k_ ≠ (.slice Ao46 t891.length co46 : Value).ownBlock ∧ some k_ ≠ (.slice Ao48 t894.length co48 : Value).ownBlock ∧ some k_ ≠ (.slice Ao50 t897.length co50 : Value).ownBlock ∧ some k_ ≠ (.slice Ao57 t903.length co57 : Value).ownBlock ∧ some k_ ≠ (.slice Ao59 t906.length co59 : Value).ownBlock ∧ some k_ ≠ (.slice Ao61 t909.length co61 : Value).ownBlock) (.slice Ao11 t874.length co11) t874) := ⟨rl (Kd.R_mono (Kd.R_far (p := ⟨gb913, 2, none⟩) (Kd.R_far (p := ⟨gb913, 1, none⟩) (Kd.R_far (p := ⟨gb913, 0, none⟩) (Kd.R_types HO_878002.out BK913.out (by decide)) (fun _ hk => hk.2) (.slice Ao57 t903.length co57)) (fun _ hk => hk.2) (.slice Ao59 t906.length co59)) (fun _ hk => hk.2) (.slice Ao61 t909.length co61)) (fun _ hk => by simp only [ne_eq] at hk ⊢; simp only [hk, not_false_eq_true, and_self]))⟩
         have n4_ : Aside0 (Kd.R (Kd.int .i64) 3 (((w56.setCell ⟨gb913, 0, none⟩ (.slice Ao57 t903.length co57)).setCell ⟨gb913, 1, none⟩ (.slice Ao59 t906.length co59)).setCell ⟨gb913, 2, none⟩ (.slice Ao61 t909.length co61)) w.heap.size (fun k_ => some k_ ≠ (.slice (some ad889) t878.length co42 : Value).ownBlock ∧ some k_ ≠ (.slice Ao8 t868.length co8 : Value).ownBlock ∧ some k_ ≠ (.slice Ao10 t871.length co10 : Value).ownBlock ∧ some k_ ≠ (.slice Ao11 t874.length co11 : Value).ownBlock ∧ some k_ ≠ (.slice Ao48 t894.length co48 : Value).ownBlock ∧ some k_ ≠ (.slice Ao50 t897.length co50 : Value).ownBlock ∧ some k_ ≠ (.slice Ao57 t903.length co57 : Value).ownBlock ∧ some k_ ≠ (.slice Ao59 t906.length co59 : Value).ownBlock ∧ some k_ ≠ (.slice Ao61 t909.length co61 : Value).ownBlock) (.slice Ao46 t891.length co46) t891) := ⟨rl (Kd.R_mono (Kd.R_far (p := ⟨gb913, 2, none⟩) (Kd.R_far (p := ⟨gb913, 1, none⟩) (Kd.R_far (p := ⟨gb913, 0, none⟩) (Kd.R_types HO893.out BK913.out (by decide)) (fun _ hk => hk.2) (.slice Ao57 t903.length co57)) (fun _ hk => hk.2) (.slice Ao59 t906.length co59)) (fun _ hk => hk.2) (.slice Ao61 t909.length co61)) (fun _ hk => by simp only [ne_eq] at hk ⊢; simp only [hk, not_false_eq_true, and_self]))⟩
         have n5_ : Aside0 (Kd.R (Kd.int .i64) 3 (((w56.setCell ⟨gb913, 0, none⟩ (.slice Ao57 t903.length co57)).setCell ⟨gb913, 1, none⟩ (.slice Ao59 t906.length co59)).setCell ⟨gb913, 2, none⟩ (.slice Ao61 t909.length co61)) w.heap.size (fun k_ => some k_ ≠ (.slice (some ad889) t878.length co42 : Value).ownBlock ∧ some k_ ≠ (.slice Ao8 t868.length co8 : Value).ownBlock ∧ some k_ ≠ (.slice Ao10 t871.length co10 : Value).ownBlock ∧ some k_ ≠ (.slice Ao11 t874.length co11 : Value).ownBlock ∧ some k_ ≠ (.slice Ao46 t891.length co46 : Value).ownBlock ∧ some k_ ≠ (.slice Ao50 t897.length co50 : Value).ownBlock ∧ some k_ ≠ (.slice Ao57 t903.length co57 : Value).ownBlock ∧ some k_ ≠ (.slice Ao59 t906.length co59 : Value).ownBlock ∧ some k_ ≠ (.slice Ao61 t909.length co61 : Value).ownBlock) (.slice Ao48 t894.length co48) t894) := ⟨rl (Kd.R_mono (Kd.R_far (p := ⟨gb913, 2, none⟩) (Kd.R_far (p := ⟨gb913, 1, none⟩) (Kd.R_far (p := ⟨gb913, 0, none⟩) (Kd.R_types HO896.out BK913.out (by decide)) (fun _ hk => hk.2) (.slice Ao57 t903.length co57)) (fun _ hk => hk.2) (.slice Ao59 t906.length co59)) (fun _ hk => hk.2) (.slice Ao61 t909.length co61)) (fun _ hk => by simp only [ne_eq] at hk ⊢; simp only [hk, not_false_eq_true, and_self]))⟩
         have n6_ : Aside0 (Kd.R (Kd.int .i64) 3 (((w56.setCell ⟨gb913, 0, none⟩ (.slice Ao57 t903.length co57)).setCell ⟨gb913, 1, none⟩ (.slice Ao59 t906.length co59)).setCell ⟨gb913, 2, none⟩ (.slice Ao61 t909.length co61)) w.heap.size (fun k_ => some k_ ≠ (.slice (some ad889) t878.length co42 : Value).ownBlock ∧ some k_ ≠ (.slice Ao8 t868.length co8 : Value).ownBlock ∧ some k_ ≠ (.slice Ao10 t871.length co10 : Value).ownBlock ∧ some k_ ≠ (.slice Ao11 t874.length co11 : Value).ownBlock ∧ some k_ ≠ (.slice Ao46 t891.length co46 : Value).ownBlock ∧ some k_ ≠ (.slice Ao48 t894.length co48 : Value).ownBlock ∧ some k_ ≠ (.slice Ao57 t903.length co57 : Value).ownBlock ∧ some k_ ≠ (.slice Ao59 t906.length co59 : Value).ownBlock ∧ some k_ ≠ (.slice Ao61 t909.length co61 : Value).ownBlock) (.slice Ao50 t897.length co50) t897) := ⟨rl (Kd.R_mono (Kd.R_far (p := ⟨gb913, 2, none⟩) (Kd.R_far (p := ⟨gb913, 1, none⟩) (Kd.R_far (p := ⟨gb913, 0, none⟩) (Kd.R_types HO899.out BK913.out (by decide)) (fun _ hk => hk.2) (.slice Ao57 t903.length co57)) (fun _ hk => hk.2) (.slice Ao59 t906.length co59)) (fun _ hk => hk.2) (.slice Ao61 t909.length co61)) (fun _ hk => by simp only [ne_eq] at hk ⊢; simp only [hk, not_false_eq_true, and_self]))⟩
         have n7_ : Aside0 (Kd.R (Kd.int .i64) 3 (((w56.setCell ⟨gb913, 0, none⟩ (.slice Ao57 t903.length co57)).setCell ⟨gb913, 1, none⟩ (.slice Ao59 t906.length co59)).setCell ⟨gb913, 2, none⟩ (.slice Ao61 t909.length co61)) w.heap.size (fun k_ => some k_ ≠ (.slice (some ad889) t878.length co42 : Value).ownBlock ∧ some k_ ≠ (.slice Ao8 t868.length co8 : Value).ownBlock ∧ some k_ ≠ (.slice Ao10 t871.length co10 : Value).ownBlock ∧ some k_ ≠ (.slice Ao11 t874.length co11 : Value).ownBlock ∧ some k_ ≠ (.slice Ao46 t891.length co46 : Value).ownBlock ∧ some k_ ≠ (.slice Ao48 t894.length co48 : Value).ownBlock ∧ some k_ ≠ (.slice Ao50 t897.length co50 : Value).ownBlock ∧ some k_ ≠ (.slice Ao59 t906.length co59 : Value).ownBlock ∧ some k_ ≠ (.slice Ao61 t909.length co61 : Value).ownBlock) (.slice Ao57 t903.length co57) t903) := ⟨rl (Kd.R_mono (Kd.R_far (p := ⟨gb913, 2, none⟩) (Kd.R_far (p := ⟨gb913, 1, none⟩) (Kd.R_far (p := ⟨gb913, 0, none⟩) (Kd.R_types HO905.out BK913.out (by decide)) (fun _ hk => hk.2) (.slice Ao57 t903.length co57)) (fun _ hk => hk.2) (.slice Ao59 t906.length co59)) (fun _ hk => hk.2) (.slice Ao61 t909.length co61)) (fun _ hk => by simp only [ne_eq] at hk ⊢; simp only [hk, not_false_eq_true, and_self]))⟩
         have n8_ : Aside0 (Kd.R (Kd.int .i64) 3 (((w56.setCell ⟨gb913, 0, none⟩ (.slice Ao57 t903.length co57)).setCell ⟨gb913, 1, none⟩ (.slice Ao59 t906.length co59)).setCell ⟨gb913, 2, none⟩ (.slice Ao61 t909.length co61)) w.heap.size (fun k_ => some k_ ≠ (.slice (some ad889) t878.length co42 : Value).ownBlock ∧ some k_ ≠ (.slice Ao8 t868.length co8 : Value).ownBlock ∧ some k_ ≠ (.slice Ao10 t871.length co10 : Value).ownBlock ∧ some k_ ≠ (.slice Ao11 t874.length co11 : Value).ownBlock ∧ some k_ ≠ (.slice Ao46 t891.length co46 : Value).ownBlock ∧ some k_ ≠ (.slice Ao48 t894.length co48 : Value).ownBlock ∧ some k_ ≠ (.slice Ao50 t897.length co50 : Value).ownBlock ∧ some k_ ≠ (.slice Ao57 t903.length co57 : Value).ownBlock ∧ some k_ ≠ (.slice Ao61 t909.length co61 : Value).ownBlock) (.slice Ao59 t906.length co59) t906) := ⟨rl (Kd.R_mono (Kd.R_far (p := ⟨gb913, 2, none⟩) (Kd.R_far (p := ⟨gb913, 1, none⟩) (Kd.R_far (p := ⟨gb913, 0, none⟩) (Kd.R_types HO908.out BK913.out (by decide)) (fun _ hk => hk.2) (.slice Ao57 t903.length co57)) (fun _ hk => hk.2) (.slice Ao59 t906.length co59)) (fun _ hk => hk.2) (.slice Ao61 t909.length co61)) (fun _ hk => by simp only [ne_eq] at hk ⊢; simp only [hk, not_false_eq_true, and_self]))⟩
         have n9_ : Aside0 (Kd.R (Kd.int .i64) 3 (((w56.setCell ⟨gb913, 0, none⟩ (.slice Ao57 t903.length co57)).setCell ⟨gb913, 1, none⟩ (.slice Ao59 t906.length co59)).setCell ⟨gb913, 2, none⟩ (.slice Ao61 t909.length co61)) w.heap.size (fun k_ => some k_ ≠ (.slice (some ad889) t878.length co42 : Value).ownBlock ∧ some k_ ≠ (.slice Ao8 t868.length co8 : Value).ownBlock ∧ some k_ ≠ (.slice Ao10 t871.length co10 : Value).ownBlock ∧ some k_ ≠ (.slice Ao11 t874.length co11 : Value).ownBlock ∧ some k_ ≠ (.slice Ao46 t891.length co46 : Value).ownBlock ∧ some k_ ≠ (.slice Ao48 t894.length co48 : Value).ownBlock ∧ some k_ ≠ (.slice Ao50 t897.length co50 : Value).ownBlock ∧ some k_ ≠ (.slice Ao57 t903.length co57 : Value).ownBlock ∧ some k_ ≠ (.slice Ao59 t906.length co59 : Value).ownBlock) (.slice Ao61 t909.length co61) t909) := ⟨rl (Kd.R_mono (Kd.R_far (p := ⟨gb913, 2, none⟩) (Kd.R_far (p := ⟨gb913, 1, none⟩) (Kd.R_far (p := ⟨gb913, 0, none⟩) (Kd.R_types HO911.out BK913.out (by decide)) (fun _ hk => hk.2) (.slice Ao57 t903.length co57)) (fun _ hk => hk.2) (.slice Ao59 t906.length co59)) (fun _ hk => hk.2) (.slice Ao61 t909.length co61)) (fun _ hk => by simp only [ne_eq] at hk ⊢; simp only [hk, not_false_eq_true, and_self]))⟩
         have n10_ : Aside0 ((((w56.setCell ⟨gb913, 0, none⟩ (.slice Ao57 t903.length co57)).setCell ⟨gb913, 1, none⟩ (.slice Ao59 t906.length co59)).setCell ⟨gb913, 2, none⟩ (.slice Ao61 t909.length co61)).heap[gb877]? = some (.cells #[.slice Ao8 t868.length co8, .slice Ao10 t871.length co10, .slice Ao11 t874.length co11] 25 (0, 0))) := ⟨kf1 NB877_913.out BK877.out⟩
         have n11_ : Aside0 ((((w56.setCell ⟨gb913, 0, none⟩ (.slice Ao57 t903.length co57)).setCell ⟨gb913, 1, none⟩ (.slice Ao59 t906.length co59)).setCell ⟨gb913, 2, none⟩ (.slice Ao61 t909.length co61)).heap[gb901]? = some (.cells #[.slice Ao46 t891.length co46, .slice Ao48 t894.length co48, .slice Ao50 t897.length co50] 25 (0, 0))) := ⟨kf1 NB901_913.out BK901.out⟩
         have n12_ : Aside0 ((((w56.setCell ⟨gb913, 0, none⟩ (.slice Ao57 t903.length co57)).setCell ⟨gb913, 1, none⟩ (.slice Ao59 t906.length co59)).setCell ⟨gb913, 2, none⟩ (.slice Ao61 t909.length co61)).heap[gb913]? = some (.cells #[.slice Ao57 t903.length co57, .slice Ao59 t906.length co59, .slice Ao61 t909.length co61] 25 (0, 0))) := ⟨kp3 (kf0 BK913.out)⟩
         have n13_ : Aside0 (Below w.heap.size w (((w56.setCell ⟨gb913, 0, none⟩ (.slice Ao57 t903.length co57)).setCell ⟨gb913, 1, none⟩ (.slice Ao59 t906.length co59)).setCell ⟨gb913, 2, none⟩ (.slice Ao61 t909.length co61))) := ⟨by exact bs3 GE877.out GE901.out GE913.out HB.out⟩
         (try clear HO_4)
         (try clear HO_878000)
         (try clear HO_878001)
         (try clear HO_878002)
         (try clear HO893)
         (try clear HO896)
         (try clear HO899)
         (try clear HO905)
         (try clear HO908)
         (try clear HO911)
         (try clear BK877)
         (try clear BK901)
         (try clear BK913)
         (try clear HB)
         generalize (((w56.setCell ⟨gb913, 0, none⟩ (.slice Ao57 t903.length co57)).setCell ⟨gb913, 1, none⟩ (.slice Ao59 t906.length co59)).setCell ⟨gb913, 2, none⟩ (.slice Ao61 t909.length co61)) = w63 at n0_ n1_ n2_ n3_ n4_ n5_ n6_ n7_ n8_ n9_ n10_ n11_ n12_ n13_ ⊢
         have HO_4 := n0_
         have HO_878000 := n1_
         have HO_878001 := n2_
         have HO_878002 := n3_
         have HO893 := n4_
         have HO896 := n5_
         have HO899 := n6_
         have HO905 := n7_
         have HO908 := n8_
         have HO911 := n9_
         have BK877 := n10_
         have BK901 := n11_
         have BK913 := n12_
         have HB := n13_
         clear n0_ n1_ n2_ n3_ n4_ n5_ n6_ n7_ n8_ n9_ n10_ n11_ n12_ n13_
         replace HO_4 := am (Kd.R_drew HO_4.out)
         replace HO_878000 := am (Kd.R_drew HO_878000.out)
         replace HO_878001 := am (Kd.R_drew HO_878001.out)
         replace HO_878002 := am (Kd.R_drew HO_878002.out)
         replace HO893 := am (Kd.R_drew HO893.out)
         replace HO896 := am (Kd.R_drew HO896.out)
         replace HO899 := am (Kd.R_drew HO899.out)
         replace HO905 := am (Kd.R_drew HO905.out)
         replace HO908 := am (Kd.R_drew HO908.out)
         replace HO911 := am (Kd.R_drew HO911.out)
         replace BK877 := am (blk_drew BK877.out)
         replace BK901 := am (blk_drew BK901.out)
         replace BK913 := am (blk_drew BK913.out)
         replace HB := am (below_drew1 HB.out)
         refine start_ (n := 18) (S := fun w' => w'.cell? ⟨gb913, 0, none⟩ = some (.slice Ao57 t903.length co57) ∧ w'.cell? ⟨gb913, 1, none⟩ = some (.slice Ao59 t906.length co59) ∧ w'.cell? ⟨gb913, 2, none⟩ = some (.slice Ao61 t909.length co61) ∧ w'.cell? ⟨gb877, 0, none⟩ = some (.slice Ao8 t868.length co8) ∧ w'.cell? ⟨gb877, 1, none⟩ = some (.slice Ao10 t871.length co10) ∧ w'.cell? ⟨gb877, 2, none⟩ = some (.slice Ao11 t874.length co11)) (ds := []) #[false, false, false, false, false, false, false, false, false, false, false, false, false, false, false, false, false, false] (by kernel_rfl) rfl rfl ⟨(blk_cell BK913.out 0).trans rfl, (blk_cell BK913.out 1).trans rfl, (blk_cell BK913.out 2).trans rfl, (blk_cell BK877.out 0).trans rfl, (blk_cell BK877.out 1).trans rfl, (blk_cell BK877.out 2).trans rfl⟩ (fun hHeld => ?_); refine with_tabW laws_FnGarbagePointers.tab9 laws_FnGarbagePointers.bits9 (fun HT_ HW_ => ?_)
         generalize w63.drew = w64 at HO_4 HO_878000 HO_878001 HO_878002 HO893 HO896 HO899 HO905 HO908 HO911 BK877 BK901 BK913 HB hHeld ⊢
         refine pure_ (i := 0) (N := some 49) (v := ?_) (a' := ?_) #[true, false, false, false, false, false, false, false, false, false, false, false, false, false, false, false, false, false] rfl rfl (any_of HT_.out (by kernel_rfl)) (fun _ _ _ h => h) (Or.inl ⟨by rfl, ?_⟩) ?_ ?_
         rotate_left
         ·intro w'
          go_simp
          with_reducible rfl
         rotate_left
         ·simp only [Act.put, List.setIfInBounds_toArray, List.set_cons_zero, List.set_cons_succ, i64_w, i32_w]
          rfl
         refine pure_ (i := 1) (N := some 50) (v := ?_) (a' := ?_) #[true, true, false, false, false, false, false, false, false, false, false, false, false, false, false, false, false, false] rfl rfl (any_of HT_.out (by kernel_rfl)) (fun _ _ _ h => h) (Or.inl ⟨by rfl, ?_⟩) ?_ ?_
         rotate_left
         ·intro w'
          go_simp
          with_reducible rfl
         rotate_left
         ·simp only [Act.put, List.setIfInBounds_toArray, List.set_cons_zero, List.set_cons_succ, i64_w, i32_w]
          rfl
         refine pure_ (i := 2) (N := some 51) (v := ?_) (a' := ?_) #[true, true, true, false, false, false, false, false, false, false, false, false, false, false, false, false, false, false] rfl rfl (any_of HT_.out (by kernel_rfl)) (fun _ _ _ h => h) (Or.inl ⟨by rfl, ?_⟩) ?_ ?_
         rotate_left
         ·intro w'
          go_simp
          with_reducible rfl
         rotate_left
         ·simp only [Act.put, List.setIfInBounds_toArray, List.set_cons_zero, List.set_cons_succ, i64_w, i32_w]
          rfl
         refine pure_ (i := 3) (N := some 52) (v := ?_) (a' := ?_) #[true, true, true, true, false, false, false, false, false, false, false, false, false, false, false, false, false, false] rfl rfl (any_of HT_.out (by kernel_rfl)) (fun _ _ _ h => h) (Or.inl ⟨by rfl, ?_⟩) ?_ ?_
         rotate_left
         ·intro w'
          go_simp
          with_reducible rfl
         rotate_left
         ·simp only [Act.put, List.setIfInBounds_toArray, List.set_cons_zero, List.set_cons_succ, i64_w, i32_w]
          rfl
         refine pure_ (i := 4) (N := some 53) (v := ?_) (a' := ?_) #[true, true, true, true, true, false, false, false, false, false, false, false, false, false, false, false, false, false] rfl rfl (any_of HT_.out (by kernel_rfl)) (fun _ _ _ h => h) (Or.inl ⟨by rfl, ?_⟩) ?_ ?_
         rotate_left
         ·intro w'
          go_simp
          with_reducible rfl
         rotate_left
         ·simp only [Act.put, List.setIfInBounds_toArray, List.set_cons_zero, List.set_cons_succ, i64_w, i32_w]
          rfl
         refine pure_ (i := 7) (N := some 56) (v := ?_) (a' := ?_) #[true, true, true, true, true, false, false, true, false, false, false, false, false, false, false, false, false, false] rfl rfl (any_of HT_.out (by kernel_rfl)) (fun _ _ _ h => h) (Or.inl ⟨by rfl, ?_⟩) ?_ ?_
         rotate_left
         ·intro w'
          go_simp
          with_reducible rfl
         rotate_left
         ·simp only [Act.put, List.setIfInBounds_toArray, List.set_cons_zero, List.set_cons_succ, i64_w, i32_w]
          rfl
         refine take_ (i := 5) (N := some 54) (v := ?_) (a' := ?_) #[true, true, true, true, true, true, false, true, false, false, false, false, false, false, false, false, false, false] rfl rfl (take_ofW HT_.out HW_.out (by kernel_rfl)) (fun _ _ _ h => h) (Or.inl ⟨by rfl, ?_⟩) hHeld ?_ ?_
         rotate_left
         ·rintro w' ⟨s0, s1, s2, s3, s4, s5⟩
          go_simp
          with_reducible rfl
         rotate_left
         ·simp only [Act.put, List.setIfInBounds_toArray, List.set_cons_zero, List.set_cons_succ, i64_w, i32_w]
          rfl
         refine one_ (i := 6) (N := some 55) #[true, true, true, true, true, true, true, true, false, false, false, false, false, false, false, false, false, false] rfl rfl (one_of HT_.out (by kernel_rfl)) (by decide) (fun K hK => ?_)
         refine goes_ Try.func21 (by kernel_rfl) rfl #[.agg #[.slice Ao57 t903.length co57, .slice Ao59 t906.length co59, .slice Ao61 t909.length co61]] (by rfl) rfl rfl (by (try simp only [List.map_toArray, List.map_cons, List.map_nil]); first | done | rfl | (simp only [List.length_drop, List.length_take]; rfl)) ?_
         with_reducible refine (impl_GarbageOf.calls kj4 _ _ t903 _ _ t906 _ _ t909 t914 _ ?side1 ?side2 ?side3 ?side4 ?side5 ?side6 A36.out).mono ?_
         (case side1 => exact cl ((Kd.R_reads' HO905.out).2.2))
         (case side2 => exact (Kd.R_reads' HO905.out).2.1)
         (case side3 => exact cl ((Kd.R_reads' HO908.out).2.2))
         (case side4 => exact (Kd.R_reads' HO908.out).2.1)
         (case side5 => exact cl ((Kd.R_reads' HO911.out).2.2))
         (case side6 => exact (Kd.R_reads' HO911.out).2.1)
         rintro e w65 ⟨v915, rfl, ho0, hb⟩
         refine ⟨_, rfl, ?_⟩
         have HO916 := am (Kd.R_lower (Kd.R_new' (Kd.R_new' (Kd.R_new' (Kd.R_new' (Kd.R_new' (Kd.R_new' (Kd.R_new' (Kd.R_new' (Kd.R_new' (Kd.R_new' ho0 (Kd.R_lt (rl HO_4.out))) (Kd.R_lt (rl HO_878000.out))) (Kd.R_lt (rl HO_878001.out))) (Kd.R_lt (rl HO_878002.out))) (Kd.R_lt (rl HO893.out))) (Kd.R_lt (rl HO896.out))) (Kd.R_lt (rl HO899.out))) (Kd.R_lt (rl HO905.out))) (Kd.R_lt (rl HO908.out))) (Kd.R_lt (rl HO911.out))) (below_size (bs3 GE877.out GE901.out GE913.out HB.out)))
         replace HO_4 := am (Kd.R_elder' (rl HO_4.out) (Kd.R_base ho0) hb)
         replace HO_878000 := am (Kd.R_elder' (rl HO_878000.out) (Kd.R_base ho0) hb)
         replace HO_878001 := am (Kd.R_elder' (rl HO_878001.out) (Kd.R_base ho0) hb)
         replace HO_878002 := am (Kd.R_elder' (rl HO_878002.out) (Kd.R_base ho0) hb)
         replace HO893 := am (Kd.R_elder' (rl HO893.out) (Kd.R_base ho0) hb)
         replace HO896 := am (Kd.R_elder' (rl HO896.out) (Kd.R_base ho0) hb)
         replace HO899 := am (Kd.R_elder' (rl HO899.out) (Kd.R_base ho0) hb)
         replace HO905 := am (Kd.R_elder' (rl HO905.out) (Kd.R_base ho0) hb)
         replace HO908 := am (Kd.R_elder' (rl HO908.out) (Kd.R_base ho0) hb)
         replace HO911 := am (Kd.R_elder' (rl HO911.out) (Kd.R_base ho0) hb)
         replace BK877 := am (blk_below (g := gb877) (o := .cells #[.slice Ao8 t868.length co8, .slice Ao10 t871.length co10, .slice Ao11 t874.length co11] 25 (0, 0)) (kl BK877.out) hb)
         replace BK901 := am (blk_below (g := gb901) (o := .cells #[.slice Ao46 t891.length co46, .slice Ao48 t894.length co48, .slice Ao50 t897.length co50] 25 (0, 0)) (kl BK901.out) hb)
         replace BK913 := am (blk_below (g := gb913) (o := .cells #[.slice Ao57 t903.length co57, .slice Ao59 t906.length co59, .slice Ao61 t909.length co61] 25 (0, 0)) (kl BK913.out) hb)
         replace HB := am (below_step (bs3 GE877.out GE901.out GE913.out HB.out) hb)
         (try clear hb)
         (try clear hb2)
         (try clear hk)
         (try clear hi)
         (try clear ho0)
         obtain ⟨Ao66, co66, eo66⟩ := Kd.R_slice HO916.out
         (first | subst eo66 | (injection eo66 with f1_ f2_ f3_; have f4_ := f1_.symm; have f5_ := f3_.symm; clear f1_ f2_ f3_; subst f4_; subst f5_))
         refine hK.out _ _ ⟨(blk_cell BK913.out 0).trans rfl, (blk_cell BK913.out 1).trans rfl, (blk_cell BK913.out 2).trans rfl, (blk_cell BK877.out 0).trans rfl, (blk_cell BK877.out 1).trans rfl, (blk_cell BK877.out 2).trans rfl⟩ (fun hHeld => ?_)
         clear hK K
         refine norm_ (a' := ?_) ?_ ?_
         rotate_left
         ·show Act.put _ (some 55) _ = _
          simp only [Act.put, List.setIfInBounds_toArray, List.set_cons_zero, List.set_cons_succ, i64_w, i32_w]
          rfl
         refine one_ (i := 8) (N := some 57) #[true, true, true, true, true, true, true, true, true, false, false, false, false, false, false, false, false, false] rfl rfl (one_of HT_.out (by kernel_rfl)) (by decide) (fun K hK => ?_)
         refine goes_ Try.func19 (by kernel_rfl) rfl #[.slice Ao66 t914.length co66, .slice (some ad889) t878.length co42] (by rfl) rfl rfl (by (try simp only [List.map_toArray, List.map_cons, List.map_nil]); first | done | rfl | (simp only [List.length_drop, List.length_take]; rfl)) ?_
         with_reducible refine (laws_ccInts.calls kj4 _ _ t914 _ _ t878 true _ ?side1 ?side2 ?side3 ?side4 A37.out).mono ?_
         (case side1 => exact cl ((Kd.R_reads' HO916.out).2.2))
         (case side2 => exact (Kd.R_reads' HO916.out).2.1)
         (case side3 => exact cl ((Kd.R_reads' HO_4.out).2.2))
         (case side4 => exact (Kd.R_reads' HO_4.out).2.1)
         rintro e w' ⟨rfl, ⟨nd, rfl⟩⟩
         refine ⟨_, rfl, ?_⟩
         refine hK.out _ _ ⟨(blk_cell BK913.out 0).trans rfl, (blk_cell BK913.out 1).trans rfl, (blk_cell BK913.out 2).trans rfl, (blk_cell BK877.out 0).trans rfl, (blk_cell BK877.out 1).trans rfl, (blk_cell BK877.out 2).trans rfl⟩ (fun hHeld => ?_)
         clear hK K
         refine norm_ (a' := ?_) ?_ ?_
         rotate_left
         ·show Act.put _ (some 57) _ = _
          simp only [Act.put, List.setIfInBounds_toArray, List.set_cons_zero, List.set_cons_succ, i64_w, i32_w]
          rfl
         refine pure_ (i := 9) (N := some 58) (v := ?_) (a' := ?_) #[true, true, true, true, true, true, true, true, true, true, false, false, false, false, false, false, false, false] rfl rfl (any_of HT_.out (by kernel_rfl)) (fun _ _ _ h => h) (Or.inl ⟨by rfl, ?_⟩) ?_ ?_
         rotate_left
         ·intro w'
          go_simp
          with_reducible rfl
         rotate_left
         ·simp only [Act.put, List.setIfInBounds_toArray, List.set_cons_zero, List.set_cons_succ, i64_w, i32_w]
          rfl
         refine pure_ (i := 10) (N := some 59) (v := ?_) (a' := ?_) #[true, true, true, true, true, true, true, true, true, true, true, false, false, false, false, false, false, false] rfl rfl (any_of HT_.out (by kernel_rfl)) (fun _ _ _ h => h) (Or.inl ⟨by rfl, ?_⟩) ?_ ?_
         rotate_left
         ·intro w'
          go_simp
          with_reducible rfl
         rotate_left
         ·simp only [Act.put, List.setIfInBounds_toArray, List.set_cons_zero, List.set_cons_succ, i64_w, i32_w]
          rfl
         refine take_ (i := 11) (N := some 60) (v := ?_) (a' := ?_) #[true, true, true, true, true, true, true, true, true, true, true, true, false, false, false, false, false, false] rfl rfl (take_ofW HT_.out HW_.out (by kernel_rfl)) (fun _ _ _ h => h) (Or.inl ⟨by rfl, ?_⟩) hHeld ?_ ?_
         rotate_left
         ·rintro w' ⟨s0, s1, s2, s3, s4, s5⟩
          go_simp
          with_reducible rfl
         rotate_left
         ·simp only [Act.put, List.setIfInBounds_toArray, List.set_cons_zero, List.set_cons_succ, i64_w, i32_w]
          rfl
         refine take_ (i := 13) (N := some 62) (v := ?_) (a' := ?_) #[true, true, true, true, true, true, true, true, true, true, true, true, false, true, false, false, false, false] rfl rfl (take_ofW HT_.out HW_.out (by kernel_rfl)) (fun _ _ _ h => h) (Or.inl ⟨by rfl, ?_⟩) hHeld ?_ ?_
         rotate_left
         ·rintro w' ⟨s0, s1, s2, s3, s4, s5⟩
          go_simp
          with_reducible rfl
         rotate_left
         ·simp only [Act.put, List.setIfInBounds_toArray, List.set_cons_zero, List.set_cons_succ, i64_w, i32_w]
          rfl
         refine one_ (i := 12) (N := some 61) #[true, true, true, true, true, true, true, true, true, true, true, true, true, true, false, false, false, false] rfl rfl (one_of HT_.out (by kernel_rfl)) (by decide) (fun K hK => ?_)
         refine goes_ Try.func24 (by kernel_rfl) rfl #[.agg #[.slice Ao57 t903.length co57, .slice Ao59 t906.length co59, .slice Ao61 t909.length co61]] (by rfl) rfl rfl (by (try simp only [List.map_toArray, List.map_cons, List.map_nil]); first | done | rfl | (simp only [List.length_drop, List.length_take]; rfl)) ?_
         with_reducible refine (impl_CountLive.calls kj4 _ _ t903 _ _ t906 _ _ t909 t918 _ ?side1 ?side2 ?side3 ?side4 ?side5 ?side6 A39.out).mono ?_
         (case side1 => exact cl ((Kd.R_reads' HO905.out).2.2))
         (case side2 => exact (Kd.R_reads' HO905.out).2.1)
         (case side3 => exact cl ((Kd.R_reads' HO908.out).2.2))
         (case side4 => exact (Kd.R_reads' HO908.out).2.1)
         (case side5 => exact cl ((Kd.R_reads' HO911.out).2.2))
         (case side6 => exact (Kd.R_reads' HO911.out).2.1)
         rintro e w67 ⟨rfl, hb⟩
         refine ⟨_, rfl, ?_⟩
         replace HO_4 := am (Kd.R_below (rl HO_4.out) hb)
         replace HO_878000 := am (Kd.R_below (rl HO_878000.out) hb)
         replace HO_878001 := am (Kd.R_below (rl HO_878001.out) hb)
         replace HO_878002 := am (Kd.R_below (rl HO_878002.out) hb)
         replace HO893 := am (Kd.R_below (rl HO893.out) hb)
         replace HO896 := am (Kd.R_below (rl HO896.out) hb)
         replace HO899 := am (Kd.R_below (rl HO899.out) hb)
         replace HO905 := am (Kd.R_below (rl HO905.out) hb)
         replace HO908 := am (Kd.R_below (rl HO908.out) hb)
         replace HO911 := am (Kd.R_below (rl HO911.out) hb)
         replace HO916 := am (Kd.R_below (rl HO916.out) hb)
         replace BK877 := am (blk_below (g := gb877) (o := .cells #[.slice Ao8 t868.length co8, .slice Ao10 t871.length co10, .slice Ao11 t874.length co11] 25 (0, 0)) (kl BK877.out) hb)
         replace BK901 := am (blk_below (g := gb901) (o := .cells #[.slice Ao46 t891.length co46, .slice Ao48 t894.length co48, .slice Ao50 t897.length co50] 25 (0, 0)) (kl BK901.out) hb)
         replace BK913 := am (blk_below (g := gb913) (o := .cells #[.slice Ao57 t903.length co57, .slice Ao59 t906.length co59, .slice Ao61 t909.length co61] 25 (0, 0)) (kl BK913.out) hb)
         replace HB := am (below_step (bs3 GE877.out GE901.out GE913.out HB.out) hb)
         (try clear hb)
         (try clear hb2)
         (try clear hk)
         (try clear hi)
         refine hK.out _ _ ⟨(blk_cell BK913.out 0).trans rfl, (blk_cell BK913.out 1).trans rfl, (blk_cell BK913.out 2).trans rfl, (blk_cell BK877.out 0).trans rfl, (blk_cell BK877.out 1).trans rfl, (blk_cell BK877.out 2).trans rfl⟩ (fun hHeld => ?_)
         clear hK K
         refine norm_ (a' := ?_) ?_ ?_
         rotate_left
         ·show Act.put _ (some 61) _ = _
          simp only [Act.put, List.setIfInBounds_toArray, List.set_cons_zero, List.set_cons_succ, i64_w, i32_w]
          rfl
         refine one_ (i := 14) (N := some 63) #[true, true, true, true, true, true, true, true, true, true, true, true, true, true, true, false, false, false] rfl rfl (one_of HT_.out (by kernel_rfl)) (by decide) (fun K hK => ?_)
         refine goes_ Try.func24 (by kernel_rfl) rfl #[.agg #[.slice Ao8 t868.length co8, .slice Ao10 t871.length co10, .slice Ao11 t874.length co11]] (by rfl) rfl rfl (by (try simp only [List.map_toArray, List.map_cons, List.map_nil]); first | done | rfl | (simp only [List.length_drop, List.length_take]; rfl)) ?_
         with_reducible refine (impl_CountLive.calls kj4 _ _ t868 _ _ t871 _ _ t874 t919 _ ?side1 ?side2 ?side3 ?side4 ?side5 ?side6 A40.out).mono ?_
         (case side1 => exact cl ((Kd.R_reads' HO_878000.out).2.2))
         (case side2 => exact (Kd.R_reads' HO_878000.out).2.1)
         (case side3 => exact cl ((Kd.R_reads' HO_878001.out).2.2))
         (case side4 => exact (Kd.R_reads' HO_878001.out).2.1)
         (case side5 => exact cl ((Kd.R_reads' HO_878002.out).2.2))
         (case side6 => exact (Kd.R_reads' HO_878002.out).2.1)
         rintro e w68 ⟨rfl, hb⟩
         refine ⟨_, rfl, ?_⟩
         replace HO_4 := am (Kd.R_below (rl HO_4.out) hb)
         replace HO_878000 := am (Kd.R_below (rl HO_878000.out) hb)
         replace HO_878001 := am (Kd.R_below (rl HO_878001.out) hb)
         replace HO_878002 := am (Kd.R_below (rl HO_878002.out) hb)
         replace HO893 := am (Kd.R_below (rl HO893.out) hb)
         replace HO896 := am (Kd.R_below (rl HO896.out) hb)
         replace HO899 := am (Kd.R_below (rl HO899.out) hb)
         replace HO905 := am (Kd.R_below (rl HO905.out) hb)
         replace HO908 := am (Kd.R_below (rl HO908.out) hb)
         replace HO911 := am (Kd.R_below (rl HO911.out) hb)
         replace HO916 := am (Kd.R_below (rl HO916.out) hb)
         replace BK877 := am (blk_below (g := gb877) (o := .cells #[.slice Ao8 t868.length co8, .slice Ao10 t871.length co10, .slice Ao11 t874.length co11] 25 (0, 0)) (kl BK877.out) hb)
         replace BK901 := am (blk_below (g := gb901) (o := .cells #[.slice Ao46 t891.length co46, .slice Ao48 t894.length co48, .slice Ao50 t897.length co50] 25 (0, 0)) (kl BK901.out) hb)
         replace BK913 := am (blk_below (g := gb913) (o := .cells #[.slice Ao57 t903.length co57, .slice Ao59 t906.length co59, .slice Ao61 t909.length co61] 25 (0, 0)) (kl BK913.out) hb)
         replace HB := am (below_step (bs3 GE877.out GE901.out GE913.out HB.out) hb)
         (try clear hb)
         (try clear hb2)
         (try clear hk)
         (try clear hi)
         refine hK.out _ _ ⟨(blk_cell BK913.out 0).trans rfl, (blk_cell BK913.out 1).trans rfl, (blk_cell BK913.out 2).trans rfl, (blk_cell BK877.out 0).trans rfl, (blk_cell BK877.out 1).trans rfl, (blk_cell BK877.out 2).trans rfl⟩ (fun hHeld => ?_)
         clear hK K
         refine norm_ (a' := ?_) ?_ ?_
         rotate_left
         ·show Act.put _ (some 63) _ = _
          simp only [Act.put, List.setIfInBounds_toArray, List.set_cons_zero, List.set_cons_succ, i64_w, i32_w]
          rfl
         refine pure_ (i := 15) (N := some 64) (v := ?_) (a' := ?_) #[true, true, true, true, true, true, true, true, true, true, true, true, true, true, true, true, false, false] rfl rfl (any_of HT_.out (by kernel_rfl)) (fun _ _ _ h => h) (Or.inl ⟨by rfl, ?_⟩) ?_ ?_
         rotate_left
         ·intro w'
          go_simp
          with_reducible rfl
         rotate_left
         ·simp only [Act.put, List.setIfInBounds_toArray, List.set_cons_zero, List.set_cons_succ, i64_w, i32_w]
          rfl
         refine pure_ (i := 16) (N := some 65) (v := ?_) (a' := ?_) #[true, true, true, true, true, true, true, true, true, true, true, true, true, true, true, true, true, false] rfl rfl (any_of HT_.out (by kernel_rfl)) (fun _ _ _ h => h) (Or.inl ⟨by rfl, ?_⟩) ?_ ?_
         rotate_left
         ·intro w'
          go_simp
          with_reducible rfl
         rotate_left
         ·simp only [Act.put, List.setIfInBounds_toArray, List.set_cons_zero, List.set_cons_succ, i64_w, i32_w]
          rfl
         refine pure_ (i := 17) (N := some 2) (v := ?_) (a' := ?_) #[true, true, true, true, true, true, true, true, true, true, true, true, true, true, true, true, true, true] rfl rfl (any_of HT_.out (by kernel_rfl)) (fun _ _ _ h => h) (Or.inl ⟨by rfl, ?_⟩) ?_ ?_
         rotate_left
         ·intro w'
          go_simp
          with_reducible rfl
         rotate_left
         ·simp only [Act.put, List.setIfInBounds_toArray, List.set_cons_zero, List.set_cons_succ, i64_w, i32_w]
          rfl
         refine done_ (done_of HT_.out (by kernel_rfl)) ?_
         try go_wp2
         go_ret
         exact ⟨by first | rfl | (simp [errW_none, errW_some] <;> rfl) | (simp [*, errW_none, errW_some] <;> rfl), by exact bs3 GE877.out GE901.out GE913.out HB.out⟩
        ·replace c38 := Bool.eq_false_iff.mpr c38
         subst c38
         have H1 : (none) = some r := by rw [if_neg (show ¬ (false = true) by decide)] at H; exact H
         clear H
         have H := H1
         clear H1
         exact absurd H (by simp)
       ·replace c35 := Bool.eq_false_iff.mpr c35
        subst c35
        have H1 : (none) = some r := by rw [if_neg (show ¬ (false = true) by decide)] at H; exact H
        clear H
        have H := H1
        clear H1
        exact absurd H (by simp)
      ·replace c34 := Bool.eq_false_iff.mpr c34
       subst c34
       have H1 : (none) = some r := by rw [if_neg (show ¬ (false = true) by decide)] at H; exact H
       clear H
       have H := H1
       clear H1
       exact absurd H (by simp)
     ·rw [if_neg c31] at H
      exact absurd H (by simp)

/-- THE ONE PURE STATEMENT of laws_FnGarbagePointers: yours. -/
def laws_FnGarbagePointers.Pure : Prop := ∀ (l0 : List Int), l0.length ≤ maxLen → l0.length * 1 ≤ 140737488351232 → (∀ x ∈ l0, (Lit.int .u8 x).wf = true) → ∃ k, laws_FnGarbagePointers.f k l0 = some true
theorem laws_FnGarbagePointers.walk (P : laws_FnGarbagePointers.Pure) (a0 : Option Addr) (len0 cap0 : Nat) (z0 : List Int) (w : World) (w0 : (a0 = none ∧ len0 = 0 ∧ cap0 = 0 ∧ z0 = []) ∨ ∃ x, a0 = some x ∧ len0 ≤ cap0 ∧ cap0 ≤ maxLen ∧ z0.length = cap0 ∧ (∀ i, i < z0.length → w.cell? (x.add i) = some (.int .u8 (z0.getD i 0))) ∧ ∀ n ∈ z0, (Lit.int .u8 n).wf = true) (y0 : len0 * 1 ≤ 140737488351232) :
  Calls Try.prog 10 #[.slice a0 len0 cap0] w fun e w' => e = .returned (.bool true) ∧ Below w.heap.size w w' := by
 obtain ⟨l0, rfl, hr0, hm0, hw0, hc0⟩ := ReadsInt.ofRowC w0
 obtain ⟨k, h⟩ := P l0 hm0 y0 hw0
 refine (laws_FnGarbagePointers.calls k _ _ l0 true w (Kd.C_of_reads (d := (0 : Int)) (h1 := fun _ => rfl) hr0) hc0 h).mono ?_
 rintro e w' ⟨rfl, hd⟩
 exact ⟨rfl, hd⟩

end Go.Proofs.Ytghgpinhghhlgaa.A
