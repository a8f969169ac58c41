/- Contracts of functions of the given program (ASpecL1Draw). No conditions beyond those stated. -/
import Derived.Test.YtkbaggfkidalfaaA0
import Derived.Test.YtkbaggfkidalfaaASpecL13RdNum
import Derived.Test.YtkbaggfkidalfaaASpecL13RdPick
import Derived.Test.YtkbaggfkidalfaaASpecNewHeap
import Derived.Test.YtkbaggfkidalfaaAState
import Derived.Test.YtkbaggfkidalfaaPBase
import Derived.Test.YtkbaggfkidalfaaA0
namespace Go.Proofs.Ytkbaggfkidalfaa.A
open Go.RowKit Go.Proofs.YtkbaggfkidalfaaW.PrintWords Go.Proofs.YtkbaggfkidalfaaW.PrintLast Go.Proofs.YtkbaggfkidalfaaW.PrintMore
attribute [local go_sem] max2_int min2_int max_two min_two max_three min_three max_four min_four   -- for this text's walks alone
set_option linter.unusedVariables false
set_option linter.unusedSimpArgs false

/-! ### spec_l1Draw -/
mutual
def spec_l1Draw.l0 : Nat → Int → Int → List Int → Int → List Int → List Int → List Int → Option (List Int × List Int × List Int × Int)
 | 0, _, _, _, _, _, _, _ => none
 | k + 1, x3, x6, x1000, x1001, x676000, x676001, x676002 => if x6 < x3 then ((spec_l13Rd_pick.f k x1000 x1001 (wrap64 (x3 + 2))).bind fun bt676 => (if 0 ≤ x6 then (if x6 < (x676000.length : Int) then ((some (x676000.set (x6 : Int).toNat (wrap64 (bt676.1 - 1)) : List Int)).bind fun y678 => ((spec_l13Rd_pick.f k x1000 bt676.2 (wrap64 (x3 + 2))).bind fun bt679 => (if x6 < (x676001.length : Int) then ((some (x676001.set (x6 : Int).toNat (wrap64 (bt679.1 - 2)) : List Int)).bind fun y681 => (if (rd y678 x6) ≥ x3 then ((some (y678.set (x6 : Int).toNat (-1) : List Int)).bind fun y683 => (if (rd y681 x6) < (-1) then (spec_l1Draw.l0 k x3 (wrap64 (x6 + 1)) x1000 bt679.2 y683 (y681.set (x6 : Int).toNat (-1)) x676002) else (spec_l1Draw.l0 k x3 (wrap64 (x6 + 1)) x1000 bt679.2 y683 y681 x676002))) else (if (wrap64 (bt679.1 - 2)) < (-1) then (spec_l1Draw.l0 k x3 (wrap64 (x6 + 1)) x1000 bt679.2 y678 (y681.set (x6 : Int).toNat (-1)) x676002) else (spec_l1Draw.l0 k x3 (wrap64 (x6 + 1)) x1000 bt679.2 y678 y681 x676002)))) else (none)))) else (none)) else (none))) else (spec_l1Draw.l1 k x3 0 x1000 x1001 x676000 x676001 x676002)
def spec_l1Draw.l1 : Nat → Int → Int → List Int → Int → List Int → List Int → List Int → Option (List Int × List Int × List Int × Int)
 | 0, _, _, _, _, _, _, _ => none
 | k + 1, x3, x7, x1000, x1001, x676000, x676001, x676002 => if x7 < (x676002.length : Int) then ((spec_l13Rd_pick.f k x1000 x1001 (wrap64 (x3 + 1))).bind fun bt688 => (if 0 ≤ x7 then (spec_l1Draw.l1 k x3 (wrap64 (x7 + 1)) x1000 bt688.2 x676000 x676001 (x676002.set (x7 : Int).toNat (wrap64 (bt688.1 - 1)))) else (none))) else (some (x676000, x676001, x676002, x1001))
end
def spec_l1Draw.f (k : Nat) (s0_0 : List Int) (s0_1 : Int) : Option (List Int × List Int × List Int × Int) := (spec_l13Rd_num.f k s0_0 s0_1 (([4, 3, 5, 6, 2, 8, 1] : List Int))).bind fun bt658 => ((spec_l13Rd_num.f k s0_0 bt658.2 (([2, 1, 3] : List Int))).bind fun bt663 => ((spec_NewHeap.f k bt658.1 bt663.1).bind fun bt665 => (spec_l1Draw.l0 k bt658.1 0 s0_0 bt663.2 bt665.1 bt665.2.1 bt665.2.2.1)))
theorem spec_l1Draw.mono_l : ∀ k, (∀ y0 y1 y2 y3 y4 y5 y6, LeO (spec_l1Draw.l0 k y0 y1 y2 y3 y4 y5 y6) (spec_l1Draw.l0 (k + 1) y0 y1 y2 y3 y4 y5 y6)) ∧ (∀ y0 y1 y2 y3 y4 y5 y6, LeO (spec_l1Draw.l1 k y0 y1 y2 y3 y4 y5 y6) (spec_l1Draw.l1 (k + 1) y0 y1 y2 y3 y4 y5 y6))
 | 0 => ⟨fun _ _ _ _ _ _ _ r h => by simp [spec_l1Draw.l0] at h, fun _ _ _ _ _ _ _ r h => by simp [spec_l1Draw.l1] at h⟩
 | k + 1 => by
  obtain ⟨ih0, ih1⟩ := spec_l1Draw.mono_l k
  refine ⟨?_, ?_⟩
  ·intro y0 y1 y2 y3 y4 y5 y6
   unfold spec_l1Draw.l0
   repeat' first
   | (with_reducible exact ih0 _ _ _ _ _ _ _)
   | (with_reducible exact ih1 _ _ _ _ _ _ _)
   | (with_reducible exact spec_NewHeap.mono _ _ _)
   | (with_reducible exact spec_l13Rd_num.mono _ _ _ _)
   | (with_reducible exact spec_l13Rd_pick.mono _ _ _ _)
   | (with_reducible exact LeO.refl _)
   | (with_reducible exact LeO.none _)
   | (with_reducible refine LeO.ite ?_ ?_)
   | (with_reducible refine LeO.bind ?_ (fun _ => ?_))
   | exact ih0 _ _ _ _ _ _ _
   | exact ih1 _ _ _ _ _ _ _
   | exact spec_NewHeap.mono _ _ _
   | exact spec_l13Rd_num.mono _ _ _ _
   | exact spec_l13Rd_pick.mono _ _ _ _
   | exact LeO.none _
   | refine LeO.ite ?_ ?_
   | refine LeO.bind ?_ (fun _ => ?_)
  ·intro y0 y1 y2 y3 y4 y5 y6
   unfold spec_l1Draw.l1
   repeat' first
   | (with_reducible exact ih0 _ _ _ _ _ _ _)
   | (with_reducible exact ih1 _ _ _ _ _ _ _)
   | (with_reducible exact spec_NewHeap.mono _ _ _)
   | (with_reducible exact spec_l13Rd_num.mono _ _ _ _)
   | (with_reducible exact spec_l13Rd_pick.mono _ _ _ _)
   | (with_reducible exact LeO.refl _)
   | (with_reducible exact LeO.none _)
   | (with_reducible refine LeO.ite ?_ ?_)
   | (with_reducible refine LeO.bind ?_ (fun _ => ?_))
   | exact ih0 _ _ _ _ _ _ _
   | exact ih1 _ _ _ _ _ _ _
   | exact spec_NewHeap.mono _ _ _
   | exact spec_l13Rd_num.mono _ _ _ _
   | exact spec_l13Rd_pick.mono _ _ _ _
   | exact LeO.none _
   | refine LeO.ite ?_ ?_
   | refine LeO.bind ?_ (fun _ => ?_)
theorem spec_l1Draw.mono : ∀ a0 a1 k, LeO (spec_l1Draw.f k a0 a1) (spec_l1Draw.f (k + 1) a0 a1) := by
 intro a0 a1 k
 obtain ⟨ih0, ih1⟩ := spec_l1Draw.mono_l k
 unfold spec_l1Draw.f
 repeat' first
   | (with_reducible exact ih0 _ _ _ _ _ _ _)
   | (with_reducible exact ih1 _ _ _ _ _ _ _)
   | (with_reducible exact spec_NewHeap.mono _ _ _)
   | (with_reducible exact spec_l13Rd_num.mono _ _ _ _)
   | (with_reducible exact spec_l13Rd_pick.mono _ _ _ _)
   | (with_reducible exact LeO.refl _)
   | (with_reducible exact LeO.none _)
   | (with_reducible refine LeO.ite ?_ ?_)
   | (with_reducible refine LeO.bind ?_ (fun _ => ?_))
   | exact ih0 _ _ _ _ _ _ _
   | exact ih1 _ _ _ _ _ _ _
   | exact spec_NewHeap.mono _ _ _
   | exact spec_l13Rd_num.mono _ _ _ _
   | exact spec_l13Rd_pick.mono _ _ _ _
   | exact LeO.none _
   | refine LeO.ite ?_ ?_
   | refine LeO.bind ?_ (fun _ => ?_)
def spec_l1Draw.T6 : Bool × List (List Nat × List Nat) := (true, [([], []), ([0], [0]), ([], []), ([], []), ([], []), ([4], [4]), ([3, 5], [3, 5]), ([6], [6]), ([1, 2, 0, 1, 2, 3, 4, 5, 6, 7], [1, 2]), ([8, 7, 6, 0, 1, 2, 3, 4, 5, 6, 7], [7, 8])])
def spec_l1Draw.B6 : List Nat := [0, 1, 0, 0, 0, 16, 56, 120, 255, 511]
theorem spec_l1Draw.tab6 : rtab .any (opsOf Try.f86 6) = spec_l1Draw.T6 := by kernel_rfl
theorem spec_l1Draw.bits6 : waitsOk spec_l1Draw.T6.2 spec_l1Draw.B6 = true := by kernel_rfl
def spec_l1Draw.T7 : Bool × List (List Nat × List Nat) := (true, [([], []), ([0], [0]), ([], []), ([], []), ([], []), ([4], [4]), ([3, 5], [3, 5]), ([6], [6]), ([1, 2, 0, 1, 2, 3, 4, 5, 6, 7], [1, 2]), ([8, 7, 6, 0, 1, 2, 3, 4, 5, 6, 7], [7, 8])])
def spec_l1Draw.B7 : List Nat := [0, 1, 0, 0, 0, 16, 56, 120, 255, 511]
theorem spec_l1Draw.tab7 : rtab .any (opsOf Try.f86 7) = spec_l1Draw.T7 := by kernel_rfl
theorem spec_l1Draw.bits7 : waitsOk spec_l1Draw.T7.2 spec_l1Draw.B7 = true := by kernel_rfl
def spec_l1Draw.T15 : Bool × List (List Nat × List Nat) := (true, [([], []), ([0], [0]), ([], []), ([], []), ([], []), ([4], [4]), ([3, 5], [3, 5]), ([6], [6]), ([1, 2, 0, 1, 2, 3, 4, 5, 6, 7], [1, 2]), ([8, 7, 6, 0, 1, 2, 3, 4, 5, 6, 7], [7, 8])])
def spec_l1Draw.B15 : List Nat := [0, 1, 0, 0, 0, 16, 56, 120, 255, 511]
theorem spec_l1Draw.tab15 : rtab .any (opsOf Try.f86 15) = spec_l1Draw.T15 := by kernel_rfl
theorem spec_l1Draw.bits15 : waitsOk spec_l1Draw.T15.2 spec_l1Draw.B15 = true := by kernel_rfl
set_option maxHeartbeats 8000000 in
set_option maxRecDepth 100000 in
theorem spec_l1Draw.calls (k : Nat) (g : Nat) (s0_0 : List Int) (s0_1 : Int) (r1 : List Int) (r2 : List Int) (r3 : List Int) (r4 : Int) (w0 w : World) (hI : IsS84 w0 w g s0_0 s0_1) (hB : Below w0.heap.size w0 w) (h : spec_l1Draw.f k s0_0 s0_1 = some (r1, r2, r3, r4)) :
  Calls Try.prog 86 #[.pointer (some ⟨g, 0, none⟩)] w fun e w' => ∃ v0_ v1_ v2_ : Value, e = .returned (.agg #[v0_, v1_, v2_]) ∧ Kd.R (Kd.int .i64) 3 w' w.heap.size (fun k_ => some k_ ≠ (v1_ : Value).ownBlock ∧ some k_ ≠ (v2_ : Value).ownBlock) v0_ r1 ∧ Kd.R (Kd.int .i64) 3 w' w.heap.size (fun k_ => some k_ ≠ (v0_ : Value).ownBlock ∧ some k_ ≠ (v2_ : Value).ownBlock) v1_ r2 ∧ Kd.R (Kd.int .i64) 3 w' w.heap.size (fun k_ => some k_ ≠ (v0_ : Value).ownBlock ∧ some k_ ≠ (v1_ : Value).ownBlock) v2_ r3 ∧ IsS84 w0 w' g s0_0 r4 ∧ Below w0.heap.size w0 w' ∧ KeepBut w w' g none := by
 have hu28 := Try.underlying28
 have HI0 := am hI
 have HK := am (KeepBut.refl w g none)
 have HL := am hB.size
 clear hI
 have HW0 := am hB.size
 have HB := am hB
 clear hB
 have H : ((spec_l13Rd_num.f k s0_0 s0_1 (([4, 3, 5, 6, 2, 8, 1] : List Int))).bind fun bt658 => ((spec_l13Rd_num.f k s0_0 bt658.2 (([2, 1, 3] : List Int))).bind fun bt663 => ((spec_NewHeap.f k bt658.1 bt663.1).bind fun bt665 => (spec_l1Draw.l0 k bt658.1 0 s0_0 bt663.2 bt665.1 bt665.2.1 bt665.2.2.1)))) = some (r1, r2, r3, r4) := h
 clear h
 obtain ⟨y655, hy655⟩ : ∃ y_ : List Int, y_ = (([4, 3, 5, 6, 2, 8, 1] : List Int)) := ⟨_, rfl⟩
 replace H : ((spec_l13Rd_num.f k s0_0 s0_1 y655).bind fun bt658 => ((spec_l13Rd_num.f k s0_0 bt658.2 (([2, 1, 3] : List Int))).bind fun bt663 => ((spec_NewHeap.f k bt658.1 bt663.1).bind fun bt665 => (spec_l1Draw.l0 k bt658.1 0 s0_0 bt663.2 bt665.1 bt665.2.1 bt665.2.2.1)))) = some (r1, r2, r3, r4) := by first | (rw [hy655]; with_reducible exact H) | (have H2_ := (Option.bind_some _ _).symm.trans H; rw [hy655]; with_reducible exact H2_) | (have H2_ := (Option.bind_some _ _).symm.trans H; with_reducible exact H2_) | with_reducible exact H | (rw [hy655]; exact H) | exact H
 have Ny655 := am hy655
 clear hy655
 replace H := Option.bind_eq_some_iff.mp H
 obtain ⟨⟨t658, t659⟩, A20, H⟩ := H
 replace H : ((spec_l13Rd_num.f k s0_0 t659 (([2, 1, 3] : List Int))).bind fun bt663 => ((spec_NewHeap.f k t658 bt663.1).bind fun bt665 => (spec_l1Draw.l0 k t658 0 s0_0 bt663.2 bt665.1 bt665.2.1 bt665.2.2.1))) = some (r1, r2, r3, r4) := H
 have A2 := am A20
 clear A20
 obtain ⟨y660, hy660⟩ : ∃ y_ : List Int, y_ = (([2, 1, 3] : List Int)) := ⟨_, rfl⟩
 replace H : ((spec_l13Rd_num.f k s0_0 t659 y660).bind fun bt663 => ((spec_NewHeap.f k t658 bt663.1).bind fun bt665 => (spec_l1Draw.l0 k t658 0 s0_0 bt663.2 bt665.1 bt665.2.1 bt665.2.2.1))) = some (r1, r2, r3, r4) := by first | (rw [hy660]; with_reducible exact H) | (have H2_ := (Option.bind_some _ _).symm.trans H; rw [hy660]; with_reducible exact H2_) | (have H2_ := (Option.bind_some _ _).symm.trans H; with_reducible exact H2_) | with_reducible exact H | (rw [hy660]; exact H) | exact H
 have Ny660 := am hy660
 clear hy660
 replace H := Option.bind_eq_some_iff.mp H
 obtain ⟨⟨t663, t664⟩, A30, H⟩ := H
 replace H : ((spec_NewHeap.f k t658 t663).bind fun bt665 => (spec_l1Draw.l0 k t658 0 s0_0 t664 bt665.1 bt665.2.1 bt665.2.2.1)) = some (r1, r2, r3, r4) := H
 have A3 := am A30
 clear A30
 replace H := Option.bind_eq_some_iff.mp H
 obtain ⟨⟨t665, t668, t671, t674⟩, A40, H⟩ := H
 replace H : (spec_l1Draw.l0 k t658 0 s0_0 t664 t665 t668 t671) = some (r1, r2, r3, r4) := H
 have A4 := am A40
 clear A40
 have H' := am H
 clear H
 go_enter Try.func86, Try.ntmps86
 go_wp2_with (first | ((with_reducible refine gate_dst (N := 2) rfl ?_); refine box_event ?hg (N := 2) ?hd (cs := #[.slice none 0 0, .slice none 0 0, .slice none 0 0]) (t := 28) ?hr ?_; (case hd => rfl); (case hg => rfl); (case hr => first | (go_simp; done) | (go_simp; rfl)); intro gb654 hg w5 hbox hb; replace HB := am (below_step (bs1 (IsS84.ge HI0.out) HB.out) hb); have BK654 := am (hbox); have GW654 := am ((by rw [hg]; exact (keep_size (w := w) (g := g) (row := none) (ks0 HK.out)) : w.heap.size ≤ gb654)); have GE654 := am ((Nat.le_trans HW0.out (by rw [hg]; exact (keep_size (w := w) (g := g) (row := none) (ks0 HK.out)) : w.heap.size ≤ gb654) : w0.heap.size ≤ gb654)); replace HK := am (KeepBut.trans (ks0 HK.out) (KeepBut.of_below hb g none) (.inl rfl)); have NB0_654 := am ((by rw [hg]; exact Nat.ne_of_lt (IsS84.lt (show IsS84 w0 _ g s0_0 s0_1 from by exact is84_0 HI0.out)) : g ≠ gb654)); have NB654_0 := am ((by rw [hg]; exact Nat.ne_of_gt (IsS84.lt (show IsS84 w0 _ g s0_0 s0_1 from by exact is84_0 HI0.out)) : gb654 ≠ g)); replace HI0 := am (IsS84.below (is84_0 HI0.out) hb); clear hb hbox hg) | ((with_reducible refine gate_dst (N := 9) rfl ?_); refine Kd.R_lit (Kd.int .i64) _ 3 ?hg (N := 9) ?hd (xs := ([4, 3, 5, 6, 2, 8, 1] : List Int)) (inner := [.int .i64 4, .int .i64 3, .int .i64 5, .int .i64 6, .int .i64 2, .int .i64 8, .int .i64 1]) (ok := fun _ => True) (okp := fun _ => True) ?hr ?hp (fun _ hk => hk) trivial (Below.refl _ _) (Nat.le_refl _) (by simp) ?_; (case hd => rfl); (case hg => rfl); (case hr => first | (go_simp; done) | (go_simp; rfl)); (case hp => exact (Reps.one (show Kd.M (Kd.int .i64) _ _ _ 4 [.int .i64 4] from rfl) (Reps.one (show Kd.M (Kd.int .i64) _ _ _ 3 [.int .i64 3] from rfl) (Reps.one (show Kd.M (Kd.int .i64) _ _ _ 5 [.int .i64 5] from rfl) (Reps.one (show Kd.M (Kd.int .i64) _ _ _ 6 [.int .i64 6] from rfl) (Reps.one (show Kd.M (Kd.int .i64) _ _ _ 2 [.int .i64 2] from rfl) (Reps.one (show Kd.M (Kd.int .i64) _ _ _ 8 [.int .i64 8] from rfl) (Reps.one (show Kd.M (Kd.int .i64) _ _ _ 1 [.int .i64 1] from rfl) (Reps.none _ _))))))))); intro v656 w6 ho7 hb hg_ hnew_; clear hg_ hnew_; (first | rw [← Ny655.out] at ho7 | (simp only [Int.reduceToNat] at ho7; rw [← Ny655.out] at ho7)); have HO657 := am (Kd.R_lower ho7 (keep_size (w := w) (g := g) (row := none) (ks1 GW654.out HK.out))); replace BK654 := bb BK654 hb; replace HK := am (KeepBut.trans (ks1 GW654.out HK.out) (KeepBut.of_below hb g none) (.inl rfl)); replace HB := am (below_step (bs2 (IsS84.ge HI0.out) GE654.out HB.out) hb); replace HI0 := am (IsS84.below (is84_1 NB0_654.out HI0.out) hb); clear hb ho7; obtain ⟨Ao8, co8, eo8⟩ := Kd.R_slice HO657.out; subst eo8) | ((with_reducible refine gate_callee (f := 70) rfl ?_); refine gL (some 10) rfl rfl Try.func70 (by kernel_rfl) rfl #[.pointer (some ⟨g, 0, none⟩), .slice Ao8 y655.length co8] rfl ?_; (with_reducible refine (spec_l13Rd_num.calls k g s0_0 s0_1 _ _ y655 t658 t659 w0 _ ?side1 ?side2 ?side3 ?side4 ?side5 A2.out).mono ?_); (case side1 => exact is84_1 NB0_654.out HI0.out); (case side2 => exact bs2 (IsS84.ge HI0.out) GE654.out HB.out); (case side3 => exact cl ((Kd.R_reads' HO657.out).2.2)); (case side4 => exact sc HO657); (case side5 => exact far_slice (IsS84.own_ne HI0.out HO657.out (by decide))); rintro e w9 ⟨rfl, hi, hb, hk⟩; refine ⟨_, rfl, ?_⟩; replace BK654 := kb hk BK654 NB654_0; replace HO657 := am (Kd.R_mono (Kd.R_keep (IsS84.apart (show IsS84 w0 _ g s0_0 s0_1 from by exact is84_1 NB0_654.out HI0.out) (rl HO657.out) (by decide)) hk (fun _ h => h.2)) (fun _ h => h.1)); replace HK := am (KeepBut.trans (ks1 GW654.out HK.out) hk (.inl rfl)); replace HB := am (hb); replace HI0 := am (hi); (try clear hb hk hi)) | ((with_reducible refine gate_dst (N := 14) rfl ?_); refine Kd.R_lit (Kd.int .i64) _ 3 ?hg (N := 14) ?hd (xs := ([2, 1, 3] : List Int)) (inner := [.int .i64 2, .int .i64 1, .int .i64 3]) (ok := fun _ => True) (okp := fun _ => True) ?hr ?hp (fun _ hk => hk) trivial (Below.refl _ _) (Nat.le_refl _) (by simp) ?_; (case hd => rfl); (case hg => rfl); (case hr => first | (go_simp; done) | (go_simp; rfl)); (case hp => exact (Reps.one (show Kd.M (Kd.int .i64) _ _ _ 2 [.int .i64 2] from rfl) (Reps.one (show Kd.M (Kd.int .i64) _ _ _ 1 [.int .i64 1] from rfl) (Reps.one (show Kd.M (Kd.int .i64) _ _ _ 3 [.int .i64 3] from rfl) (Reps.none _ _))))); intro v661 w10 ho11 hb hg_ hnew_; clear hg_ hnew_; (first | rw [← Ny660.out] at ho11 | (simp only [Int.reduceToNat] at ho11; rw [← Ny660.out] at ho11)); have HO662 := am (Kd.R_lower (Kd.R_new' ho11 (Kd.R_lt (rl HO657.out))) (keep_size (w := w) (g := g) (row := none) (ks1 GW654.out HK.out))); replace HO657 := am (Kd.R_elder' (rl HO657.out) (Kd.R_base ho11) hb); replace BK654 := bb BK654 hb; replace HK := am (KeepBut.trans (ks1 GW654.out HK.out) (KeepBut.of_below hb g none) (.inl rfl)); replace HB := am (below_step (bs2 (IsS84.ge HI0.out) GE654.out HB.out) hb); replace HI0 := am (IsS84.below (is84_1 NB0_654.out HI0.out) hb); clear hb ho11; obtain ⟨Ao12, co12, eo12⟩ := Kd.R_slice HO662.out; subst eo12) | ((with_reducible refine gate_callee (f := 70) rfl ?_); refine gL (some 15) rfl rfl Try.func70 (by kernel_rfl) rfl #[.pointer (some ⟨g, 0, none⟩), .slice Ao12 y660.length co12] rfl ?_; (with_reducible refine (spec_l13Rd_num.calls k g s0_0 t659 _ _ y660 t663 t664 w0 _ ?side1 ?side2 ?side3 ?side4 ?side5 A3.out).mono ?_); (case side1 => exact is84_1 NB0_654.out HI0.out); (case side2 => exact bs2 (IsS84.ge HI0.out) GE654.out HB.out); (case side3 => exact cl ((Kd.R_reads' HO662.out).2.2)); (case side4 => exact sc HO662); (case side5 => exact far_slice (IsS84.own_ne HI0.out HO662.out (by decide))); rintro e w13 ⟨rfl, hi, hb, hk⟩; refine ⟨_, rfl, ?_⟩; replace BK654 := kb hk BK654 NB654_0; replace HO657 := am (Kd.R_mono (Kd.R_keep (IsS84.apart (show IsS84 w0 _ g s0_0 t659 from by exact is84_1 NB0_654.out HI0.out) (rl HO657.out) (by decide)) hk (fun _ h => h.2)) (fun _ h => h.1)); replace HO662 := am (Kd.R_mono (Kd.R_keep (IsS84.apart (show IsS84 w0 _ g s0_0 t659 from by exact is84_1 NB0_654.out HI0.out) (rl HO662.out) (by decide)) hk (fun _ h => h.2)) (fun _ h => h.1)); replace HK := am (KeepBut.trans (ks1 GW654.out HK.out) hk (.inl rfl)); replace HB := am (hb); replace HI0 := am (hi); (try clear hb hk hi)) | ((with_reducible refine gate_callee (f := 91) rfl ?_); refine gL (some 16) rfl rfl Try.func91 (by kernel_rfl) rfl #[.int .i64 t658, .int .i64 t663] rfl ?_; (with_reducible refine (spec_NewHeap.calls k t658 t663 t665 t668 t671 t674 _ A4.out).mono ?_); rintro e w14 ⟨v666, v669, v672, rfl, ho0, ho1, ho2, hb⟩; refine ⟨_, rfl, ?_⟩; have HO667 := am (Kd.R_lower (Kd.R_new' (Kd.R_new' ho0 (Kd.R_lt (rl HO657.out))) (Kd.R_lt (rl HO662.out))) (keep_size (w := w) (g := g) (row := none) (ks1 GW654.out HK.out))); have HO670 := am (Kd.R_lower (Kd.R_new' (Kd.R_new' ho1 (Kd.R_lt (rl HO657.out))) (Kd.R_lt (rl HO662.out))) (keep_size (w := w) (g := g) (row := none) (ks1 GW654.out HK.out))); have HO673 := am (Kd.R_lower (Kd.R_new' (Kd.R_new' ho2 (Kd.R_lt (rl HO657.out))) (Kd.R_lt (rl HO662.out))) (keep_size (w := w) (g := g) (row := none) (ks1 GW654.out HK.out))); replace HO657 := td3 (rl HO657.out) hb ho0 ho1 ho2; replace HO662 := td3 (rl HO662.out) hb ho0 ho1 ho2; replace BK654 := bb BK654 hb; replace HK := am (KeepBut.trans (ks1 GW654.out HK.out) (KeepBut.of_below hb g none) (.inl rfl)); replace HB := am (below_step (bs2 (IsS84.ge HI0.out) GE654.out HB.out) hb); replace HI0 := am (IsS84.below (is84_1 NB0_654.out HI0.out) hb); (try clear hb ho0 ho1 ho2)) | ((with_reducible refine gate_dst (N := 4) rfl ?_); refine box_event ?hg (N := 4) ?hd (cs := #[.slice none 0 0, .slice none 0 0, .slice none 0 0]) (t := 28) ?hr ?_; (case hd => rfl); (case hg => rfl); (case hr => first | (go_simp; done) | (go_simp; rfl)); intro gb675 hg w15 hbox hb; replace HO657 := rb HO657 hb; replace HO662 := rb HO662 hb; replace HO667 := rb HO667 hb; replace HO670 := rb HO670 hb; replace HO673 := rb HO673 hb; replace HB := am (below_step (bs2 (IsS84.ge HI0.out) GE654.out HB.out) hb); have BK675 := am (hbox); have GW675 := am ((by rw [hg]; exact (keep_size (w := w) (g := g) (row := none) (ks1 GW654.out HK.out)) : w.heap.size ≤ gb675)); have GE675 := am ((Nat.le_trans HW0.out (by rw [hg]; exact (keep_size (w := w) (g := g) (row := none) (ks1 GW654.out HK.out)) : w.heap.size ≤ gb675) : w0.heap.size ≤ gb675)); replace HK := am (KeepBut.trans (ks1 GW654.out HK.out) (KeepBut.of_below hb g none) (.inl rfl)); have NB654_675 := nb BK654 hg; have NB675_654 := nc BK654 hg; replace BK654 := bb BK654 hb; have NB0_675 := am ((by rw [hg]; exact Nat.ne_of_lt (IsS84.lt (show IsS84 w0 _ g s0_0 t664 from by exact is84_1 NB0_654.out HI0.out)) : g ≠ gb675)); have NB675_0 := am ((by rw [hg]; exact Nat.ne_of_gt (IsS84.lt (show IsS84 w0 _ g s0_0 t664 from by exact is84_1 NB0_654.out HI0.out)) : gb675 ≠ g)); replace HI0 := am (IsS84.below (is84_1 NB0_654.out HI0.out) hb); clear hb hbox hg; obtain ⟨Ao16, co16, eo16⟩ := Kd.R_slice HO667.out; subst eo16; have hnb17 := NB675_654.out; have hnc17 := NB654_675.out; have hnb18 := NB675_0.out; have hnc18 := NB0_675.out; obtain ⟨hcz19_0, hcz19_1, hcz19_2, hfz19_0, hfz19_1, hfz19_2⟩ := cf3 BK675; obtain ⟨Ao20, co20, eo20⟩ := Kd.R_slice HO670.out; subst eo20; obtain ⟨Ao21, co21, eo21⟩ := Kd.R_slice HO673.out; subst eo21))
 go_loopg [6] k (fun kq v6 w' => ∃ (x6_1 : Int) (x1001_1 : Int) (x676000_1 : List Int) (x676001_1 : List Int) (x676002_1 : List Int) (u676000 : Value) (u676001 : Value) (u676002 : Value), v6 = .int .i64 x6_1 ∧ Aside0 (spec_l1Draw.l0 kq t658 x6_1 s0_0 x1001_1 x676000_1 x676001_1 x676002_1 = some (r1, r2, r3, r4)) ∧ Aside0 (kq ≤ k) ∧ Aside0 (Kd.R (Kd.int .i64) 3 w' w.heap.size (fun k_ => some k_ ≠ (u676001 : Value).ownBlock ∧ some k_ ≠ (u676002 : Value).ownBlock) u676000 x676000_1) ∧ Aside0 (Kd.R (Kd.int .i64) 3 w' w.heap.size (fun k_ => some k_ ≠ (u676000 : Value).ownBlock ∧ some k_ ≠ (u676002 : Value).ownBlock) u676001 x676001_1) ∧ Aside0 (Kd.R (Kd.int .i64) 3 w' w.heap.size (fun k_ => some k_ ≠ (u676000 : Value).ownBlock ∧ some k_ ≠ (u676001 : Value).ownBlock) u676002 x676002_1) ∧ Aside0 (w'.heap[gb654]? = some (.cells #[(.slice none 0 0), (.slice none 0 0), (.slice none 0 0)] 28 (0, 0))) ∧ Aside0 (w'.heap[gb675]? = some (.cells #[u676000, u676001, u676002] 28 (0, 0))) ∧ Aside0 (IsS84 w0 w' g s0_0 x1001_1) ∧ Aside0 (KeepBut w w' g none) ∧ Aside0 (Below w0.heap.size w0 w'))
 case atStart => exact ⟨(0), (t664), (t665), (t668), (t671), (.slice Ao16 t665.length co16), (.slice Ao20 t668.length co20), (.slice Ao21 t671.length co21), (by first | rfl | (simp; done) | (simp [*]; done)), H', ⟨Nat.le_refl _⟩, ⟨rl (Kd.R_mono (Kd.R_far (p := ⟨gb675, 2, none⟩) (Kd.R_far (p := ⟨gb675, 1, none⟩) (Kd.R_far (p := ⟨gb675, 0, none⟩) (Kd.R_types HO667.out BK675.out (by decide)) (fun _ hk => hk.2) (.slice Ao16 t665.length co16)) (fun _ hk => hk.2) (.slice Ao20 t668.length co20)) (fun _ hk => hk.2) (.slice Ao21 t671.length co21)) (fun _ hk => by first | exact ⟨hk.1.1.1.1, hk.1.1.1.2⟩ | (simp only [ne_eq] at hk ⊢; simp only [hk, not_false_eq_true, and_self])))⟩, ⟨rl (Kd.R_mono (Kd.R_far (p := ⟨gb675, 2, none⟩) (Kd.R_far (p := ⟨gb675, 1, none⟩) (Kd.R_far (p := ⟨gb675, 0, none⟩) (Kd.R_types HO670.out BK675.out (by decide)) (fun _ hk => hk.2) (.slice Ao16 t665.length co16)) (fun _ hk => hk.2) (.slice Ao20 t668.length co20)) (fun _ hk => hk.2) (.slice Ao21 t671.length co21)) (fun _ hk => by first | exact ⟨hk.1.1.1.1, hk.1.1.1.2⟩ | (simp only [ne_eq] at hk ⊢; simp only [hk, not_false_eq_true, and_self])))⟩, ⟨rl (Kd.R_mono (Kd.R_far (p := ⟨gb675, 2, none⟩) (Kd.R_far (p := ⟨gb675, 1, none⟩) (Kd.R_far (p := ⟨gb675, 0, none⟩) (Kd.R_types HO673.out BK675.out (by decide)) (fun _ hk => hk.2) (.slice Ao16 t665.length co16)) (fun _ hk => hk.2) (.slice Ao20 t668.length co20)) (fun _ hk => hk.2) (.slice Ao21 t671.length co21)) (fun _ hk => by first | exact ⟨hk.1.1.1.1, hk.1.1.1.2⟩ | (simp only [ne_eq] at hk ⊢; simp only [hk, not_false_eq_true, and_self])))⟩, ⟨kf1 NB654_675.out BK654.out⟩, ⟨kp3 (kf0 BK675.out)⟩, ⟨by exact is84_2 NB0_654.out NB0_675.out HI0.out⟩, ⟨by exact ks2 GW654.out GW675.out HK.out⟩, ⟨by exact bs3 (IsS84.ge HI0.out) GE654.out GE675.out HB.out⟩⟩
 case round =>
  clear H'
  try clear c1
  try clear p2
  try clear c7
  try clear c8
  try clear c9
  try clear c17
  try clear c18
  obtain ⟨x6_1, x1001_1, x676000_1, x676001_1, x676002_1, u676000, u676001, u676002, rfl, HA, HK1, HO_676000, HO_676001, HO_676002, BK654, BK675, HI0, HK, HB⟩ := hrel
  cases gk with
  | zero => exact absurd HA.out (by simp [spec_l1Draw.l0])
  | succ k1 =>
   have H := HA.out
   clear HA
   simp only [spec_l1Draw.l0] at H
   by_cases c22 : x6_1 < t658
   ·rw [if_pos c22] at H
    have c22b0 : decide (x6_1 < t658) = true := decide_eq_true c22
    clear c22
    replace H := Option.bind_eq_some_iff.mp H
    obtain ⟨⟨t676, t677⟩, A230, H⟩ := H
    replace H : (if 0 ≤ x6_1 then (if x6_1 < (x676000_1.length : Int) then ((some (x676000_1.set (x6_1 : Int).toNat (wrap64 (t676 - 1)) : List Int)).bind fun y678 => ((spec_l13Rd_pick.f k1 s0_0 t677 (wrap64 (t658 + 2))).bind fun bt679 => (if x6_1 < (x676001_1.length : Int) then ((some (x676001_1.set (x6_1 : Int).toNat (wrap64 (bt679.1 - 2)) : List Int)).bind fun y681 => (if (rd y678 x6_1) ≥ t658 then ((some (y678.set (x6_1 : Int).toNat (-1) : List Int)).bind fun y683 => (if (rd y681 x6_1) < (-1) then (spec_l1Draw.l0 k1 t658 (wrap64 (x6_1 + 1)) s0_0 bt679.2 y683 (y681.set (x6_1 : Int).toNat (-1)) x676002_1) else (spec_l1Draw.l0 k1 t658 (wrap64 (x6_1 + 1)) s0_0 bt679.2 y683 y681 x676002_1))) else (if (wrap64 (bt679.1 - 2)) < (-1) then (spec_l1Draw.l0 k1 t658 (wrap64 (x6_1 + 1)) s0_0 bt679.2 y678 (y681.set (x6_1 : Int).toNat (-1)) x676002_1) else (spec_l1Draw.l0 k1 t658 (wrap64 (x6_1 + 1)) s0_0 bt679.2 y678 y681 x676002_1)))) else (none)))) else (none)) else (none)) = some (r1, r2, r3, r4) := H
    have A23 := am A230
    clear A230
    by_cases c24 : 0 ≤ x6_1
    ·rw [if_pos c24] at H
     have c24b0 : decide (0 ≤ x6_1) = true := decide_eq_true c24
     clear c24
     by_cases c25 : x6_1 < (x676000_1.length : Int)
     ·rw [if_pos c25] at H
      have c25b0 : decide (x6_1 < (x676000_1.length : Int)) = true := decide_eq_true c25
      clear c25
      obtain ⟨y678, hy678⟩ : ∃ y_ : List Int, y_ = (x676000_1.set (x6_1 : Int).toNat (wrap64 (t676 - 1))) := ⟨_, rfl⟩
      replace H : ((spec_l13Rd_pick.f k1 s0_0 t677 (wrap64 (t658 + 2))).bind fun bt679 => (if x6_1 < (x676001_1.length : Int) then ((some (x676001_1.set (x6_1 : Int).toNat (wrap64 (bt679.1 - 2)) : List Int)).bind fun y681 => (if (rd y678 x6_1) ≥ t658 then ((some (y678.set (x6_1 : Int).toNat (-1) : List Int)).bind fun y683 => (if (rd y681 x6_1) < (-1) then (spec_l1Draw.l0 k1 t658 (wrap64 (x6_1 + 1)) s0_0 bt679.2 y683 (y681.set (x6_1 : Int).toNat (-1)) x676002_1) else (spec_l1Draw.l0 k1 t658 (wrap64 (x6_1 + 1)) s0_0 bt679.2 y683 y681 x676002_1))) else (if (wrap64 (bt679.1 - 2)) < (-1) then (spec_l1Draw.l0 k1 t658 (wrap64 (x6_1 + 1)) s0_0 bt679.2 y678 (y681.set (x6_1 : Int).toNat (-1)) x676002_1) else (spec_l1Draw.l0 k1 t658 (wrap64 (x6_1 + 1)) s0_0 bt679.2 y678 y681 x676002_1)))) else (none))) = some (r1, r2, r3, r4) := by first | (rw [hy678]; with_reducible exact H) | (have H2_ := (Option.bind_some _ _).symm.trans H; rw [hy678]; with_reducible exact H2_) | (have H2_ := (Option.bind_some _ _).symm.trans H; with_reducible exact H2_) | with_reducible exact H | (rw [hy678]; exact H) | exact H
      have Ny678 := am hy678
      clear hy678
      replace H := Option.bind_eq_some_iff.mp H
      obtain ⟨⟨t679, t680⟩, A270, H⟩ := H
      replace H : (if x6_1 < (x676001_1.length : Int) then ((some (x676001_1.set (x6_1 : Int).toNat (wrap64 (t679 - 2)) : List Int)).bind fun y681 => (if (rd y678 x6_1) ≥ t658 then ((some (y678.set (x6_1 : Int).toNat (-1) : List Int)).bind fun y683 => (if (rd y681 x6_1) < (-1) then (spec_l1Draw.l0 k1 t658 (wrap64 (x6_1 + 1)) s0_0 t680 y683 (y681.set (x6_1 : Int).toNat (-1)) x676002_1) else (spec_l1Draw.l0 k1 t658 (wrap64 (x6_1 + 1)) s0_0 t680 y683 y681 x676002_1))) else (if (wrap64 (t679 - 2)) < (-1) then (spec_l1Draw.l0 k1 t658 (wrap64 (x6_1 + 1)) s0_0 t680 y678 (y681.set (x6_1 : Int).toNat (-1)) x676002_1) else (spec_l1Draw.l0 k1 t658 (wrap64 (x6_1 + 1)) s0_0 t680 y678 y681 x676002_1)))) else (none)) = some (r1, r2, r3, r4) := H
      have A27 := am A270
      clear A270
      by_cases c28 : x6_1 < (x676001_1.length : Int)
      ·rw [if_pos c28] at H
       have c28b0 : decide (x6_1 < (x676001_1.length : Int)) = true := decide_eq_true c28
       clear c28
       obtain ⟨y681, hy681⟩ : ∃ y_ : List Int, y_ = (x676001_1.set (x6_1 : Int).toNat (wrap64 (t679 - 2))) := ⟨_, rfl⟩
       replace H : (if (rd y678 x6_1) ≥ t658 then ((some (y678.set (x6_1 : Int).toNat (-1) : List Int)).bind fun y683 => (if (rd y681 x6_1) < (-1) then (spec_l1Draw.l0 k1 t658 (wrap64 (x6_1 + 1)) s0_0 t680 y683 (y681.set (x6_1 : Int).toNat (-1)) x676002_1) else (spec_l1Draw.l0 k1 t658 (wrap64 (x6_1 + 1)) s0_0 t680 y683 y681 x676002_1))) else (if (wrap64 (t679 - 2)) < (-1) then (spec_l1Draw.l0 k1 t658 (wrap64 (x6_1 + 1)) s0_0 t680 y678 (y681.set (x6_1 : Int).toNat (-1)) x676002_1) else (spec_l1Draw.l0 k1 t658 (wrap64 (x6_1 + 1)) s0_0 t680 y678 y681 x676002_1))) = some (r1, r2, r3, r4) := by first | (rw [hy681]; with_reducible exact H) | (have H2_ := (Option.bind_some _ _).symm.trans H; rw [hy681]; with_reducible exact H2_) | (have H2_ := (Option.bind_some _ _).symm.trans H; with_reducible exact H2_) | with_reducible exact H | (rw [hy681]; exact H) | exact H
       have Ny681 := am hy681
       clear hy681
       by_cases c30 : (rd y678 x6_1) ≥ t658
       ·rw [if_pos c30] at H
        have c30b0 : decide (t658 ≤ (rd y678 x6_1)) = true := decide_eq_true c30
        clear c30
        obtain ⟨y683, hy683⟩ : ∃ y_ : List Int, y_ = (y678.set (x6_1 : Int).toNat (-1)) := ⟨_, rfl⟩
        replace H : (if (rd y681 x6_1) < (-1) then (spec_l1Draw.l0 k1 t658 (wrap64 (x6_1 + 1)) s0_0 t680 y683 (y681.set (x6_1 : Int).toNat (-1)) x676002_1) else (spec_l1Draw.l0 k1 t658 (wrap64 (x6_1 + 1)) s0_0 t680 y683 y681 x676002_1)) = some (r1, r2, r3, r4) := by first | (rw [hy683]; with_reducible exact H) | (have H2_ := (Option.bind_some _ _).symm.trans H; rw [hy683]; with_reducible exact H2_) | (have H2_ := (Option.bind_some _ _).symm.trans H; with_reducible exact H2_) | with_reducible exact H | (rw [hy683]; exact H) | exact H
        have Ny683 := am hy683
        clear hy683
        by_cases c32 : (rd y681 x6_1) < (-1)
        ·rw [if_pos c32] at H
         have c32b0 : decide ((rd y681 x6_1) < (-1)) = true := decide_eq_true c32
         clear c32
         obtain ⟨y685, hy685⟩ : ∃ y_ : List Int, y_ = (y681.set (x6_1 : Int).toNat (-1)) := ⟨_, rfl⟩
         replace H : (spec_l1Draw.l0 k1 t658 (wrap64 (x6_1 + 1)) s0_0 t680 y683 y685 x676002_1) = some (r1, r2, r3, r4) := by first | (rw [hy685]; with_reducible exact H) | (have H2_ := (Option.bind_some _ _).symm.trans H; rw [hy685]; with_reducible exact H2_) | (have H2_ := (Option.bind_some _ _).symm.trans H; with_reducible exact H2_) | with_reducible exact H | (rw [hy685]; exact H) | exact H
         have Ny685 := am hy685
         clear hy685
         have H' := am H
         clear H
         try go_wp2
         replace HO_676000 := am (Kd.R_drew HO_676000.out)
         replace HO_676001 := am (Kd.R_drew HO_676001.out)
         replace HO_676002 := am (Kd.R_drew HO_676002.out)
         replace BK654 := am (blk_drew BK654.out)
         replace BK675 := am (blk_drew BK675.out)
         replace HI0 := am (IsS84.drew HI0.out)
         replace HK := am (keep_drew HK.out)
         replace HB := am (below_drew1 HB.out)
         refine start_ (n := 10) (S := fun w' => w'.cell? ⟨gb675, 0, none⟩ = some (u676000) ∧ w'.cell? ⟨gb675, 1, none⟩ = some (u676001) ∧ w'.cell? ⟨gb675, 2, none⟩ = some (u676002)) (ds := [9]) #[false, false, false, false, false, false, false, false, false, false] (by kernel_rfl) rfl rfl ⟨(blk_cell BK675.out 0).trans rfl, (blk_cell BK675.out 1).trans rfl, (blk_cell BK675.out 2).trans rfl⟩ (fun hHeld => ?_); refine with_tabW spec_l1Draw.tab6 spec_l1Draw.bits6 (fun HT_ HW_ => ?_)
         generalize wr.drew = w34 at HO_676000 HO_676001 HO_676002 BK654 BK675 HI0 HK HB hHeld ⊢
         refine pure_ (i := 0) (N := some 24) (v := ?_) (a' := ?_) #[true, false, false, false, false, false, false, false, false, false] rfl rfl (any_of HT_.out (by kernel_rfl)) (fun _ _ _ h => h) (Or.inl ⟨by rfl, ?_⟩) ?_ ?_
         rotate_left
         ·intro w'
          go_simp
          with_reducible rfl
         rotate_left
         ·simp only [Act.put, List.setIfInBounds_toArray, List.set_cons_zero, List.set_cons_succ, i64_w, i32_w]
          rfl
         refine pure_ (i := 2) (N := some 26) (v := ?_) (a' := ?_) #[true, false, true, false, false, false, false, false, false, false] rfl rfl (any_of HT_.out (by kernel_rfl)) (fun _ _ _ h => h) (Or.inl ⟨by rfl, ?_⟩) ?_ ?_
         rotate_left
         ·intro w'
          go_simp
          with_reducible rfl
         rotate_left
         ·simp only [Act.put, List.setIfInBounds_toArray, List.set_cons_zero, List.set_cons_succ, i64_w, i32_w]
          rfl
         refine pure_ (i := 3) (N := some 27) (v := ?_) (a' := ?_) #[true, false, true, true, false, false, false, false, false, false] rfl rfl (any_of HT_.out (by kernel_rfl)) (fun _ _ _ h => h) (Or.inl ⟨by rfl, ?_⟩) ?_ ?_
         rotate_left
         ·intro w'
          go_simp
          with_reducible rfl
         rotate_left
         ·simp only [Act.put, List.setIfInBounds_toArray, List.set_cons_zero, List.set_cons_succ, i64_w, i32_w]
          rfl
         refine pure_ (i := 4) (N := some 28) (v := ?_) (a' := ?_) #[true, false, true, true, true, false, false, false, false, false] rfl rfl (any_of HT_.out (by kernel_rfl)) (fun _ _ _ h => h) (Or.inl ⟨by rfl, ?_⟩) ?_ ?_
         rotate_left
         ·intro w'
          go_simp
          with_reducible rfl
         rotate_left
         ·simp only [Act.put, List.setIfInBounds_toArray, List.set_cons_zero, List.set_cons_succ, i64_w, i32_w]
          rfl
         refine pure_ (i := 5) (N := some 29) (v := ?_) (a' := ?_) #[true, false, true, true, true, true, false, false, false, false] rfl rfl (any_of HT_.out (by kernel_rfl)) (fun _ _ _ h => h) (Or.inl ⟨by rfl, ?_⟩) ?_ ?_
         rotate_left
         ·intro w'
          go_simp
          with_reducible rfl
         rotate_left
         ·simp only [Act.put, List.setIfInBounds_toArray, List.set_cons_zero, List.set_cons_succ, i64_w, i32_w]
          rfl
         refine take_ (i := 1) (N := some 25) (v := ?_) (a' := ?_) #[true, true, true, true, true, true, false, false, false, false] rfl rfl (take_ofW HT_.out HW_.out (by kernel_rfl)) (fun _ _ _ h => h) (Or.inl ⟨by rfl, ?_⟩) hHeld ?_ ?_
         rotate_left
         ·rintro w' ⟨s0, s1, s2⟩
          go_simp
          with_reducible rfl
         rotate_left
         ·simp only [Act.put, List.setIfInBounds_toArray, List.set_cons_zero, List.set_cons_succ, i64_w, i32_w]
          rfl
         refine one_ (i := 6) (N := some 30) #[true, true, true, true, true, true, true, false, false, false] rfl rfl (one_of HT_.out (by kernel_rfl)) (by decide) (fun K hK => ?_)
         refine goes_ Try.func74 (by kernel_rfl) rfl #[.pointer (some ⟨g, 0, none⟩), .int .i64 (wrap64 (t658 + 2))] (by rfl) rfl rfl (by (try simp only [List.map_toArray, List.map_cons, List.map_nil]); first | done | rfl | (simp only [List.length_drop, List.length_take]; rfl)) ?_
         with_reducible refine (spec_l13Rd_pick.calls k1 g s0_0 x1001_1 (wrap64 (t658 + 2)) t676 t677 w0 _ ?side1 ?side2 A23.out).mono ?_
         (case side1 => exact is84_2 NB0_654.out NB0_675.out HI0.out)
         (case side2 => exact bs3 (IsS84.ge HI0.out) GE654.out GE675.out HB.out)
         rintro e w35 ⟨rfl, hi, hb, hk⟩
         refine ⟨_, rfl, ?_⟩
         replace HO_676000 := am (Kd.R_mono (Kd.R_keep (IsS84.apart (show IsS84 w0 _ g s0_0 x1001_1 from by exact is84_2 NB0_654.out NB0_675.out HI0.out) (rl HO_676000.out) (by decide)) hk (fun _ h => h.2)) (fun _ h => h.1))
         replace HO_676001 := am (Kd.R_mono (Kd.R_keep (IsS84.apart (show IsS84 w0 _ g s0_0 x1001_1 from by exact is84_2 NB0_654.out NB0_675.out HI0.out) (rl HO_676001.out) (by decide)) hk (fun _ h => h.2)) (fun _ h => h.1))
         replace HO_676002 := am (Kd.R_mono (Kd.R_keep (IsS84.apart (show IsS84 w0 _ g s0_0 x1001_1 from by exact is84_2 NB0_654.out NB0_675.out HI0.out) (rl HO_676002.out) (by decide)) hk (fun _ h => h.2)) (fun _ h => h.1))
         replace BK654 := kb hk BK654 NB654_0
         replace BK675 := kb hk BK675 NB675_0
         replace HK := am (KeepBut.trans (ks2 GW654.out GW675.out HK.out) hk (.inl rfl))
         replace HB := am (hb)
         replace HI0 := am (hi)
         (try clear hb hk hi)
         have p26 : 0 ≤ (x6_1 : Int) := of_decide_eq_true (by first | (with_reducible assumption) | assumption)
         have q26 : (x6_1 : Int) < ((x676000_1.length : Int) : Int) := of_decide_eq_true (by first | (with_reducible assumption) | assumption)
         obtain ⟨go26, co26, eo26, gb26, gl26, cl26, HG26⟩ := Kd.R_form HO_676000.out (by first | omega | (have hz_ := (Kd.R_reads' HO_676000.out).1; omega))
         (first | cases eo26 | (injection eo26 with ea_ en_ ec_; (first | subst ea_ | (injection ea_ with ea_; subst ea_)); subst ec_; clear en_))
         have GB26 := am gb26
         have GG26 := am HG26
         clear gb26 gl26 HG26
         obtain ⟨hx26_0, hf26_0⟩ := Kd.R_celln 0 HO_676000.out (x6_1 : Int) p26 q26
         replace p26 := eq_true p26
         replace q26 := eq_true q26
         have HN0_go26 := am (show g ≠ go26 from by have h_ := IsS84.own_ne HI0.out HO_676000.out (by decide); intro e_; exact h_ (by rw [e_]; rfl))
         have HP36 := Kd.R_putn HO_676000.out (x6_1 : Int) (wrap64 (t676 - 1))
         rw [← Ny678.out] at HP36
         have HQ36 := am HP36
         clear HP36
         refine hK.out _ _ ⟨(blk_cell BK675.out 0).trans rfl, (blk_cell BK675.out 1).trans rfl, (blk_cell BK675.out 2).trans rfl⟩ (fun hHeld => ?_)
         clear hK K
         refine norm_ (a' := ?_) ?_ ?_
         rotate_left
         ·show Act.put _ (some 30) _ = _
          simp only [Act.put, List.setIfInBounds_toArray, List.set_cons_zero, List.set_cons_succ, i64_w, i32_w]
          rfl
         refine pure_ (i := 7) (N := some 31) (v := ?_) (a' := ?_) #[true, true, true, true, true, true, true, true, false, false] rfl rfl (any_of HT_.out (by kernel_rfl)) (fun _ _ _ h => h) (Or.inl ⟨by rfl, ?_⟩) ?_ ?_
         rotate_left
         ·intro w'
          go_simp
          with_reducible rfl
         rotate_left
         ·simp only [Act.put, List.setIfInBounds_toArray, List.set_cons_zero, List.set_cons_succ, i64_w, i32_w]
          rfl
         refine pure_ (i := 8) (N := some 32) (v := ?_) (a' := ?_) #[true, true, true, true, true, true, true, true, true, false] rfl rfl (any_of HT_.out (by kernel_rfl)) (fun _ _ _ h => h) (Or.inl ⟨by rfl, ?_⟩) ?_ ?_
         rotate_left
         ·intro w'
          go_simp
          with_reducible rfl
         rotate_left
         ·simp only [Act.put, List.setIfInBounds_toArray, List.set_cons_zero, List.set_cons_succ, i64_w, i32_w]
          rfl
         refine last_ (i := 9) (N := none) #[true, true, true, true, true, true, true, true, true, true] rfl rfl (one_of HT_.out (by kernel_rfl)) (by decide) (fun K hK => ?_)
         refine skip_ (w1 := ?_) (by rfl) rfl ?_ ?_
         rotate_left
         ·go_simp
          rfl
         refine hK.out _ _ ?_
         clear hK K
         refine done_ (done_of HT_.out (by kernel_rfl)) ?_
         try go_wp2
         have n0_ : Aside0 (Kd.R (Kd.int .i64) 3 (w35.setCell ⟨go26, (x6_1 : Int).toNat, none⟩ (.int .i64 (wrap64 (t676 - 1)))) w.heap.size (fun k_ => some k_ ≠ (u676001 : Value).ownBlock ∧ some k_ ≠ (u676002 : Value).ownBlock) (.slice (some ⟨go26, 0, none⟩) x676000_1.length co26) y678) := ⟨rl HQ36.out⟩
         have n1_ : Aside0 (Kd.R (Kd.int .i64) 3 (w35.setCell ⟨go26, (x6_1 : Int).toNat, none⟩ (.int .i64 (wrap64 (t676 - 1)))) w.heap.size (fun k_ => some k_ ≠ (.slice (some ⟨go26, 0, none⟩) x676000_1.length co26 : Value).ownBlock ∧ some k_ ≠ (u676002 : Value).ownBlock) u676001 x676001_1) := ⟨rl (Kd.R_mono (Kd.R_far (p := ⟨go26, (x6_1 : Int).toNat, none⟩) (Kd.R_mono HO_676001.out (fun k_ hk => (⟨hk, fun e_ => hk.1 (by rw [e_]; rfl)⟩ : _ ∧ k_ ≠ go26))) (fun _ hk => hk.2) (.int .i64 (wrap64 (t676 - 1)))) (fun _ hk => by first | exact ⟨hk.1.1, hk.1.2⟩ | (simp only [ne_eq] at hk ⊢; simp only [hk, not_false_eq_true, and_self])))⟩
         have n2_ : Aside0 (Kd.R (Kd.int .i64) 3 (w35.setCell ⟨go26, (x6_1 : Int).toNat, none⟩ (.int .i64 (wrap64 (t676 - 1)))) w.heap.size (fun k_ => some k_ ≠ (.slice (some ⟨go26, 0, none⟩) x676000_1.length co26 : Value).ownBlock ∧ some k_ ≠ (u676001 : Value).ownBlock) u676002 x676002_1) := ⟨rl (Kd.R_mono (Kd.R_far (p := ⟨go26, (x6_1 : Int).toNat, none⟩) (Kd.R_mono HO_676002.out (fun k_ hk => (⟨hk, fun e_ => hk.1 (by rw [e_]; rfl)⟩ : _ ∧ k_ ≠ go26))) (fun _ hk => hk.2) (.int .i64 (wrap64 (t676 - 1)))) (fun _ hk => by first | exact ⟨hk.1.1, hk.1.2⟩ | (simp only [ne_eq] at hk ⊢; simp only [hk, not_false_eq_true, and_self])))⟩
         have n3_ : Aside0 ((w35.setCell ⟨go26, (x6_1 : Int).toNat, none⟩ (.int .i64 (wrap64 (t676 - 1)))).heap[gb654]? = some (.cells #[.slice none 0 0, .slice none 0 0, .slice none 0 0] 28 (0, 0))) := ⟨by (with_reducible repeat (first | refine blk_drewN ?_ _ | refine blk_drew ?_ | refine blk_alloc ?_ _)); refine blk_far ?_ (by have h_ := Kd.R_ne HO_676000.out BK654.out (by decide); intro e_; exact h_ (by rw [e_]; rfl)) _; (with_reducible repeat (first | refine blk_drewN ?_ _ | refine blk_drew ?_ | refine blk_alloc ?_ _)); exact BK654.out⟩
         have n4_ : Aside0 ((w35.setCell ⟨go26, (x6_1 : Int).toNat, none⟩ (.int .i64 (wrap64 (t676 - 1)))).heap[gb675]? = some (.cells #[.slice (some ⟨go26, 0, none⟩) x676000_1.length co26, u676001, u676002] 28 (0, 0))) := ⟨by (with_reducible repeat (first | refine blk_drewN ?_ _ | refine blk_drew ?_ | refine blk_alloc ?_ _)); refine blk_far ?_ (by have h_ := Kd.R_ne HO_676000.out BK675.out (by decide); intro e_; exact h_ (by rw [e_]; rfl)) _; (with_reducible repeat (first | refine blk_drewN ?_ _ | refine blk_drew ?_ | refine blk_alloc ?_ _)); exact BK675.out⟩
         have n5_ : Aside0 (IsS84 w0 (w35.setCell ⟨go26, (x6_1 : Int).toNat, none⟩ (.int .i64 (wrap64 (t676 - 1)))) g s0_0 t677) := ⟨by exact is84_3 HN0_go26.out NB0_654.out NB0_675.out HI0.out⟩
         have n6_ : Aside0 (KeepBut w (w35.setCell ⟨go26, (x6_1 : Int).toNat, none⟩ (.int .i64 (wrap64 (t676 - 1)))) g none) := ⟨by exact ks3 GB26.out GW654.out GW675.out HK.out⟩
         have n7_ : Aside0 (Below w0.heap.size w0 (w35.setCell ⟨go26, (x6_1 : Int).toNat, none⟩ (.int .i64 (wrap64 (t676 - 1))))) := ⟨by repeat (first | (with_reducible first | exact HB.out | apply below_alloc | apply pw_below_drewN | apply below_drew1 | refine below_set ?_ (Nat.le_trans HL.out GB26.out) | refine below_set ?_ (IsS84.ge HI0.out) | refine below_set ?_ GE654.out | refine below_set ?_ GE675.out) | exact HB.out)⟩
         (try clear HO_676000)
         (try clear HO_676001)
         (try clear HO_676002)
         (try clear BK654)
         (try clear BK675)
         (try clear HI0)
         (try clear HK)
         (try clear HB)
         generalize (w35.setCell ⟨go26, (x6_1 : Int).toNat, none⟩ (.int .i64 (wrap64 (t676 - 1)))) = w37 at n0_ n1_ n2_ n3_ n4_ n5_ n6_ n7_ ⊢
         have HO_676000 := n0_
         have HO_676001 := n1_
         have HO_676002 := n2_
         have BK654 := n3_
         have BK675 := n4_
         have HI0 := n5_
         have HK := n6_
         have HB := n7_
         clear n0_ n1_ n2_ n3_ n4_ n5_ n6_ n7_
         replace HO_676000 := am (Kd.R_drew HO_676000.out)
         replace HO_676001 := am (Kd.R_drew HO_676001.out)
         replace HO_676002 := am (Kd.R_drew HO_676002.out)
         replace BK654 := am (blk_drew BK654.out)
         replace BK675 := am (blk_drew BK675.out)
         replace HI0 := am (IsS84.drew HI0.out)
         replace HK := am (keep_drew HK.out)
         replace HB := am (below_drew1 HB.out)
         refine start_ (n := 10) (S := fun w' => w'.cell? ⟨gb675, 0, none⟩ = some (.slice (some ⟨go26, 0, none⟩) x676000_1.length co26) ∧ w'.cell? ⟨gb675, 1, none⟩ = some (u676001) ∧ w'.cell? ⟨gb675, 2, none⟩ = some (u676002)) (ds := [9]) #[false, false, false, false, false, false, false, false, false, false] (by kernel_rfl) rfl rfl ⟨(blk_cell BK675.out 0).trans rfl, (blk_cell BK675.out 1).trans rfl, (blk_cell BK675.out 2).trans rfl⟩ (fun hHeld => ?_); refine with_tabW spec_l1Draw.tab7 spec_l1Draw.bits7 (fun HT_ HW_ => ?_)
         generalize w37.drew = w38 at HO_676000 HO_676001 HO_676002 BK654 BK675 HI0 HK HB HQ36 hHeld ⊢
         refine pure_ (i := 0) (N := some 33) (v := ?_) (a' := ?_) #[true, false, false, false, false, false, false, false, false, false] rfl rfl (any_of HT_.out (by kernel_rfl)) (fun _ _ _ h => h) (Or.inl ⟨by rfl, ?_⟩) ?_ ?_
         rotate_left
         ·intro w'
          go_simp
          with_reducible rfl
         rotate_left
         ·simp only [Act.put, List.setIfInBounds_toArray, List.set_cons_zero, List.set_cons_succ, i64_w, i32_w]
          rfl
         refine pure_ (i := 2) (N := some 35) (v := ?_) (a' := ?_) #[true, false, true, false, false, false, false, false, false, false] rfl rfl (any_of HT_.out (by kernel_rfl)) (fun _ _ _ h => h) (Or.inl ⟨by rfl, ?_⟩) ?_ ?_
         rotate_left
         ·intro w'
          go_simp
          with_reducible rfl
         rotate_left
         ·simp only [Act.put, List.setIfInBounds_toArray, List.set_cons_zero, List.set_cons_succ, i64_w, i32_w]
          rfl
         refine pure_ (i := 3) (N := some 36) (v := ?_) (a' := ?_) #[true, false, true, true, false, false, false, false, false, false] rfl rfl (any_of HT_.out (by kernel_rfl)) (fun _ _ _ h => h) (Or.inl ⟨by rfl, ?_⟩) ?_ ?_
         rotate_left
         ·intro w'
          go_simp
          with_reducible rfl
         rotate_left
         ·simp only [Act.put, List.setIfInBounds_toArray, List.set_cons_zero, List.set_cons_succ, i64_w, i32_w]
          rfl
         refine pure_ (i := 4) (N := some 37) (v := ?_) (a' := ?_) #[true, false, true, true, true, false, false, false, false, false] rfl rfl (any_of HT_.out (by kernel_rfl)) (fun _ _ _ h => h) (Or.inl ⟨by rfl, ?_⟩) ?_ ?_
         rotate_left
         ·intro w'
          go_simp
          with_reducible rfl
         rotate_left
         ·simp only [Act.put, List.setIfInBounds_toArray, List.set_cons_zero, List.set_cons_succ, i64_w, i32_w]
          rfl
         refine pure_ (i := 5) (N := some 38) (v := ?_) (a' := ?_) #[true, false, true, true, true, true, false, false, false, false] rfl rfl (any_of HT_.out (by kernel_rfl)) (fun _ _ _ h => h) (Or.inl ⟨by rfl, ?_⟩) ?_ ?_
         rotate_left
         ·intro w'
          go_simp
          with_reducible rfl
         rotate_left
         ·simp only [Act.put, List.setIfInBounds_toArray, List.set_cons_zero, List.set_cons_succ, i64_w, i32_w]
          rfl
         refine take_ (i := 1) (N := some 34) (v := ?_) (a' := ?_) #[true, true, true, true, true, true, false, false, false, false] rfl rfl (take_ofW HT_.out HW_.out (by kernel_rfl)) (fun _ _ _ h => h) (Or.inl ⟨by rfl, ?_⟩) hHeld ?_ ?_
         rotate_left
         ·rintro w' ⟨s0, s1, s2⟩
          go_simp
          with_reducible rfl
         rotate_left
         ·simp only [Act.put, List.setIfInBounds_toArray, List.set_cons_zero, List.set_cons_succ, i64_w, i32_w]
          rfl
         refine one_ (i := 6) (N := some 39) #[true, true, true, true, true, true, true, false, false, false] rfl rfl (one_of HT_.out (by kernel_rfl)) (by decide) (fun K hK => ?_)
         refine goes_ Try.func74 (by kernel_rfl) rfl #[.pointer (some ⟨g, 0, none⟩), .int .i64 (wrap64 (t658 + 2))] (by rfl) rfl rfl (by (try simp only [List.map_toArray, List.map_cons, List.map_nil]); first | done | rfl | (simp only [List.length_drop, List.length_take]; rfl)) ?_
         with_reducible refine (spec_l13Rd_pick.calls k1 g s0_0 t677 (wrap64 (t658 + 2)) t679 t680 w0 _ ?side1 ?side2 A27.out).mono ?_
         (case side1 => exact is84_2 NB0_654.out NB0_675.out HI0.out)
         (case side2 => exact bs3 (IsS84.ge HI0.out) GE654.out GE675.out HB.out)
         rintro e w39 ⟨rfl, hi, hb, hk⟩
         refine ⟨_, rfl, ?_⟩
         replace HO_676000 := am (Kd.R_mono (Kd.R_keep (IsS84.apart (show IsS84 w0 _ g s0_0 t677 from by exact is84_2 NB0_654.out NB0_675.out HI0.out) (rl HO_676000.out) (by decide)) hk (fun _ h => h.2)) (fun _ h => h.1))
         replace HO_676001 := am (Kd.R_mono (Kd.R_keep (IsS84.apart (show IsS84 w0 _ g s0_0 t677 from by exact is84_2 NB0_654.out NB0_675.out HI0.out) (rl HO_676001.out) (by decide)) hk (fun _ h => h.2)) (fun _ h => h.1))
         replace HO_676002 := am (Kd.R_mono (Kd.R_keep (IsS84.apart (show IsS84 w0 _ g s0_0 t677 from by exact is84_2 NB0_654.out NB0_675.out HI0.out) (rl HO_676002.out) (by decide)) hk (fun _ h => h.2)) (fun _ h => h.1))
         replace BK654 := kb hk BK654 NB654_0
         replace BK675 := kb hk BK675 NB675_0
         replace HK := am (KeepBut.trans (ks2 GW654.out GW675.out HK.out) hk (.inl rfl))
         replace HB := am (hb)
         replace HI0 := am (hi)
         (try clear hb hk hi)
         have p29 : 0 ≤ (x6_1 : Int) := of_decide_eq_true (by first | (with_reducible assumption) | assumption)
         have q29 : (x6_1 : Int) < ((x676001_1.length : Int) : Int) := of_decide_eq_true (by first | (with_reducible assumption) | assumption)
         obtain ⟨go29, co29, eo29, gb29, gl29, cl29, HG29⟩ := Kd.R_form HO_676001.out (by first | omega | (have hz_ := (Kd.R_reads' HO_676001.out).1; omega))
         (first | cases eo29 | (injection eo29 with ea_ en_ ec_; (first | subst ea_ | (injection ea_ with ea_; subst ea_)); subst ec_; clear en_))
         have GB29 := am gb29
         have GG29 := am HG29
         clear gb29 gl29 HG29
         obtain ⟨hx29_0, hf29_0⟩ := Kd.R_celln 0 HO_676001.out (x6_1 : Int) p29 q29
         replace p29 := eq_true p29
         replace q29 := eq_true q29
         have HN0_go29 := am (show g ≠ go29 from by have h_ := IsS84.own_ne HI0.out HO_676001.out (by decide); intro e_; exact h_ (by rw [e_]; rfl))
         have HP40 := Kd.R_putn HO_676001.out (x6_1 : Int) (wrap64 (t679 - 2))
         rw [← Ny681.out] at HP40
         have HQ40 := am HP40
         clear HP40
         refine hK.out _ _ ⟨(blk_cell BK675.out 0).trans rfl, (blk_cell BK675.out 1).trans rfl, (blk_cell BK675.out 2).trans rfl⟩ (fun hHeld => ?_)
         clear hK K
         refine norm_ (a' := ?_) ?_ ?_
         rotate_left
         ·show Act.put _ (some 39) _ = _
          simp only [Act.put, List.setIfInBounds_toArray, List.set_cons_zero, List.set_cons_succ, i64_w, i32_w]
          rfl
         refine pure_ (i := 7) (N := some 40) (v := ?_) (a' := ?_) #[true, true, true, true, true, true, true, true, false, false] rfl rfl (any_of HT_.out (by kernel_rfl)) (fun _ _ _ h => h) (Or.inl ⟨by rfl, ?_⟩) ?_ ?_
         rotate_left
         ·intro w'
          go_simp
          with_reducible rfl
         rotate_left
         ·simp only [Act.put, List.setIfInBounds_toArray, List.set_cons_zero, List.set_cons_succ, i64_w, i32_w]
          rfl
         refine pure_ (i := 8) (N := some 41) (v := ?_) (a' := ?_) #[true, true, true, true, true, true, true, true, true, false] rfl rfl (any_of HT_.out (by kernel_rfl)) (fun _ _ _ h => h) (Or.inl ⟨by rfl, ?_⟩) ?_ ?_
         rotate_left
         ·intro w'
          go_simp
          with_reducible rfl
         rotate_left
         ·simp only [Act.put, List.setIfInBounds_toArray, List.set_cons_zero, List.set_cons_succ, i64_w, i32_w]
          rfl
         refine last_ (i := 9) (N := none) #[true, true, true, true, true, true, true, true, true, true] rfl rfl (one_of HT_.out (by kernel_rfl)) (by decide) (fun K hK => ?_)
         refine skip_ (w1 := ?_) (by rfl) rfl ?_ ?_
         rotate_left
         ·go_simp
          rfl
         refine hK.out _ _ ?_
         clear hK K
         refine done_ (done_of HT_.out (by kernel_rfl)) ?_
         have n0_ : Aside0 (Kd.R (Kd.int .i64) 3 (w39.setCell ⟨go29, (x6_1 : Int).toNat, none⟩ (.int .i64 (wrap64 (t679 - 2)))) w.heap.size (fun k_ => some k_ ≠ (.slice (some ⟨go29, 0, none⟩) x676001_1.length co29 : Value).ownBlock ∧ some k_ ≠ (u676002 : Value).ownBlock) (.slice (some ⟨go26, 0, none⟩) x676000_1.length co26) y678) := ⟨rl (Kd.R_mono (Kd.R_far (p := ⟨go29, (x6_1 : Int).toNat, none⟩) (Kd.R_mono HO_676000.out (fun k_ hk => (⟨hk, fun e_ => hk.1 (by rw [e_]; rfl)⟩ : _ ∧ k_ ≠ go29))) (fun _ hk => hk.2) (.int .i64 (wrap64 (t679 - 2)))) (fun _ hk => by first | exact ⟨hk.1.1, hk.1.2⟩ | (simp only [ne_eq] at hk ⊢; simp only [hk, not_false_eq_true, and_self])))⟩
         have n1_ : Aside0 (Kd.R (Kd.int .i64) 3 (w39.setCell ⟨go29, (x6_1 : Int).toNat, none⟩ (.int .i64 (wrap64 (t679 - 2)))) w.heap.size (fun k_ => some k_ ≠ (.slice (some ⟨go26, 0, none⟩) x676000_1.length co26 : Value).ownBlock ∧ some k_ ≠ (u676002 : Value).ownBlock) (.slice (some ⟨go29, 0, none⟩) x676001_1.length co29) y681) := ⟨rl HQ40.out⟩
         have n2_ : Aside0 (Kd.R (Kd.int .i64) 3 (w39.setCell ⟨go29, (x6_1 : Int).toNat, none⟩ (.int .i64 (wrap64 (t679 - 2)))) w.heap.size (fun k_ => some k_ ≠ (.slice (some ⟨go26, 0, none⟩) x676000_1.length co26 : Value).ownBlock ∧ some k_ ≠ (.slice (some ⟨go29, 0, none⟩) x676001_1.length co29 : Value).ownBlock) u676002 x676002_1) := ⟨rl (Kd.R_mono (Kd.R_far (p := ⟨go29, (x6_1 : Int).toNat, none⟩) (Kd.R_mono HO_676002.out (fun k_ hk => (⟨hk, fun e_ => hk.2 (by rw [e_]; rfl)⟩ : _ ∧ k_ ≠ go29))) (fun _ hk => hk.2) (.int .i64 (wrap64 (t679 - 2)))) (fun _ hk => by first | exact ⟨hk.1.1, hk.1.2⟩ | (simp only [ne_eq] at hk ⊢; simp only [hk, not_false_eq_true, and_self])))⟩
         have n3_ : Aside0 ((w39.setCell ⟨go29, (x6_1 : Int).toNat, none⟩ (.int .i64 (wrap64 (t679 - 2)))).heap[gb654]? = some (.cells #[.slice none 0 0, .slice none 0 0, .slice none 0 0] 28 (0, 0))) := ⟨by (with_reducible repeat (first | refine blk_drewN ?_ _ | refine blk_drew ?_ | refine blk_alloc ?_ _)); refine blk_far ?_ (by have h_ := Kd.R_ne HO_676001.out BK654.out (by decide); intro e_; exact h_ (by rw [e_]; rfl)) _; (with_reducible repeat (first | refine blk_drewN ?_ _ | refine blk_drew ?_ | refine blk_alloc ?_ _)); exact BK654.out⟩
         have n4_ : Aside0 ((w39.setCell ⟨go29, (x6_1 : Int).toNat, none⟩ (.int .i64 (wrap64 (t679 - 2)))).heap[gb675]? = some (.cells #[.slice (some ⟨go26, 0, none⟩) x676000_1.length co26, .slice (some ⟨go29, 0, none⟩) x676001_1.length co29, u676002] 28 (0, 0))) := ⟨by (with_reducible repeat (first | refine blk_drewN ?_ _ | refine blk_drew ?_ | refine blk_alloc ?_ _)); refine blk_far ?_ (by have h_ := Kd.R_ne HO_676001.out BK675.out (by decide); intro e_; exact h_ (by rw [e_]; rfl)) _; (with_reducible repeat (first | refine blk_drewN ?_ _ | refine blk_drew ?_ | refine blk_alloc ?_ _)); exact BK675.out⟩
         have n5_ : Aside0 (IsS84 w0 (w39.setCell ⟨go29, (x6_1 : Int).toNat, none⟩ (.int .i64 (wrap64 (t679 - 2)))) g s0_0 t680) := ⟨by exact is84_3 HN0_go29.out NB0_654.out NB0_675.out HI0.out⟩
         have n6_ : Aside0 (KeepBut w (w39.setCell ⟨go29, (x6_1 : Int).toNat, none⟩ (.int .i64 (wrap64 (t679 - 2)))) g none) := ⟨by exact ks3 GB29.out GW654.out GW675.out HK.out⟩
         have n7_ : Aside0 (Below w0.heap.size w0 (w39.setCell ⟨go29, (x6_1 : Int).toNat, none⟩ (.int .i64 (wrap64 (t679 - 2))))) := ⟨by repeat (first | (with_reducible first | exact HB.out | apply below_alloc | apply pw_below_drewN | apply below_drew1 | refine below_set ?_ (Nat.le_trans HL.out GB29.out) | refine below_set ?_ (IsS84.ge HI0.out) | refine below_set ?_ GE654.out | refine below_set ?_ GE675.out) | exact HB.out)⟩
         (try clear HO_676000)
         (try clear HO_676001)
         (try clear HO_676002)
         (try clear BK654)
         (try clear BK675)
         (try clear HI0)
         (try clear HK)
         (try clear HB)
         generalize (w39.setCell ⟨go29, (x6_1 : Int).toNat, none⟩ (.int .i64 (wrap64 (t679 - 2)))) = w41 at n0_ n1_ n2_ n3_ n4_ n5_ n6_ n7_ ⊢
         have HO_676000 := n0_
         have HO_676001 := n1_
         have HO_676002 := n2_
         have BK654 := n3_
         have BK675 := n4_
         have HI0 := n5_
         have HK := n6_
         have HB := n7_
         clear n0_ n1_ n2_ n3_ n4_ n5_ n6_ n7_
         have hnb42 := NB675_654.out
         have hnc42 := NB654_675.out
         have hnb43 := NB675_0.out
         have hnc43 := NB0_675.out
         obtain ⟨hcz44_0, hcz44_1, hcz44_2, hfz44_0, hfz44_1, hfz44_2⟩ := cf3 BK675
         have p682 : 0 ≤ (x6_1 : Int) := of_decide_eq_true (by first | (with_reducible assumption) | assumption)
         have q682 : x6_1 < (y678.length : Int) := (by have h_ : (x6_1 : Int) < ((x676000_1.length : Int) : Int) := of_decide_eq_true (by first | (with_reducible assumption) | assumption); first | (have e_ := (Kd.R_reads' HO_676000.out).1; omega) | simpa only [Ny678.out, List.length_set] using h_)
         have ql682 : ((x6_1 : Int) < ((x676000_1.length : Int) : Int)) = True := eq_true (of_decide_eq_true (by first | (with_reducible assumption) | assumption))
         obtain ⟨ad682, e682, hx682_0⟩ := Kd.at_int (Kd.R_reads' HO_676000.out).2.2 x6_1 p682 q682
         obtain rfl : (⟨go26, 0, none⟩ : Addr) = ad682 := (by injection e682)
         (first | simp only [add_plain] at hx682_0 | simp only [add_at] at hx682_0 | simp only [Addr.add, Nat.zero_add] at hx682_0 | skip)
         replace p682 := eq_true p682
         replace q682 := eq_true q682
         have p31 : 0 ≤ (x6_1 : Int) := of_decide_eq_true (by first | (with_reducible assumption) | assumption)
         have q31 : (x6_1 : Int) < ((x676000_1.length : Int) : Int) := of_decide_eq_true (by first | (with_reducible assumption) | assumption)
         obtain ⟨hx31_0, hf31_0⟩ := Kd.R_celln 0 HO_676000.out (x6_1 : Int) p31 q31
         replace p31 := eq_true p31
         replace q31 := eq_true q31
         obtain ⟨hy45_, hz45_⟩ := Kd.R_celln 0 HO_676000.out (x6_1 : Int) (of_decide_eq_true (by first | (with_reducible assumption) | assumption)) (of_decide_eq_true (by first | (with_reducible assumption) | assumption))
         have HP45 := Kd.R_putg HO_676000.out (x6_1 : Int) (-1)
         try go_wp2_with (first | ((with_reducible refine gate_store (t := 3) (p := 52) rfl ?_); refine store_event (t := 3) (p := 52) (v := ?vo_w46) (w1 := (w41.setCell ⟨go26, (x6_1 : Int).toNat, none⟩ (.int .i64 (-1)))) ?hg ?ho ?hn ?hr ?_; (case ho => rfl); (case hg => rfl); (case hn => rfl); (case hr => first | (go_simp; done) | (go_simp; rfl)); intro w46 hw; have hg : w41.grownBy w46 (some go26) := (by rw [hw]; exact HP45.2); have hp_ : Kd.R (Kd.int .i64) 3 w46 w.heap.size (fun k_ => some k_ ≠ (.slice (some ⟨go29, 0, none⟩) x676001_1.length co29 : Value).ownBlock ∧ some k_ ≠ (u676002 : Value).ownBlock) (.slice (some ⟨go26, 0, none⟩) x676000_1.length co26) y683 := (by rw [hw, Ny683.out]; exact HP45.1); clear HP45; replace HO_676001 := am (Kd.R_after (v := (.slice (some ⟨go26, 0, none⟩) x676000_1.length co26)) (v1 := (.slice (some ⟨go26, 0, none⟩) x676000_1.length co26)) (ok := (fun k_ => some k_ ≠ (u676002 : Value).ownBlock)) (rl (Kd.R_mono HO_676001.out (fun _ hk => by first | exact ⟨hk.2, hk.1⟩ | (simp only [ne_eq] at hk ⊢; simp only [hk, not_false_eq_true, and_self])))) hg (.inl rfl)); replace HO_676002 := am (Kd.R_after (v := (.slice (some ⟨go26, 0, none⟩) x676000_1.length co26)) (v1 := (.slice (some ⟨go26, 0, none⟩) x676000_1.length co26)) (ok := (fun k_ => some k_ ≠ (.slice (some ⟨go29, 0, none⟩) x676001_1.length co29 : Value).ownBlock)) (rl (Kd.R_mono HO_676002.out (fun _ hk => by first | exact ⟨hk.2, hk.1⟩ | (simp only [ne_eq] at hk ⊢; simp only [hk, not_false_eq_true, and_self])))) hg (.inl rfl)); replace BK654 := am (blk_grown (g := gb654) (o := .cells #[.slice none 0 0, .slice none 0 0, .slice none 0 0] 28 (0, 0)) (kl BK654.out) hg (Kd.R_ne HO_676000.out BK654.out (by decide))); replace BK675 := am (blk_grown (g := gb675) (o := .cells #[.slice (some ⟨go26, 0, none⟩) x676000_1.length co26, .slice (some ⟨go29, 0, none⟩) x676001_1.length co29, u676002] 28 (0, 0)) (kl BK675.out) hg (Kd.R_ne HO_676000.out BK675.out (by decide))); replace HI0 := am (IsS84.grown (is84_2 NB0_654.out NB0_675.out HI0.out) hg (IsS84.own_ne HI0.out HO_676000.out (by decide))); replace HB := am ((by rw [hw]; exact below_set (HB.out) (Nat.le_trans HL.out GB26.out) : Below w0.heap.size w0 w46)); replace HK := am (KeepBut.trans (ks2 GW654.out GW675.out HK.out) (KeepBut.of_grown hg g) (Kd.R_base2 HO_676000.out)); replace HO_676000 := am (hp_); clear hg hw hp_; obtain ⟨hcz47_0, hcz47_1, hcz47_2, hfz47_0, hfz47_1, hfz47_2⟩ := cf3 BK675; have p684 : 0 ≤ (x6_1 : Int) := of_decide_eq_true (by first | (with_reducible assumption) | assumption); have q684 : x6_1 < (y681.length : Int) := (by have h_ : (x6_1 : Int) < ((x676001_1.length : Int) : Int) := of_decide_eq_true (by first | (with_reducible assumption) | assumption); first | (have e_ := (Kd.R_reads' HO_676001.out).1; omega) | simpa only [Ny681.out, List.length_set] using h_); have ql684 : ((x6_1 : Int) < ((x676001_1.length : Int) : Int)) = True := eq_true (of_decide_eq_true (by first | (with_reducible assumption) | assumption)); obtain ⟨ad684, e684, hx684_0⟩ := Kd.at_int (Kd.R_reads' HO_676001.out).2.2 x6_1 p684 q684; obtain rfl : (⟨go29, 0, none⟩ : Addr) = ad684 := (by injection e684); (first | simp only [add_plain] at hx684_0 | simp only [add_at] at hx684_0 | simp only [Addr.add, Nat.zero_add] at hx684_0 | skip); replace p684 := eq_true p684; replace q684 := eq_true q684; have p33 : 0 ≤ (x6_1 : Int) := of_decide_eq_true (by first | (with_reducible assumption) | assumption); have q33 : (x6_1 : Int) < ((x676001_1.length : Int) : Int) := of_decide_eq_true (by first | (with_reducible assumption) | assumption); obtain ⟨hx33_0, hf33_0⟩ := Kd.R_celln 0 HO_676001.out (x6_1 : Int) p33 q33; replace p33 := eq_true p33; replace q33 := eq_true q33; obtain ⟨hy48_, hz48_⟩ := Kd.R_celln 0 HO_676001.out (x6_1 : Int) (of_decide_eq_true (by first | (with_reducible assumption) | assumption)) (of_decide_eq_true (by first | (with_reducible assumption) | assumption)); have HP48 := Kd.R_putg HO_676001.out (x6_1 : Int) (-1)) | ((with_reducible refine gate_store (t := 3) (p := 62) rfl ?_); refine store_event (t := 3) (p := 62) (v := ?vo_w49) (w1 := (w46.setCell ⟨go29, (x6_1 : Int).toNat, none⟩ (.int .i64 (-1)))) ?hg ?ho ?hn ?hr ?_; (case ho => rfl); (case hg => rfl); (case hn => rfl); (case hr => first | (go_simp; done) | (go_simp; rfl)); intro w49 hw; have hg : w46.grownBy w49 (some go29) := (by rw [hw]; exact HP48.2); have hp_ : Kd.R (Kd.int .i64) 3 w49 w.heap.size (fun k_ => some k_ ≠ (u676002 : Value).ownBlock ∧ some k_ ≠ (.slice (some ⟨go26, 0, none⟩) x676000_1.length co26 : Value).ownBlock) (.slice (some ⟨go29, 0, none⟩) x676001_1.length co29) y685 := (by rw [hw, Ny685.out]; exact HP48.1); clear HP48; replace HO_676000 := am (Kd.R_after (v := (.slice (some ⟨go29, 0, none⟩) x676001_1.length co29)) (v1 := (.slice (some ⟨go29, 0, none⟩) x676001_1.length co29)) (ok := (fun k_ => some k_ ≠ (u676002 : Value).ownBlock)) (rl (Kd.R_mono HO_676000.out (fun _ hk => by first | exact ⟨hk.2, hk.1⟩ | (simp only [ne_eq] at hk ⊢; simp only [hk, not_false_eq_true, and_self])))) hg (.inl rfl)); replace HO_676002 := am (Kd.R_after (v := (.slice (some ⟨go29, 0, none⟩) x676001_1.length co29)) (v1 := (.slice (some ⟨go29, 0, none⟩) x676001_1.length co29)) (ok := (fun k_ => some k_ ≠ (.slice (some ⟨go26, 0, none⟩) x676000_1.length co26 : Value).ownBlock)) (rl (Kd.R_mono HO_676002.out (fun _ hk => by first | exact ⟨hk.2, hk.1⟩ | (simp only [ne_eq] at hk ⊢; simp only [hk, not_false_eq_true, and_self])))) hg (.inl rfl)); replace BK654 := am (blk_grown (g := gb654) (o := .cells #[.slice none 0 0, .slice none 0 0, .slice none 0 0] 28 (0, 0)) (kl BK654.out) hg (Kd.R_ne HO_676001.out BK654.out (by decide))); replace BK675 := am (blk_grown (g := gb675) (o := .cells #[.slice (some ⟨go26, 0, none⟩) x676000_1.length co26, .slice (some ⟨go29, 0, none⟩) x676001_1.length co29, u676002] 28 (0, 0)) (kl BK675.out) hg (Kd.R_ne HO_676001.out BK675.out (by decide))); replace HI0 := am (IsS84.grown (is84_2 NB0_654.out NB0_675.out HI0.out) hg (IsS84.own_ne HI0.out HO_676001.out (by decide))); replace HB := am ((by rw [hw]; exact below_set (HB.out) (Nat.le_trans HL.out GB29.out) : Below w0.heap.size w0 w49)); replace HK := am (KeepBut.trans (ks2 GW654.out GW675.out HK.out) (KeepBut.of_grown hg g) (Kd.R_base2 HO_676001.out)); replace HO_676001 := am (hp_); clear hg hw hp_))
         go_roundg k1
         case measure => have := HK1.out; omega
         case rel => exact ⟨(wrap64 (x6_1 + 1)), (t680), (y683), (y685), (x676002_1), (.slice (some ⟨go26, 0, none⟩) x676000_1.length co26), (.slice (some ⟨go29, 0, none⟩) x676001_1.length co29), (u676002), (by first | rfl | (simp; done) | (simp [*]; done)), H', ⟨by have := HK1.out; omega⟩, ⟨rl (Kd.R_mono HO_676000.out (fun _ hk => by first | exact ⟨hk.2, hk.1⟩ | (simp only [ne_eq] at hk ⊢; simp only [hk, not_false_eq_true, and_self])))⟩, ⟨rl (Kd.R_mono HO_676001.out (fun _ hk => by first | exact ⟨hk.2, hk.1⟩ | (simp only [ne_eq] at hk ⊢; simp only [hk, not_false_eq_true, and_self])))⟩, ⟨rl HO_676002.out⟩, ⟨kl BK654.out⟩, ⟨kl BK675.out⟩, ⟨by exact is84_2 NB0_654.out NB0_675.out HI0.out⟩, ⟨by exact ks2 GW654.out GW675.out HK.out⟩, ⟨by exact bs3 (IsS84.ge HI0.out) GE654.out GE675.out HB.out⟩⟩
        ·rw [if_neg c32] at H
         have c32b0 : decide ((rd y681 x6_1) < (-1)) = false := decide_eq_false c32
         clear c32
         have H' := am H
         clear H
         try go_wp2
         replace HO_676000 := am (Kd.R_drew HO_676000.out)
         replace HO_676001 := am (Kd.R_drew HO_676001.out)
         replace HO_676002 := am (Kd.R_drew HO_676002.out)
         replace BK654 := am (blk_drew BK654.out)
         replace BK675 := am (blk_drew BK675.out)
         replace HI0 := am (IsS84.drew HI0.out)
         replace HK := am (keep_drew HK.out)
         replace HB := am (below_drew1 HB.out)
         refine start_ (n := 10) (S := fun w' => w'.cell? ⟨gb675, 0, none⟩ = some (u676000) ∧ w'.cell? ⟨gb675, 1, none⟩ = some (u676001) ∧ w'.cell? ⟨gb675, 2, none⟩ = some (u676002)) (ds := [9]) #[false, false, false, false, false, false, false, false, false, false] (by kernel_rfl) rfl rfl ⟨(blk_cell BK675.out 0).trans rfl, (blk_cell BK675.out 1).trans rfl, (blk_cell BK675.out 2).trans rfl⟩ (fun hHeld => ?_); refine with_tabW spec_l1Draw.tab6 spec_l1Draw.bits6 (fun HT_ HW_ => ?_)
         generalize wr.drew = w50 at HO_676000 HO_676001 HO_676002 BK654 BK675 HI0 HK HB hHeld ⊢
         refine pure_ (i := 0) (N := some 24) (v := ?_) (a' := ?_) #[true, false, false, false, false, false, false, false, false, false] rfl rfl (any_of HT_.out (by kernel_rfl)) (fun _ _ _ h => h) (Or.inl ⟨by rfl, ?_⟩) ?_ ?_
         rotate_left
         ·intro w'
          go_simp
          with_reducible rfl
         rotate_left
         ·simp only [Act.put, List.setIfInBounds_toArray, List.set_cons_zero, List.set_cons_succ, i64_w, i32_w]
          rfl
         refine pure_ (i := 2) (N := some 26) (v := ?_) (a' := ?_) #[true, false, true, false, false, false, false, false, false, false] rfl rfl (any_of HT_.out (by kernel_rfl)) (fun _ _ _ h => h) (Or.inl ⟨by rfl, ?_⟩) ?_ ?_
         rotate_left
         ·intro w'
          go_simp
          with_reducible rfl
         rotate_left
         ·simp only [Act.put, List.setIfInBounds_toArray, List.set_cons_zero, List.set_cons_succ, i64_w, i32_w]
          rfl
         refine pure_ (i := 3) (N := some 27) (v := ?_) (a' := ?_) #[true, false, true, true, false, false, false, false, false, false] rfl rfl (any_of HT_.out (by kernel_rfl)) (fun _ _ _ h => h) (Or.inl ⟨by rfl, ?_⟩) ?_ ?_
         rotate_left
         ·intro w'
          go_simp
          with_reducible rfl
         rotate_left
         ·simp only [Act.put, List.setIfInBounds_toArray, List.set_cons_zero, List.set_cons_succ, i64_w, i32_w]
          rfl
         refine pure_ (i := 4) (N := some 28) (v := ?_) (a' := ?_) #[true, false, true, true, true, false, false, false, false, false] rfl rfl (any_of HT_.out (by kernel_rfl)) (fun _ _ _ h => h) (Or.inl ⟨by rfl, ?_⟩) ?_ ?_
         rotate_left
         ·intro w'
          go_simp
          with_reducible rfl
         rotate_left
         ·simp only [Act.put, List.setIfInBounds_toArray, List.set_cons_zero, List.set_cons_succ, i64_w, i32_w]
          rfl
         refine pure_ (i := 5) (N := some 29) (v := ?_) (a' := ?_) #[true, false, true, true, true, true, false, false, false, false] rfl rfl (any_of HT_.out (by kernel_rfl)) (fun _ _ _ h => h) (Or.inl ⟨by rfl, ?_⟩) ?_ ?_
         rotate_left
         ·intro w'
          go_simp
          with_reducible rfl
         rotate_left
         ·simp only [Act.put, List.setIfInBounds_toArray, List.set_cons_zero, List.set_cons_succ, i64_w, i32_w]
          rfl
         refine take_ (i := 1) (N := some 25) (v := ?_) (a' := ?_) #[true, true, true, true, true, true, false, false, false, false] rfl rfl (take_ofW HT_.out HW_.out (by kernel_rfl)) (fun _ _ _ h => h) (Or.inl ⟨by rfl, ?_⟩) hHeld ?_ ?_
         rotate_left
         ·rintro w' ⟨s0, s1, s2⟩
          go_simp
          with_reducible rfl
         rotate_left
         ·simp only [Act.put, List.setIfInBounds_toArray, List.set_cons_zero, List.set_cons_succ, i64_w, i32_w]
          rfl
         refine one_ (i := 6) (N := some 30) #[true, true, true, true, true, true, true, false, false, false] rfl rfl (one_of HT_.out (by kernel_rfl)) (by decide) (fun K hK => ?_)
         refine goes_ Try.func74 (by kernel_rfl) rfl #[.pointer (some ⟨g, 0, none⟩), .int .i64 (wrap64 (t658 + 2))] (by rfl) rfl rfl (by (try simp only [List.map_toArray, List.map_cons, List.map_nil]); first | done | rfl | (simp only [List.length_drop, List.length_take]; rfl)) ?_
         with_reducible refine (spec_l13Rd_pick.calls k1 g s0_0 x1001_1 (wrap64 (t658 + 2)) t676 t677 w0 _ ?side1 ?side2 A23.out).mono ?_
         (case side1 => exact is84_2 NB0_654.out NB0_675.out HI0.out)
         (case side2 => exact bs3 (IsS84.ge HI0.out) GE654.out GE675.out HB.out)
         rintro e w51 ⟨rfl, hi, hb, hk⟩
         refine ⟨_, rfl, ?_⟩
         replace HO_676000 := am (Kd.R_mono (Kd.R_keep (IsS84.apart (show IsS84 w0 _ g s0_0 x1001_1 from by exact is84_2 NB0_654.out NB0_675.out HI0.out) (rl HO_676000.out) (by decide)) hk (fun _ h => h.2)) (fun _ h => h.1))
         replace HO_676001 := am (Kd.R_mono (Kd.R_keep (IsS84.apart (show IsS84 w0 _ g s0_0 x1001_1 from by exact is84_2 NB0_654.out NB0_675.out HI0.out) (rl HO_676001.out) (by decide)) hk (fun _ h => h.2)) (fun _ h => h.1))
         replace HO_676002 := am (Kd.R_mono (Kd.R_keep (IsS84.apart (show IsS84 w0 _ g s0_0 x1001_1 from by exact is84_2 NB0_654.out NB0_675.out HI0.out) (rl HO_676002.out) (by decide)) hk (fun _ h => h.2)) (fun _ h => h.1))
         replace BK654 := kb hk BK654 NB654_0
         replace BK675 := kb hk BK675 NB675_0
         replace HK := am (KeepBut.trans (ks2 GW654.out GW675.out HK.out) hk (.inl rfl))
         replace HB := am (hb)
         replace HI0 := am (hi)
         (try clear hb hk hi)
         have p26 : 0 ≤ (x6_1 : Int) := of_decide_eq_true (by first | (with_reducible assumption) | assumption)
         have q26 : (x6_1 : Int) < ((x676000_1.length : Int) : Int) := of_decide_eq_true (by first | (with_reducible assumption) | assumption)
         obtain ⟨go26, co26, eo26, gb26, gl26, cl26, HG26⟩ := Kd.R_form HO_676000.out (by first | omega | (have hz_ := (Kd.R_reads' HO_676000.out).1; omega))
         (first | cases eo26 | (injection eo26 with ea_ en_ ec_; (first | subst ea_ | (injection ea_ with ea_; subst ea_)); subst ec_; clear en_))
         have GB26 := am gb26
         have GG26 := am HG26
         clear gb26 gl26 HG26
         obtain ⟨hx26_0, hf26_0⟩ := Kd.R_celln 0 HO_676000.out (x6_1 : Int) p26 q26
         replace p26 := eq_true p26
         replace q26 := eq_true q26
         have HN0_go26 := am (show g ≠ go26 from by have h_ := IsS84.own_ne HI0.out HO_676000.out (by decide); intro e_; exact h_ (by rw [e_]; rfl))
         have HP52 := Kd.R_putn HO_676000.out (x6_1 : Int) (wrap64 (t676 - 1))
         rw [← Ny678.out] at HP52
         have HQ52 := am HP52
         clear HP52
         refine hK.out _ _ ⟨(blk_cell BK675.out 0).trans rfl, (blk_cell BK675.out 1).trans rfl, (blk_cell BK675.out 2).trans rfl⟩ (fun hHeld => ?_)
         clear hK K
         refine norm_ (a' := ?_) ?_ ?_
         rotate_left
         ·show Act.put _ (some 30) _ = _
          simp only [Act.put, List.setIfInBounds_toArray, List.set_cons_zero, List.set_cons_succ, i64_w, i32_w]
          rfl
         refine pure_ (i := 7) (N := some 31) (v := ?_) (a' := ?_) #[true, true, true, true, true, true, true, true, false, false] rfl rfl (any_of HT_.out (by kernel_rfl)) (fun _ _ _ h => h) (Or.inl ⟨by rfl, ?_⟩) ?_ ?_
         rotate_left
         ·intro w'
          go_simp
          with_reducible rfl
         rotate_left
         ·simp only [Act.put, List.setIfInBounds_toArray, List.set_cons_zero, List.set_cons_succ, i64_w, i32_w]
          rfl
         refine pure_ (i := 8) (N := some 32) (v := ?_) (a' := ?_) #[true, true, true, true, true, true, true, true, true, false] rfl rfl (any_of HT_.out (by kernel_rfl)) (fun _ _ _ h => h) (Or.inl ⟨by rfl, ?_⟩) ?_ ?_
         rotate_left
         ·intro w'
          go_simp
          with_reducible rfl
         rotate_left
         ·simp only [Act.put, List.setIfInBounds_toArray, List.set_cons_zero, List.set_cons_succ, i64_w, i32_w]
          rfl
         refine last_ (i := 9) (N := none) #[true, true, true, true, true, true, true, true, true, true] rfl rfl (one_of HT_.out (by kernel_rfl)) (by decide) (fun K hK => ?_)
         refine skip_ (w1 := ?_) (by rfl) rfl ?_ ?_
         rotate_left
         ·go_simp
          rfl
         refine hK.out _ _ ?_
         clear hK K
         refine done_ (done_of HT_.out (by kernel_rfl)) ?_
         try go_wp2
         have n0_ : Aside0 (Kd.R (Kd.int .i64) 3 (w51.setCell ⟨go26, (x6_1 : Int).toNat, none⟩ (.int .i64 (wrap64 (t676 - 1)))) w.heap.size (fun k_ => some k_ ≠ (u676001 : Value).ownBlock ∧ some k_ ≠ (u676002 : Value).ownBlock) (.slice (some ⟨go26, 0, none⟩) x676000_1.length co26) y678) := ⟨rl HQ52.out⟩
         have n1_ : Aside0 (Kd.R (Kd.int .i64) 3 (w51.setCell ⟨go26, (x6_1 : Int).toNat, none⟩ (.int .i64 (wrap64 (t676 - 1)))) w.heap.size (fun k_ => some k_ ≠ (.slice (some ⟨go26, 0, none⟩) x676000_1.length co26 : Value).ownBlock ∧ some k_ ≠ (u676002 : Value).ownBlock) u676001 x676001_1) := ⟨rl (Kd.R_mono (Kd.R_far (p := ⟨go26, (x6_1 : Int).toNat, none⟩) (Kd.R_mono HO_676001.out (fun k_ hk => (⟨hk, fun e_ => hk.1 (by rw [e_]; rfl)⟩ : _ ∧ k_ ≠ go26))) (fun _ hk => hk.2) (.int .i64 (wrap64 (t676 - 1)))) (fun _ hk => by first | exact ⟨hk.1.1, hk.1.2⟩ | (simp only [ne_eq] at hk ⊢; simp only [hk, not_false_eq_true, and_self])))⟩
         have n2_ : Aside0 (Kd.R (Kd.int .i64) 3 (w51.setCell ⟨go26, (x6_1 : Int).toNat, none⟩ (.int .i64 (wrap64 (t676 - 1)))) w.heap.size (fun k_ => some k_ ≠ (.slice (some ⟨go26, 0, none⟩) x676000_1.length co26 : Value).ownBlock ∧ some k_ ≠ (u676001 : Value).ownBlock) u676002 x676002_1) := ⟨rl (Kd.R_mono (Kd.R_far (p := ⟨go26, (x6_1 : Int).toNat, none⟩) (Kd.R_mono HO_676002.out (fun k_ hk => (⟨hk, fun e_ => hk.1 (by rw [e_]; rfl)⟩ : _ ∧ k_ ≠ go26))) (fun _ hk => hk.2) (.int .i64 (wrap64 (t676 - 1)))) (fun _ hk => by first | exact ⟨hk.1.1, hk.1.2⟩ | (simp only [ne_eq] at hk ⊢; simp only [hk, not_false_eq_true, and_self])))⟩
         have n3_ : Aside0 ((w51.setCell ⟨go26, (x6_1 : Int).toNat, none⟩ (.int .i64 (wrap64 (t676 - 1)))).heap[gb654]? = some (.cells #[.slice none 0 0, .slice none 0 0, .slice none 0 0] 28 (0, 0))) := ⟨by (with_reducible repeat (first | refine blk_drewN ?_ _ | refine blk_drew ?_ | refine blk_alloc ?_ _)); refine blk_far ?_ (by have h_ := Kd.R_ne HO_676000.out BK654.out (by decide); intro e_; exact h_ (by rw [e_]; rfl)) _; (with_reducible repeat (first | refine blk_drewN ?_ _ | refine blk_drew ?_ | refine blk_alloc ?_ _)); exact BK654.out⟩
         have n4_ : Aside0 ((w51.setCell ⟨go26, (x6_1 : Int).toNat, none⟩ (.int .i64 (wrap64 (t676 - 1)))).heap[gb675]? = some (.cells #[.slice (some ⟨go26, 0, none⟩) x676000_1.length co26, u676001, u676002] 28 (0, 0))) := ⟨by (with_reducible repeat (first | refine blk_drewN ?_ _ | refine blk_drew ?_ | refine blk_alloc ?_ _)); refine blk_far ?_ (by have h_ := Kd.R_ne HO_676000.out BK675.out (by decide); intro e_; exact h_ (by rw [e_]; rfl)) _; (with_reducible repeat (first | refine blk_drewN ?_ _ | refine blk_drew ?_ | refine blk_alloc ?_ _)); exact BK675.out⟩
         have n5_ : Aside0 (IsS84 w0 (w51.setCell ⟨go26, (x6_1 : Int).toNat, none⟩ (.int .i64 (wrap64 (t676 - 1)))) g s0_0 t677) := ⟨by exact is84_3 HN0_go26.out NB0_654.out NB0_675.out HI0.out⟩
         have n6_ : Aside0 (KeepBut w (w51.setCell ⟨go26, (x6_1 : Int).toNat, none⟩ (.int .i64 (wrap64 (t676 - 1)))) g none) := ⟨by exact ks3 GB26.out GW654.out GW675.out HK.out⟩
         have n7_ : Aside0 (Below w0.heap.size w0 (w51.setCell ⟨go26, (x6_1 : Int).toNat, none⟩ (.int .i64 (wrap64 (t676 - 1))))) := ⟨by repeat (first | (with_reducible first | exact HB.out | apply below_alloc | apply pw_below_drewN | apply below_drew1 | refine below_set ?_ (Nat.le_trans HL.out GB26.out) | refine below_set ?_ (IsS84.ge HI0.out) | refine below_set ?_ GE654.out | refine below_set ?_ GE675.out) | exact HB.out)⟩
         (try clear HO_676000)
         (try clear HO_676001)
         (try clear HO_676002)
         (try clear BK654)
         (try clear BK675)
         (try clear HI0)
         (try clear HK)
         (try clear HB)
         generalize (w51.setCell ⟨go26, (x6_1 : Int).toNat, none⟩ (.int .i64 (wrap64 (t676 - 1)))) = w53 at n0_ n1_ n2_ n3_ n4_ n5_ n6_ n7_ ⊢
         have HO_676000 := n0_
         have HO_676001 := n1_
         have HO_676002 := n2_
         have BK654 := n3_
         have BK675 := n4_
         have HI0 := n5_
         have HK := n6_
         have HB := n7_
         clear n0_ n1_ n2_ n3_ n4_ n5_ n6_ n7_
         replace HO_676000 := am (Kd.R_drew HO_676000.out)
         replace HO_676001 := am (Kd.R_drew HO_676001.out)
         replace HO_676002 := am (Kd.R_drew HO_676002.out)
         replace BK654 := am (blk_drew BK654.out)
         replace BK675 := am (blk_drew BK675.out)
         replace HI0 := am (IsS84.drew HI0.out)
         replace HK := am (keep_drew HK.out)
         replace HB := am (below_drew1 HB.out)
         refine start_ (n := 10) (S := fun w' => w'.cell? ⟨gb675, 0, none⟩ = some (.slice (some ⟨go26, 0, none⟩) x676000_1.length co26) ∧ w'.cell? ⟨gb675, 1, none⟩ = some (u676001) ∧ w'.cell? ⟨gb675, 2, none⟩ = some (u676002)) (ds := [9]) #[false, false, false, false, false, false, false, false, false, false] (by kernel_rfl) rfl rfl ⟨(blk_cell BK675.out 0).trans rfl, (blk_cell BK675.out 1).trans rfl, (blk_cell BK675.out 2).trans rfl⟩ (fun hHeld => ?_); refine with_tabW spec_l1Draw.tab7 spec_l1Draw.bits7 (fun HT_ HW_ => ?_)
         generalize w53.drew = w54 at HO_676000 HO_676001 HO_676002 BK654 BK675 HI0 HK HB HQ52 hHeld ⊢
         refine pure_ (i := 0) (N := some 33) (v := ?_) (a' := ?_) #[true, false, false, false, false, false, false, false, false, false] rfl rfl (any_of HT_.out (by kernel_rfl)) (fun _ _ _ h => h) (Or.inl ⟨by rfl, ?_⟩) ?_ ?_
         rotate_left
         ·intro w'
          go_simp
          with_reducible rfl
         rotate_left
         ·simp only [Act.put, List.setIfInBounds_toArray, List.set_cons_zero, List.set_cons_succ, i64_w, i32_w]
          rfl
         refine pure_ (i := 2) (N := some 35) (v := ?_) (a' := ?_) #[true, false, true, false, false, false, false, false, false, false] rfl rfl (any_of HT_.out (by kernel_rfl)) (fun _ _ _ h => h) (Or.inl ⟨by rfl, ?_⟩) ?_ ?_
         rotate_left
         ·intro w'
          go_simp
          with_reducible rfl
         rotate_left
         ·simp only [Act.put, List.setIfInBounds_toArray, List.set_cons_zero, List.set_cons_succ, i64_w, i32_w]
          rfl
         refine pure_ (i := 3) (N := some 36) (v := ?_) (a' := ?_) #[true, false, true, true, false, false, false, false, false, false] rfl rfl (any_of HT_.out (by kernel_rfl)) (fun _ _ _ h => h) (Or.inl ⟨by rfl, ?_⟩) ?_ ?_
         rotate_left
         ·intro w'
          go_simp
          with_reducible rfl
         rotate_left
         ·simp only [Act.put, List.setIfInBounds_toArray, List.set_cons_zero, List.set_cons_succ, i64_w, i32_w]
          rfl
         refine pure_ (i := 4) (N := some 37) (v := ?_) (a' := ?_) #[true, false, true, true, true, false, false, false, false, false] rfl rfl (any_of HT_.out (by kernel_rfl)) (fun _ _ _ h => h) (Or.inl ⟨by rfl, ?_⟩) ?_ ?_
         rotate_left
         ·intro w'
          go_simp
          with_reducible rfl
         rotate_left
         ·simp only [Act.put, List.setIfInBounds_toArray, List.set_cons_zero, List.set_cons_succ, i64_w, i32_w]
          rfl
         refine pure_ (i := 5) (N := some 38) (v := ?_) (a' := ?_) #[true, false, true, true, true, true, false, false, false, false] rfl rfl (any_of HT_.out (by kernel_rfl)) (fun _ _ _ h => h) (Or.inl ⟨by rfl, ?_⟩) ?_ ?_
         rotate_left
         ·intro w'
          go_simp
          with_reducible rfl
         rotate_left
         ·simp only [Act.put, List.setIfInBounds_toArray, List.set_cons_zero, List.set_cons_succ, i64_w, i32_w]
          rfl
         refine take_ (i := 1) (N := some 34) (v := ?_) (a' := ?_) #[true, true, true, true, true, true, false, false, false, false] rfl rfl (take_ofW HT_.out HW_.out (by kernel_rfl)) (fun _ _ _ h => h) (Or.inl ⟨by rfl, ?_⟩) hHeld ?_ ?_
         rotate_left
         ·rintro w' ⟨s0, s1, s2⟩
          go_simp
          with_reducible rfl
         rotate_left
         ·simp only [Act.put, List.setIfInBounds_toArray, List.set_cons_zero, List.set_cons_succ, i64_w, i32_w]
          rfl
         refine one_ (i := 6) (N := some 39) #[true, true, true, true, true, true, true, false, false, false] rfl rfl (one_of HT_.out (by kernel_rfl)) (by decide) (fun K hK => ?_)
         refine goes_ Try.func74 (by kernel_rfl) rfl #[.pointer (some ⟨g, 0, none⟩), .int .i64 (wrap64 (t658 + 2))] (by rfl) rfl rfl (by (try simp only [List.map_toArray, List.map_cons, List.map_nil]); first | done | rfl | (simp only [List.length_drop, List.length_take]; rfl)) ?_
         with_reducible refine (spec_l13Rd_pick.calls k1 g s0_0 t677 (wrap64 (t658 + 2)) t679 t680 w0 _ ?side1 ?side2 A27.out).mono ?_
         (case side1 => exact is84_2 NB0_654.out NB0_675.out HI0.out)
         (case side2 => exact bs3 (IsS84.ge HI0.out) GE654.out GE675.out HB.out)
         rintro e w55 ⟨rfl, hi, hb, hk⟩
         refine ⟨_, rfl, ?_⟩
         replace HO_676000 := am (Kd.R_mono (Kd.R_keep (IsS84.apart (show IsS84 w0 _ g s0_0 t677 from by exact is84_2 NB0_654.out NB0_675.out HI0.out) (rl HO_676000.out) (by decide)) hk (fun _ h => h.2)) (fun _ h => h.1))
         replace HO_676001 := am (Kd.R_mono (Kd.R_keep (IsS84.apart (show IsS84 w0 _ g s0_0 t677 from by exact is84_2 NB0_654.out NB0_675.out HI0.out) (rl HO_676001.out) (by decide)) hk (fun _ h => h.2)) (fun _ h => h.1))
         replace HO_676002 := am (Kd.R_mono (Kd.R_keep (IsS84.apart (show IsS84 w0 _ g s0_0 t677 from by exact is84_2 NB0_654.out NB0_675.out HI0.out) (rl HO_676002.out) (by decide)) hk (fun _ h => h.2)) (fun _ h => h.1))
         replace BK654 := kb hk BK654 NB654_0
         replace BK675 := kb hk BK675 NB675_0
         replace HK := am (KeepBut.trans (ks2 GW654.out GW675.out HK.out) hk (.inl rfl))
         replace HB := am (hb)
         replace HI0 := am (hi)
         (try clear hb hk hi)
         have p29 : 0 ≤ (x6_1 : Int) := of_decide_eq_true (by first | (with_reducible assumption) | assumption)
         have q29 : (x6_1 : Int) < ((x676001_1.length : Int) : Int) := of_decide_eq_true (by first | (with_reducible assumption) | assumption)
         obtain ⟨go29, co29, eo29, gb29, gl29, cl29, HG29⟩ := Kd.R_form HO_676001.out (by first | omega | (have hz_ := (Kd.R_reads' HO_676001.out).1; omega))
         (first | cases eo29 | (injection eo29 with ea_ en_ ec_; (first | subst ea_ | (injection ea_ with ea_; subst ea_)); subst ec_; clear en_))
         have GB29 := am gb29
         have GG29 := am HG29
         clear gb29 gl29 HG29
         obtain ⟨hx29_0, hf29_0⟩ := Kd.R_celln 0 HO_676001.out (x6_1 : Int) p29 q29
         replace p29 := eq_true p29
         replace q29 := eq_true q29
         have HN0_go29 := am (show g ≠ go29 from by have h_ := IsS84.own_ne HI0.out HO_676001.out (by decide); intro e_; exact h_ (by rw [e_]; rfl))
         have HP56 := Kd.R_putn HO_676001.out (x6_1 : Int) (wrap64 (t679 - 2))
         rw [← Ny681.out] at HP56
         have HQ56 := am HP56
         clear HP56
         refine hK.out _ _ ⟨(blk_cell BK675.out 0).trans rfl, (blk_cell BK675.out 1).trans rfl, (blk_cell BK675.out 2).trans rfl⟩ (fun hHeld => ?_)
         clear hK K
         refine norm_ (a' := ?_) ?_ ?_
         rotate_left
         ·show Act.put _ (some 39) _ = _
          simp only [Act.put, List.setIfInBounds_toArray, List.set_cons_zero, List.set_cons_succ, i64_w, i32_w]
          rfl
         refine pure_ (i := 7) (N := some 40) (v := ?_) (a' := ?_) #[true, true, true, true, true, true, true, true, false, false] rfl rfl (any_of HT_.out (by kernel_rfl)) (fun _ _ _ h => h) (Or.inl ⟨by rfl, ?_⟩) ?_ ?_
         rotate_left
         ·intro w'
          go_simp
          with_reducible rfl
         rotate_left
         ·simp only [Act.put, List.setIfInBounds_toArray, List.set_cons_zero, List.set_cons_succ, i64_w, i32_w]
          rfl
         refine pure_ (i := 8) (N := some 41) (v := ?_) (a' := ?_) #[true, true, true, true, true, true, true, true, true, false] rfl rfl (any_of HT_.out (by kernel_rfl)) (fun _ _ _ h => h) (Or.inl ⟨by rfl, ?_⟩) ?_ ?_
         rotate_left
         ·intro w'
          go_simp
          with_reducible rfl
         rotate_left
         ·simp only [Act.put, List.setIfInBounds_toArray, List.set_cons_zero, List.set_cons_succ, i64_w, i32_w]
          rfl
         refine last_ (i := 9) (N := none) #[true, true, true, true, true, true, true, true, true, true] rfl rfl (one_of HT_.out (by kernel_rfl)) (by decide) (fun K hK => ?_)
         refine skip_ (w1 := ?_) (by rfl) rfl ?_ ?_
         rotate_left
         ·go_simp
          rfl
         refine hK.out _ _ ?_
         clear hK K
         refine done_ (done_of HT_.out (by kernel_rfl)) ?_
         have n0_ : Aside0 (Kd.R (Kd.int .i64) 3 (w55.setCell ⟨go29, (x6_1 : Int).toNat, none⟩ (.int .i64 (wrap64 (t679 - 2)))) w.heap.size (fun k_ => some k_ ≠ (.slice (some ⟨go29, 0, none⟩) x676001_1.length co29 : Value).ownBlock ∧ some k_ ≠ (u676002 : Value).ownBlock) (.slice (some ⟨go26, 0, none⟩) x676000_1.length co26) y678) := ⟨rl (Kd.R_mono (Kd.R_far (p := ⟨go29, (x6_1 : Int).toNat, none⟩) (Kd.R_mono HO_676000.out (fun k_ hk => (⟨hk, fun e_ => hk.1 (by rw [e_]; rfl)⟩ : _ ∧ k_ ≠ go29))) (fun _ hk => hk.2) (.int .i64 (wrap64 (t679 - 2)))) (fun _ hk => by first | exact ⟨hk.1.1, hk.1.2⟩ | (simp only [ne_eq] at hk ⊢; simp only [hk, not_false_eq_true, and_self])))⟩
         have n1_ : Aside0 (Kd.R (Kd.int .i64) 3 (w55.setCell ⟨go29, (x6_1 : Int).toNat, none⟩ (.int .i64 (wrap64 (t679 - 2)))) w.heap.size (fun k_ => some k_ ≠ (.slice (some ⟨go26, 0, none⟩) x676000_1.length co26 : Value).ownBlock ∧ some k_ ≠ (u676002 : Value).ownBlock) (.slice (some ⟨go29, 0, none⟩) x676001_1.length co29) y681) := ⟨rl HQ56.out⟩
         have n2_ : Aside0 (Kd.R (Kd.int .i64) 3 (w55.setCell ⟨go29, (x6_1 : Int).toNat, none⟩ (.int .i64 (wrap64 (t679 - 2)))) w.heap.size (fun k_ => some k_ ≠ (.slice (some ⟨go26, 0, none⟩) x676000_1.length co26 : Value).ownBlock ∧ some k_ ≠ (.slice (some ⟨go29, 0, none⟩) x676001_1.length co29 : Value).ownBlock) u676002 x676002_1) := ⟨rl (Kd.R_mono (Kd.R_far (p := ⟨go29, (x6_1 : Int).toNat, none⟩) (Kd.R_mono HO_676002.out (fun k_ hk => (⟨hk, fun e_ => hk.2 (by rw [e_]; rfl)⟩ : _ ∧ k_ ≠ go29))) (fun _ hk => hk.2) (.int .i64 (wrap64 (t679 - 2)))) (fun _ hk => by first | exact ⟨hk.1.1, hk.1.2⟩ | (simp only [ne_eq] at hk ⊢; simp only [hk, not_false_eq_true, and_self])))⟩
         have n3_ : Aside0 ((w55.setCell ⟨go29, (x6_1 : Int).toNat, none⟩ (.int .i64 (wrap64 (t679 - 2)))).heap[gb654]? = some (.cells #[.slice none 0 0, .slice none 0 0, .slice none 0 0] 28 (0, 0))) := ⟨by (with_reducible repeat (first | refine blk_drewN ?_ _ | refine blk_drew ?_ | refine blk_alloc ?_ _)); refine blk_far ?_ (by have h_ := Kd.R_ne HO_676001.out BK654.out (by decide); intro e_; exact h_ (by rw [e_]; rfl)) _; (with_reducible repeat (first | refine blk_drewN ?_ _ | refine blk_drew ?_ | refine blk_alloc ?_ _)); exact BK654.out⟩
         have n4_ : Aside0 ((w55.setCell ⟨go29, (x6_1 : Int).toNat, none⟩ (.int .i64 (wrap64 (t679 - 2)))).heap[gb675]? = some (.cells #[.slice (some ⟨go26, 0, none⟩) x676000_1.length co26, .slice (some ⟨go29, 0, none⟩) x676001_1.length co29, u676002] 28 (0, 0))) := ⟨by (with_reducible repeat (first | refine blk_drewN ?_ _ | refine blk_drew ?_ | refine blk_alloc ?_ _)); refine blk_far ?_ (by have h_ := Kd.R_ne HO_676001.out BK675.out (by decide); intro e_; exact h_ (by rw [e_]; rfl)) _; (with_reducible repeat (first | refine blk_drewN ?_ _ | refine blk_drew ?_ | refine blk_alloc ?_ _)); exact BK675.out⟩
         have n5_ : Aside0 (IsS84 w0 (w55.setCell ⟨go29, (x6_1 : Int).toNat, none⟩ (.int .i64 (wrap64 (t679 - 2)))) g s0_0 t680) := ⟨by exact is84_3 HN0_go29.out NB0_654.out NB0_675.out HI0.out⟩
         have n6_ : Aside0 (KeepBut w (w55.setCell ⟨go29, (x6_1 : Int).toNat, none⟩ (.int .i64 (wrap64 (t679 - 2)))) g none) := ⟨by exact ks3 GB29.out GW654.out GW675.out HK.out⟩
         have n7_ : Aside0 (Below w0.heap.size w0 (w55.setCell ⟨go29, (x6_1 : Int).toNat, none⟩ (.int .i64 (wrap64 (t679 - 2))))) := ⟨by repeat (first | (with_reducible first | exact HB.out | apply below_alloc | apply pw_below_drewN | apply below_drew1 | refine below_set ?_ (Nat.le_trans HL.out GB29.out) | refine below_set ?_ (IsS84.ge HI0.out) | refine below_set ?_ GE654.out | refine below_set ?_ GE675.out) | exact HB.out)⟩
         (try clear HO_676000)
         (try clear HO_676001)
         (try clear HO_676002)
         (try clear BK654)
         (try clear BK675)
         (try clear HI0)
         (try clear HK)
         (try clear HB)
         generalize (w55.setCell ⟨go29, (x6_1 : Int).toNat, none⟩ (.int .i64 (wrap64 (t679 - 2)))) = w57 at n0_ n1_ n2_ n3_ n4_ n5_ n6_ n7_ ⊢
         have HO_676000 := n0_
         have HO_676001 := n1_
         have HO_676002 := n2_
         have BK654 := n3_
         have BK675 := n4_
         have HI0 := n5_
         have HK := n6_
         have HB := n7_
         clear n0_ n1_ n2_ n3_ n4_ n5_ n6_ n7_
         have hnb58 := NB675_654.out
         have hnc58 := NB654_675.out
         have hnb59 := NB675_0.out
         have hnc59 := NB0_675.out
         obtain ⟨hcz60_0, hcz60_1, hcz60_2, hfz60_0, hfz60_1, hfz60_2⟩ := cf3 BK675
         have p682 : 0 ≤ (x6_1 : Int) := of_decide_eq_true (by first | (with_reducible assumption) | assumption)
         have q682 : x6_1 < (y678.length : Int) := (by have h_ : (x6_1 : Int) < ((x676000_1.length : Int) : Int) := of_decide_eq_true (by first | (with_reducible assumption) | assumption); first | (have e_ := (Kd.R_reads' HO_676000.out).1; omega) | simpa only [Ny678.out, List.length_set] using h_)
         have ql682 : ((x6_1 : Int) < ((x676000_1.length : Int) : Int)) = True := eq_true (of_decide_eq_true (by first | (with_reducible assumption) | assumption))
         obtain ⟨ad682, e682, hx682_0⟩ := Kd.at_int (Kd.R_reads' HO_676000.out).2.2 x6_1 p682 q682
         obtain rfl : (⟨go26, 0, none⟩ : Addr) = ad682 := (by injection e682)
         (first | simp only [add_plain] at hx682_0 | simp only [add_at] at hx682_0 | simp only [Addr.add, Nat.zero_add] at hx682_0 | skip)
         replace p682 := eq_true p682
         replace q682 := eq_true q682
         have p31 : 0 ≤ (x6_1 : Int) := of_decide_eq_true (by first | (with_reducible assumption) | assumption)
         have q31 : (x6_1 : Int) < ((x676000_1.length : Int) : Int) := of_decide_eq_true (by first | (with_reducible assumption) | assumption)
         obtain ⟨hx31_0, hf31_0⟩ := Kd.R_celln 0 HO_676000.out (x6_1 : Int) p31 q31
         replace p31 := eq_true p31
         replace q31 := eq_true q31
         obtain ⟨hy61_, hz61_⟩ := Kd.R_celln 0 HO_676000.out (x6_1 : Int) (of_decide_eq_true (by first | (with_reducible assumption) | assumption)) (of_decide_eq_true (by first | (with_reducible assumption) | assumption))
         have HP61 := Kd.R_putg HO_676000.out (x6_1 : Int) (-1)
         try go_wp2_with (first | ((with_reducible refine gate_store (t := 3) (p := 52) rfl ?_); refine store_event (t := 3) (p := 52) (v := ?vo_w62) (w1 := (w57.setCell ⟨go26, (x6_1 : Int).toNat, none⟩ (.int .i64 (-1)))) ?hg ?ho ?hn ?hr ?_; (case ho => rfl); (case hg => rfl); (case hn => rfl); (case hr => first | (go_simp; done) | (go_simp; rfl)); intro w62 hw; have hg : w57.grownBy w62 (some go26) := (by rw [hw]; exact HP61.2); have hp_ : Kd.R (Kd.int .i64) 3 w62 w.heap.size (fun k_ => some k_ ≠ (.slice (some ⟨go29, 0, none⟩) x676001_1.length co29 : Value).ownBlock ∧ some k_ ≠ (u676002 : Value).ownBlock) (.slice (some ⟨go26, 0, none⟩) x676000_1.length co26) y683 := (by rw [hw, Ny683.out]; exact HP61.1); clear HP61; replace HO_676001 := am (Kd.R_after (v := (.slice (some ⟨go26, 0, none⟩) x676000_1.length co26)) (v1 := (.slice (some ⟨go26, 0, none⟩) x676000_1.length co26)) (ok := (fun k_ => some k_ ≠ (u676002 : Value).ownBlock)) (rl (Kd.R_mono HO_676001.out (fun _ hk => by first | exact ⟨hk.2, hk.1⟩ | (simp only [ne_eq] at hk ⊢; simp only [hk, not_false_eq_true, and_self])))) hg (.inl rfl)); replace HO_676002 := am (Kd.R_after (v := (.slice (some ⟨go26, 0, none⟩) x676000_1.length co26)) (v1 := (.slice (some ⟨go26, 0, none⟩) x676000_1.length co26)) (ok := (fun k_ => some k_ ≠ (.slice (some ⟨go29, 0, none⟩) x676001_1.length co29 : Value).ownBlock)) (rl (Kd.R_mono HO_676002.out (fun _ hk => by first | exact ⟨hk.2, hk.1⟩ | (simp only [ne_eq] at hk ⊢; simp only [hk, not_false_eq_true, and_self])))) hg (.inl rfl)); replace BK654 := am (blk_grown (g := gb654) (o := .cells #[.slice none 0 0, .slice none 0 0, .slice none 0 0] 28 (0, 0)) (kl BK654.out) hg (Kd.R_ne HO_676000.out BK654.out (by decide))); replace BK675 := am (blk_grown (g := gb675) (o := .cells #[.slice (some ⟨go26, 0, none⟩) x676000_1.length co26, .slice (some ⟨go29, 0, none⟩) x676001_1.length co29, u676002] 28 (0, 0)) (kl BK675.out) hg (Kd.R_ne HO_676000.out BK675.out (by decide))); replace HI0 := am (IsS84.grown (is84_2 NB0_654.out NB0_675.out HI0.out) hg (IsS84.own_ne HI0.out HO_676000.out (by decide))); replace HB := am ((by rw [hw]; exact below_set (HB.out) (Nat.le_trans HL.out GB26.out) : Below w0.heap.size w0 w62)); replace HK := am (KeepBut.trans (ks2 GW654.out GW675.out HK.out) (KeepBut.of_grown hg g) (Kd.R_base2 HO_676000.out)); replace HO_676000 := am (hp_); clear hg hw hp_; obtain ⟨hcz63_0, hcz63_1, hcz63_2, hfz63_0, hfz63_1, hfz63_2⟩ := cf3 BK675; have p684 : 0 ≤ (x6_1 : Int) := of_decide_eq_true (by first | (with_reducible assumption) | assumption); have q684 : x6_1 < (y681.length : Int) := (by have h_ : (x6_1 : Int) < ((x676001_1.length : Int) : Int) := of_decide_eq_true (by first | (with_reducible assumption) | assumption); first | (have e_ := (Kd.R_reads' HO_676001.out).1; omega) | simpa only [Ny681.out, List.length_set] using h_); have ql684 : ((x6_1 : Int) < ((x676001_1.length : Int) : Int)) = True := eq_true (of_decide_eq_true (by first | (with_reducible assumption) | assumption)); obtain ⟨ad684, e684, hx684_0⟩ := Kd.at_int (Kd.R_reads' HO_676001.out).2.2 x6_1 p684 q684; obtain rfl : (⟨go29, 0, none⟩ : Addr) = ad684 := (by injection e684); (first | simp only [add_plain] at hx684_0 | simp only [add_at] at hx684_0 | simp only [Addr.add, Nat.zero_add] at hx684_0 | skip); replace p684 := eq_true p684; replace q684 := eq_true q684))
         go_roundg k1
         case measure => have := HK1.out; omega
         case rel => exact ⟨(wrap64 (x6_1 + 1)), (t680), (y683), (y681), (x676002_1), (.slice (some ⟨go26, 0, none⟩) x676000_1.length co26), (.slice (some ⟨go29, 0, none⟩) x676001_1.length co29), (u676002), (by first | rfl | (simp; done) | (simp [*]; done)), H', ⟨by have := HK1.out; omega⟩, ⟨rl HO_676000.out⟩, ⟨rl (Kd.R_mono HO_676001.out (fun _ hk => by first | exact ⟨hk.2, hk.1⟩ | (simp only [ne_eq] at hk ⊢; simp only [hk, not_false_eq_true, and_self])))⟩, ⟨rl (Kd.R_mono HO_676002.out (fun _ hk => by first | exact ⟨hk.2, hk.1⟩ | (simp only [ne_eq] at hk ⊢; simp only [hk, not_false_eq_true, and_self])))⟩, ⟨kl BK654.out⟩, ⟨kl BK675.out⟩, ⟨by exact is84_2 NB0_654.out NB0_675.out HI0.out⟩, ⟨by exact ks2 GW654.out GW675.out HK.out⟩, ⟨by exact bs3 (IsS84.ge HI0.out) GE654.out GE675.out HB.out⟩⟩
       ·rw [if_neg c30] at H
        have c30b0 : decide (t658 ≤ (rd y678 x6_1)) = false := decide_eq_false c30
        clear c30
        by_cases c65 : (wrap64 (t679 - 2)) < (-1)
        ·rw [if_pos c65] at H
         have c65b0 : decide ((wrap64 (t679 - 2)) < (-1)) = true := decide_eq_true c65
         clear c65
         obtain ⟨y687, hy687⟩ : ∃ y_ : List Int, y_ = (y681.set (x6_1 : Int).toNat (-1)) := ⟨_, rfl⟩
         replace H : (spec_l1Draw.l0 k1 t658 (wrap64 (x6_1 + 1)) s0_0 t680 y678 y687 x676002_1) = some (r1, r2, r3, r4) := by first | (rw [hy687]; with_reducible exact H) | (have H2_ := (Option.bind_some _ _).symm.trans H; rw [hy687]; with_reducible exact H2_) | (have H2_ := (Option.bind_some _ _).symm.trans H; with_reducible exact H2_) | with_reducible exact H | (rw [hy687]; exact H) | exact H
         have Ny687 := am hy687
         clear hy687
         have H' := am H
         clear H
         try go_wp2
         replace HO_676000 := am (Kd.R_drew HO_676000.out)
         replace HO_676001 := am (Kd.R_drew HO_676001.out)
         replace HO_676002 := am (Kd.R_drew HO_676002.out)
         replace BK654 := am (blk_drew BK654.out)
         replace BK675 := am (blk_drew BK675.out)
         replace HI0 := am (IsS84.drew HI0.out)
         replace HK := am (keep_drew HK.out)
         replace HB := am (below_drew1 HB.out)
         refine start_ (n := 10) (S := fun w' => w'.cell? ⟨gb675, 0, none⟩ = some (u676000) ∧ w'.cell? ⟨gb675, 1, none⟩ = some (u676001) ∧ w'.cell? ⟨gb675, 2, none⟩ = some (u676002)) (ds := [9]) #[false, false, false, false, false, false, false, false, false, false] (by kernel_rfl) rfl rfl ⟨(blk_cell BK675.out 0).trans rfl, (blk_cell BK675.out 1).trans rfl, (blk_cell BK675.out 2).trans rfl⟩ (fun hHeld => ?_); refine with_tabW spec_l1Draw.tab6 spec_l1Draw.bits6 (fun HT_ HW_ => ?_)
         generalize wr.drew = w67 at HO_676000 HO_676001 HO_676002 BK654 BK675 HI0 HK HB hHeld ⊢
         refine pure_ (i := 0) (N := some 24) (v := ?_) (a' := ?_) #[true, false, false, false, false, false, false, false, false, false] rfl rfl (any_of HT_.out (by kernel_rfl)) (fun _ _ _ h => h) (Or.inl ⟨by rfl, ?_⟩) ?_ ?_
         rotate_left
         ·intro w'
          go_simp
          with_reducible rfl
         rotate_left
         ·simp only [Act.put, List.setIfInBounds_toArray, List.set_cons_zero, List.set_cons_succ, i64_w, i32_w]
          rfl
         refine pure_ (i := 2) (N := some 26) (v := ?_) (a' := ?_) #[true, false, true, false, false, false, false, false, false, false] rfl rfl (any_of HT_.out (by kernel_rfl)) (fun _ _ _ h => h) (Or.inl ⟨by rfl, ?_⟩) ?_ ?_
         rotate_left
         ·intro w'
          go_simp
          with_reducible rfl
         rotate_left
         ·simp only [Act.put, List.setIfInBounds_toArray, List.set_cons_zero, List.set_cons_succ, i64_w, i32_w]
          rfl
         refine pure_ (i := 3) (N := some 27) (v := ?_) (a' := ?_) #[true, false, true, true, false, false, false, false, false, false] rfl rfl (any_of HT_.out (by kernel_rfl)) (fun _ _ _ h => h) (Or.inl ⟨by rfl, ?_⟩) ?_ ?_
         rotate_left
         ·intro w'
          go_simp
          with_reducible rfl
         rotate_left
         ·simp only [Act.put, List.setIfInBounds_toArray, List.set_cons_zero, List.set_cons_succ, i64_w, i32_w]
          rfl
         refine pure_ (i := 4) (N := some 28) (v := ?_) (a' := ?_) #[true, false, true, true, true, false, false, false, false, false] rfl rfl (any_of HT_.out (by kernel_rfl)) (fun _ _ _ h => h) (Or.inl ⟨by rfl, ?_⟩) ?_ ?_
         rotate_left
         ·intro w'
          go_simp
          with_reducible rfl
         rotate_left
         ·simp only [Act.put, List.setIfInBounds_toArray, List.set_cons_zero, List.set_cons_succ, i64_w, i32_w]
          rfl
         refine pure_ (i := 5) (N := some 29) (v := ?_) (a' := ?_) #[true, false, true, true, true, true, false, false, false, false] rfl rfl (any_of HT_.out (by kernel_rfl)) (fun _ _ _ h => h) (Or.inl ⟨by rfl, ?_⟩) ?_ ?_
         rotate_left
         ·intro w'
          go_simp
          with_reducible rfl
         rotate_left
         ·simp only [Act.put, List.setIfInBounds_toArray, List.set_cons_zero, List.set_cons_succ, i64_w, i32_w]
          rfl
         refine take_ (i := 1) (N := some 25) (v := ?_) (a' := ?_) #[true, true, true, true, true, true, false, false, false, false] rfl rfl (take_ofW HT_.out HW_.out (by kernel_rfl)) (fun _ _ _ h => h) (Or.inl ⟨by rfl, ?_⟩) hHeld ?_ ?_
         rotate_left
         ·rintro w' ⟨s0, s1, s2⟩
          go_simp
          with_reducible rfl
         rotate_left
         ·simp only [Act.put, List.setIfInBounds_toArray, List.set_cons_zero, List.set_cons_succ, i64_w, i32_w]
          rfl
         refine one_ (i := 6) (N := some 30) #[true, true, true, true, true, true, true, false, false, false] rfl rfl (one_of HT_.out (by kernel_rfl)) (by decide) (fun K hK => ?_)
         refine goes_ Try.func74 (by kernel_rfl) rfl #[.pointer (some ⟨g, 0, none⟩), .int .i64 (wrap64 (t658 + 2))] (by rfl) rfl rfl (by (try simp only [List.map_toArray, List.map_cons, List.map_nil]); first | done | rfl | (simp only [List.length_drop, List.length_take]; rfl)) ?_
         with_reducible refine (spec_l13Rd_pick.calls k1 g s0_0 x1001_1 (wrap64 (t658 + 2)) t676 t677 w0 _ ?side1 ?side2 A23.out).mono ?_
         (case side1 => exact is84_2 NB0_654.out NB0_675.out HI0.out)
         (case side2 => exact bs3 (IsS84.ge HI0.out) GE654.out GE675.out HB.out)
         rintro e w68 ⟨rfl, hi, hb, hk⟩
         refine ⟨_, rfl, ?_⟩
         replace HO_676000 := am (Kd.R_mono (Kd.R_keep (IsS84.apart (show IsS84 w0 _ g s0_0 x1001_1 from by exact is84_2 NB0_654.out NB0_675.out HI0.out) (rl HO_676000.out) (by decide)) hk (fun _ h => h.2)) (fun _ h => h.1))
         replace HO_676001 := am (Kd.R_mono (Kd.R_keep (IsS84.apart (show IsS84 w0 _ g s0_0 x1001_1 from by exact is84_2 NB0_654.out NB0_675.out HI0.out) (rl HO_676001.out) (by decide)) hk (fun _ h => h.2)) (fun _ h => h.1))
         replace HO_676002 := am (Kd.R_mono (Kd.R_keep (IsS84.apart (show IsS84 w0 _ g s0_0 x1001_1 from by exact is84_2 NB0_654.out NB0_675.out HI0.out) (rl HO_676002.out) (by decide)) hk (fun _ h => h.2)) (fun _ h => h.1))
         replace BK654 := kb hk BK654 NB654_0
         replace BK675 := kb hk BK675 NB675_0
         replace HK := am (KeepBut.trans (ks2 GW654.out GW675.out HK.out) hk (.inl rfl))
         replace HB := am (hb)
         replace HI0 := am (hi)
         (try clear hb hk hi)
         have p26 : 0 ≤ (x6_1 : Int) := of_decide_eq_true (by first | (with_reducible assumption) | assumption)
         have q26 : (x6_1 : Int) < ((x676000_1.length : Int) : Int) := of_decide_eq_true (by first | (with_reducible assumption) | assumption)
         obtain ⟨go26, co26, eo26, gb26, gl26, cl26, HG26⟩ := Kd.R_form HO_676000.out (by first | omega | (have hz_ := (Kd.R_reads' HO_676000.out).1; omega))
         (first | cases eo26 | (injection eo26 with ea_ en_ ec_; (first | subst ea_ | (injection ea_ with ea_; subst ea_)); subst ec_; clear en_))
         have GB26 := am gb26
         have GG26 := am HG26
         clear gb26 gl26 HG26
         obtain ⟨hx26_0, hf26_0⟩ := Kd.R_celln 0 HO_676000.out (x6_1 : Int) p26 q26
         replace p26 := eq_true p26
         replace q26 := eq_true q26
         have HN0_go26 := am (show g ≠ go26 from by have h_ := IsS84.own_ne HI0.out HO_676000.out (by decide); intro e_; exact h_ (by rw [e_]; rfl))
         have HP69 := Kd.R_putn HO_676000.out (x6_1 : Int) (wrap64 (t676 - 1))
         rw [← Ny678.out] at HP69
         have HQ69 := am HP69
         clear HP69
         refine hK.out _ _ ⟨(blk_cell BK675.out 0).trans rfl, (blk_cell BK675.out 1).trans rfl, (blk_cell BK675.out 2).trans rfl⟩ (fun hHeld => ?_)
         clear hK K
         refine norm_ (a' := ?_) ?_ ?_
         rotate_left
         ·show Act.put _ (some 30) _ = _
          simp only [Act.put, List.setIfInBounds_toArray, List.set_cons_zero, List.set_cons_succ, i64_w, i32_w]
          rfl
         refine pure_ (i := 7) (N := some 31) (v := ?_) (a' := ?_) #[true, true, true, true, true, true, true, true, false, false] rfl rfl (any_of HT_.out (by kernel_rfl)) (fun _ _ _ h => h) (Or.inl ⟨by rfl, ?_⟩) ?_ ?_
         rotate_left
         ·intro w'
          go_simp
          with_reducible rfl
         rotate_left
         ·simp only [Act.put, List.setIfInBounds_toArray, List.set_cons_zero, List.set_cons_succ, i64_w, i32_w]
          rfl
         refine pure_ (i := 8) (N := some 32) (v := ?_) (a' := ?_) #[true, true, true, true, true, true, true, true, true, false] rfl rfl (any_of HT_.out (by kernel_rfl)) (fun _ _ _ h => h) (Or.inl ⟨by rfl, ?_⟩) ?_ ?_
         rotate_left
         ·intro w'
          go_simp
          with_reducible rfl
         rotate_left
         ·simp only [Act.put, List.setIfInBounds_toArray, List.set_cons_zero, List.set_cons_succ, i64_w, i32_w]
          rfl
         refine last_ (i := 9) (N := none) #[true, true, true, true, true, true, true, true, true, true] rfl rfl (one_of HT_.out (by kernel_rfl)) (by decide) (fun K hK => ?_)
         refine skip_ (w1 := ?_) (by rfl) rfl ?_ ?_
         rotate_left
         ·go_simp
          rfl
         refine hK.out _ _ ?_
         clear hK K
         refine done_ (done_of HT_.out (by kernel_rfl)) ?_
         try go_wp2
         have n0_ : Aside0 (Kd.R (Kd.int .i64) 3 (w68.setCell ⟨go26, (x6_1 : Int).toNat, none⟩ (.int .i64 (wrap64 (t676 - 1)))) w.heap.size (fun k_ => some k_ ≠ (u676001 : Value).ownBlock ∧ some k_ ≠ (u676002 : Value).ownBlock) (.slice (some ⟨go26, 0, none⟩) x676000_1.length co26) y678) := ⟨rl HQ69.out⟩
         have n1_ : Aside0 (Kd.R (Kd.int .i64) 3 (w68.setCell ⟨go26, (x6_1 : Int).toNat, none⟩ (.int .i64 (wrap64 (t676 - 1)))) w.heap.size (fun k_ => some k_ ≠ (.slice (some ⟨go26, 0, none⟩) x676000_1.length co26 : Value).ownBlock ∧ some k_ ≠ (u676002 : Value).ownBlock) u676001 x676001_1) := ⟨rl (Kd.R_mono (Kd.R_far (p := ⟨go26, (x6_1 : Int).toNat, none⟩) (Kd.R_mono HO_676001.out (fun k_ hk => (⟨hk, fun e_ => hk.1 (by rw [e_]; rfl)⟩ : _ ∧ k_ ≠ go26))) (fun _ hk => hk.2) (.int .i64 (wrap64 (t676 - 1)))) (fun _ hk => by first | exact ⟨hk.1.1, hk.1.2⟩ | (simp only [ne_eq] at hk ⊢; simp only [hk, not_false_eq_true, and_self])))⟩
         have n2_ : Aside0 (Kd.R (Kd.int .i64) 3 (w68.setCell ⟨go26, (x6_1 : Int).toNat, none⟩ (.int .i64 (wrap64 (t676 - 1)))) w.heap.size (fun k_ => some k_ ≠ (.slice (some ⟨go26, 0, none⟩) x676000_1.length co26 : Value).ownBlock ∧ some k_ ≠ (u676001 : Value).ownBlock) u676002 x676002_1) := ⟨rl (Kd.R_mono (Kd.R_far (p := ⟨go26, (x6_1 : Int).toNat, none⟩) (Kd.R_mono HO_676002.out (fun k_ hk => (⟨hk, fun e_ => hk.1 (by rw [e_]; rfl)⟩ : _ ∧ k_ ≠ go26))) (fun _ hk => hk.2) (.int .i64 (wrap64 (t676 - 1)))) (fun _ hk => by first | exact ⟨hk.1.1, hk.1.2⟩ | (simp only [ne_eq] at hk ⊢; simp only [hk, not_false_eq_true, and_self])))⟩
         have n3_ : Aside0 ((w68.setCell ⟨go26, (x6_1 : Int).toNat, none⟩ (.int .i64 (wrap64 (t676 - 1)))).heap[gb654]? = some (.cells #[.slice none 0 0, .slice none 0 0, .slice none 0 0] 28 (0, 0))) := ⟨by (with_reducible repeat (first | refine blk_drewN ?_ _ | refine blk_drew ?_ | refine blk_alloc ?_ _)); refine blk_far ?_ (by have h_ := Kd.R_ne HO_676000.out BK654.out (by decide); intro e_; exact h_ (by rw [e_]; rfl)) _; (with_reducible repeat (first | refine blk_drewN ?_ _ | refine blk_drew ?_ | refine blk_alloc ?_ _)); exact BK654.out⟩
         have n4_ : Aside0 ((w68.setCell ⟨go26, (x6_1 : Int).toNat, none⟩ (.int .i64 (wrap64 (t676 - 1)))).heap[gb675]? = some (.cells #[.slice (some ⟨go26, 0, none⟩) x676000_1.length co26, u676001, u676002] 28 (0, 0))) := ⟨by (with_reducible repeat (first | refine blk_drewN ?_ _ | refine blk_drew ?_ | refine blk_alloc ?_ _)); refine blk_far ?_ (by have h_ := Kd.R_ne HO_676000.out BK675.out (by decide); intro e_; exact h_ (by rw [e_]; rfl)) _; (with_reducible repeat (first | refine blk_drewN ?_ _ | refine blk_drew ?_ | refine blk_alloc ?_ _)); exact BK675.out⟩
         have n5_ : Aside0 (IsS84 w0 (w68.setCell ⟨go26, (x6_1 : Int).toNat, none⟩ (.int .i64 (wrap64 (t676 - 1)))) g s0_0 t677) := ⟨by exact is84_3 HN0_go26.out NB0_654.out NB0_675.out HI0.out⟩
         have n6_ : Aside0 (KeepBut w (w68.setCell ⟨go26, (x6_1 : Int).toNat, none⟩ (.int .i64 (wrap64 (t676 - 1)))) g none) := ⟨by exact ks3 GB26.out GW654.out GW675.out HK.out⟩
         have n7_ : Aside0 (Below w0.heap.size w0 (w68.setCell ⟨go26, (x6_1 : Int).toNat, none⟩ (.int .i64 (wrap64 (t676 - 1))))) := ⟨by repeat (first | (with_reducible first | exact HB.out | apply below_alloc | apply pw_below_drewN | apply below_drew1 | refine below_set ?_ (Nat.le_trans HL.out GB26.out) | refine below_set ?_ (IsS84.ge HI0.out) | refine below_set ?_ GE654.out | refine below_set ?_ GE675.out) | exact HB.out)⟩
         (try clear HO_676000)
         (try clear HO_676001)
         (try clear HO_676002)
         (try clear BK654)
         (try clear BK675)
         (try clear HI0)
         (try clear HK)
         (try clear HB)
         generalize (w68.setCell ⟨go26, (x6_1 : Int).toNat, none⟩ (.int .i64 (wrap64 (t676 - 1)))) = w70 at n0_ n1_ n2_ n3_ n4_ n5_ n6_ n7_ ⊢
         have HO_676000 := n0_
         have HO_676001 := n1_
         have HO_676002 := n2_
         have BK654 := n3_
         have BK675 := n4_
         have HI0 := n5_
         have HK := n6_
         have HB := n7_
         clear n0_ n1_ n2_ n3_ n4_ n5_ n6_ n7_
         replace HO_676000 := am (Kd.R_drew HO_676000.out)
         replace HO_676001 := am (Kd.R_drew HO_676001.out)
         replace HO_676002 := am (Kd.R_drew HO_676002.out)
         replace BK654 := am (blk_drew BK654.out)
         replace BK675 := am (blk_drew BK675.out)
         replace HI0 := am (IsS84.drew HI0.out)
         replace HK := am (keep_drew HK.out)
         replace HB := am (below_drew1 HB.out)
         refine start_ (n := 10) (S := fun w' => w'.cell? ⟨gb675, 0, none⟩ = some (.slice (some ⟨go26, 0, none⟩) x676000_1.length co26) ∧ w'.cell? ⟨gb675, 1, none⟩ = some (u676001) ∧ w'.cell? ⟨gb675, 2, none⟩ = some (u676002)) (ds := [9]) #[false, false, false, false, false, false, false, false, false, false] (by kernel_rfl) rfl rfl ⟨(blk_cell BK675.out 0).trans rfl, (blk_cell BK675.out 1).trans rfl, (blk_cell BK675.out 2).trans rfl⟩ (fun hHeld => ?_); refine with_tabW spec_l1Draw.tab7 spec_l1Draw.bits7 (fun HT_ HW_ => ?_)
         generalize w70.drew = w71 at HO_676000 HO_676001 HO_676002 BK654 BK675 HI0 HK HB HQ69 hHeld ⊢
         refine pure_ (i := 0) (N := some 33) (v := ?_) (a' := ?_) #[true, false, false, false, false, false, false, false, false, false] rfl rfl (any_of HT_.out (by kernel_rfl)) (fun _ _ _ h => h) (Or.inl ⟨by rfl, ?_⟩) ?_ ?_
         rotate_left
         ·intro w'
          go_simp
          with_reducible rfl
         rotate_left
         ·simp only [Act.put, List.setIfInBounds_toArray, List.set_cons_zero, List.set_cons_succ, i64_w, i32_w]
          rfl
         refine pure_ (i := 2) (N := some 35) (v := ?_) (a' := ?_) #[true, false, true, false, false, false, false, false, false, false] rfl rfl (any_of HT_.out (by kernel_rfl)) (fun _ _ _ h => h) (Or.inl ⟨by rfl, ?_⟩) ?_ ?_
         rotate_left
         ·intro w'
          go_simp
          with_reducible rfl
         rotate_left
         ·simp only [Act.put, List.setIfInBounds_toArray, List.set_cons_zero, List.set_cons_succ, i64_w, i32_w]
          rfl
         refine pure_ (i := 3) (N := some 36) (v := ?_) (a' := ?_) #[true, false, true, true, false, false, false, false, false, false] rfl rfl (any_of HT_.out (by kernel_rfl)) (fun _ _ _ h => h) (Or.inl ⟨by rfl, ?_⟩) ?_ ?_
         rotate_left
         ·intro w'
          go_simp
          with_reducible rfl
         rotate_left
         ·simp only [Act.put, List.setIfInBounds_toArray, List.set_cons_zero, List.set_cons_succ, i64_w, i32_w]
          rfl
         refine pure_ (i := 4) (N := some 37) (v := ?_) (a' := ?_) #[true, false, true, true, true, false, false, false, false, false] rfl rfl (any_of HT_.out (by kernel_rfl)) (fun _ _ _ h => h) (Or.inl ⟨by rfl, ?_⟩) ?_ ?_
         rotate_left
         ·intro w'
          go_simp
          with_reducible rfl
         rotate_left
         ·simp only [Act.put, List.setIfInBounds_toArray, List.set_cons_zero, List.set_cons_succ, i64_w, i32_w]
          rfl
         refine pure_ (i := 5) (N := some 38) (v := ?_) (a' := ?_) #[true, false, true, true, true, true, false, false, false, false] rfl rfl (any_of HT_.out (by kernel_rfl)) (fun _ _ _ h => h) (Or.inl ⟨by rfl, ?_⟩) ?_ ?_
         rotate_left
         ·intro w'
          go_simp
          with_reducible rfl
         rotate_left
         ·simp only [Act.put, List.setIfInBounds_toArray, List.set_cons_zero, List.set_cons_succ, i64_w, i32_w]
          rfl
         refine take_ (i := 1) (N := some 34) (v := ?_) (a' := ?_) #[true, true, true, true, true, true, false, false, false, false] rfl rfl (take_ofW HT_.out HW_.out (by kernel_rfl)) (fun _ _ _ h => h) (Or.inl ⟨by rfl, ?_⟩) hHeld ?_ ?_
         rotate_left
         ·rintro w' ⟨s0, s1, s2⟩
          go_simp
          with_reducible rfl
         rotate_left
         ·simp only [Act.put, List.setIfInBounds_toArray, List.set_cons_zero, List.set_cons_succ, i64_w, i32_w]
          rfl
         refine one_ (i := 6) (N := some 39) #[true, true, true, true, true, true, true, false, false, false] rfl rfl (one_of HT_.out (by kernel_rfl)) (by decide) (fun K hK => ?_)
         refine goes_ Try.func74 (by kernel_rfl) rfl #[.pointer (some ⟨g, 0, none⟩), .int .i64 (wrap64 (t658 + 2))] (by rfl) rfl rfl (by (try simp only [List.map_toArray, List.map_cons, List.map_nil]); first | done | rfl | (simp only [List.length_drop, List.length_take]; rfl)) ?_
         with_reducible refine (spec_l13Rd_pick.calls k1 g s0_0 t677 (wrap64 (t658 + 2)) t679 t680 w0 _ ?side1 ?side2 A27.out).mono ?_
         (case side1 => exact is84_2 NB0_654.out NB0_675.out HI0.out)
         (case side2 => exact bs3 (IsS84.ge HI0.out) GE654.out GE675.out HB.out)
         rintro e w72 ⟨rfl, hi, hb, hk⟩
         refine ⟨_, rfl, ?_⟩
         replace HO_676000 := am (Kd.R_mono (Kd.R_keep (IsS84.apart (show IsS84 w0 _ g s0_0 t677 from by exact is84_2 NB0_654.out NB0_675.out HI0.out) (rl HO_676000.out) (by decide)) hk (fun _ h => h.2)) (fun _ h => h.1))
         replace HO_676001 := am (Kd.R_mono (Kd.R_keep (IsS84.apart (show IsS84 w0 _ g s0_0 t677 from by exact is84_2 NB0_654.out NB0_675.out HI0.out) (rl HO_676001.out) (by decide)) hk (fun _ h => h.2)) (fun _ h => h.1))
         replace HO_676002 := am (Kd.R_mono (Kd.R_keep (IsS84.apart (show IsS84 w0 _ g s0_0 t677 from by exact is84_2 NB0_654.out NB0_675.out HI0.out) (rl HO_676002.out) (by decide)) hk (fun _ h => h.2)) (fun _ h => h.1))
         replace BK654 := kb hk BK654 NB654_0
         replace BK675 := kb hk BK675 NB675_0
         replace HK := am (KeepBut.trans (ks2 GW654.out GW675.out HK.out) hk (.inl rfl))
         replace HB := am (hb)
         replace HI0 := am (hi)
         (try clear hb hk hi)
         have p29 : 0 ≤ (x6_1 : Int) := of_decide_eq_true (by first | (with_reducible assumption) | assumption)
         have q29 : (x6_1 : Int) < ((x676001_1.length : Int) : Int) := of_decide_eq_true (by first | (with_reducible assumption) | assumption)
         obtain ⟨go29, co29, eo29, gb29, gl29, cl29, HG29⟩ := Kd.R_form HO_676001.out (by first | omega | (have hz_ := (Kd.R_reads' HO_676001.out).1; omega))
         (first | cases eo29 | (injection eo29 with ea_ en_ ec_; (first | subst ea_ | (injection ea_ with ea_; subst ea_)); subst ec_; clear en_))
         have GB29 := am gb29
         have GG29 := am HG29
         clear gb29 gl29 HG29
         obtain ⟨hx29_0, hf29_0⟩ := Kd.R_celln 0 HO_676001.out (x6_1 : Int) p29 q29
         replace p29 := eq_true p29
         replace q29 := eq_true q29
         have HN0_go29 := am (show g ≠ go29 from by have h_ := IsS84.own_ne HI0.out HO_676001.out (by decide); intro e_; exact h_ (by rw [e_]; rfl))
         have HP73 := Kd.R_putn HO_676001.out (x6_1 : Int) (wrap64 (t679 - 2))
         rw [← Ny681.out] at HP73
         have HQ73 := am HP73
         clear HP73
         refine hK.out _ _ ⟨(blk_cell BK675.out 0).trans rfl, (blk_cell BK675.out 1).trans rfl, (blk_cell BK675.out 2).trans rfl⟩ (fun hHeld => ?_)
         clear hK K
         refine norm_ (a' := ?_) ?_ ?_
         rotate_left
         ·show Act.put _ (some 39) _ = _
          simp only [Act.put, List.setIfInBounds_toArray, List.set_cons_zero, List.set_cons_succ, i64_w, i32_w]
          rfl
         refine pure_ (i := 7) (N := some 40) (v := ?_) (a' := ?_) #[true, true, true, true, true, true, true, true, false, false] rfl rfl (any_of HT_.out (by kernel_rfl)) (fun _ _ _ h => h) (Or.inl ⟨by rfl, ?_⟩) ?_ ?_
         rotate_left
         ·intro w'
          go_simp
          with_reducible rfl
         rotate_left
         ·simp only [Act.put, List.setIfInBounds_toArray, List.set_cons_zero, List.set_cons_succ, i64_w, i32_w]
          rfl
         refine pure_ (i := 8) (N := some 41) (v := ?_) (a' := ?_) #[true, true, true, true, true, true, true, true, true, false] rfl rfl (any_of HT_.out (by kernel_rfl)) (fun _ _ _ h => h) (Or.inl ⟨by rfl, ?_⟩) ?_ ?_
         rotate_left
         ·intro w'
          go_simp
          with_reducible rfl
         rotate_left
         ·simp only [Act.put, List.setIfInBounds_toArray, List.set_cons_zero, List.set_cons_succ, i64_w, i32_w]
          rfl
         refine last_ (i := 9) (N := none) #[true, true, true, true, true, true, true, true, true, true] rfl rfl (one_of HT_.out (by kernel_rfl)) (by decide) (fun K hK => ?_)
         refine skip_ (w1 := ?_) (by rfl) rfl ?_ ?_
         rotate_left
         ·go_simp
          rfl
         refine hK.out _ _ ?_
         clear hK K
         refine done_ (done_of HT_.out (by kernel_rfl)) ?_
         have n0_ : Aside0 (Kd.R (Kd.int .i64) 3 (w72.setCell ⟨go29, (x6_1 : Int).toNat, none⟩ (.int .i64 (wrap64 (t679 - 2)))) w.heap.size (fun k_ => some k_ ≠ (.slice (some ⟨go29, 0, none⟩) x676001_1.length co29 : Value).ownBlock ∧ some k_ ≠ (u676002 : Value).ownBlock) (.slice (some ⟨go26, 0, none⟩) x676000_1.length co26) y678) := ⟨rl (Kd.R_mono (Kd.R_far (p := ⟨go29, (x6_1 : Int).toNat, none⟩) (Kd.R_mono HO_676000.out (fun k_ hk => (⟨hk, fun e_ => hk.1 (by rw [e_]; rfl)⟩ : _ ∧ k_ ≠ go29))) (fun _ hk => hk.2) (.int .i64 (wrap64 (t679 - 2)))) (fun _ hk => by first | exact ⟨hk.1.1, hk.1.2⟩ | (simp only [ne_eq] at hk ⊢; simp only [hk, not_false_eq_true, and_self])))⟩
         have n1_ : Aside0 (Kd.R (Kd.int .i64) 3 (w72.setCell ⟨go29, (x6_1 : Int).toNat, none⟩ (.int .i64 (wrap64 (t679 - 2)))) w.heap.size (fun k_ => some k_ ≠ (.slice (some ⟨go26, 0, none⟩) x676000_1.length co26 : Value).ownBlock ∧ some k_ ≠ (u676002 : Value).ownBlock) (.slice (some ⟨go29, 0, none⟩) x676001_1.length co29) y681) := ⟨rl HQ73.out⟩
         have n2_ : Aside0 (Kd.R (Kd.int .i64) 3 (w72.setCell ⟨go29, (x6_1 : Int).toNat, none⟩ (.int .i64 (wrap64 (t679 - 2)))) w.heap.size (fun k_ => some k_ ≠ (.slice (some ⟨go26, 0, none⟩) x676000_1.length co26 : Value).ownBlock ∧ some k_ ≠ (.slice (some ⟨go29, 0, none⟩) x676001_1.length co29 : Value).ownBlock) u676002 x676002_1) := ⟨rl (Kd.R_mono (Kd.R_far (p := ⟨go29, (x6_1 : Int).toNat, none⟩) (Kd.R_mono HO_676002.out (fun k_ hk => (⟨hk, fun e_ => hk.2 (by rw [e_]; rfl)⟩ : _ ∧ k_ ≠ go29))) (fun _ hk => hk.2) (.int .i64 (wrap64 (t679 - 2)))) (fun _ hk => by first | exact ⟨hk.1.1, hk.1.2⟩ | (simp only [ne_eq] at hk ⊢; simp only [hk, not_false_eq_true, and_self])))⟩
         have n3_ : Aside0 ((w72.setCell ⟨go29, (x6_1 : Int).toNat, none⟩ (.int .i64 (wrap64 (t679 - 2)))).heap[gb654]? = some (.cells #[.slice none 0 0, .slice none 0 0, .slice none 0 0] 28 (0, 0))) := ⟨by (with_reducible repeat (first | refine blk_drewN ?_ _ | refine blk_drew ?_ | refine blk_alloc ?_ _)); refine blk_far ?_ (by have h_ := Kd.R_ne HO_676001.out BK654.out (by decide); intro e_; exact h_ (by rw [e_]; rfl)) _; (with_reducible repeat (first | refine blk_drewN ?_ _ | refine blk_drew ?_ | refine blk_alloc ?_ _)); exact BK654.out⟩
         have n4_ : Aside0 ((w72.setCell ⟨go29, (x6_1 : Int).toNat, none⟩ (.int .i64 (wrap64 (t679 - 2)))).heap[gb675]? = some (.cells #[.slice (some ⟨go26, 0, none⟩) x676000_1.length co26, .slice (some ⟨go29, 0, none⟩) x676001_1.length co29, u676002] 28 (0, 0))) := ⟨by (with_reducible repeat (first | refine blk_drewN ?_ _ | refine blk_drew ?_ | refine blk_alloc ?_ _)); refine blk_far ?_ (by have h_ := Kd.R_ne HO_676001.out BK675.out (by decide); intro e_; exact h_ (by rw [e_]; rfl)) _; (with_reducible repeat (first | refine blk_drewN ?_ _ | refine blk_drew ?_ | refine blk_alloc ?_ _)); exact BK675.out⟩
         have n5_ : Aside0 (IsS84 w0 (w72.setCell ⟨go29, (x6_1 : Int).toNat, none⟩ (.int .i64 (wrap64 (t679 - 2)))) g s0_0 t680) := ⟨by exact is84_3 HN0_go29.out NB0_654.out NB0_675.out HI0.out⟩
         have n6_ : Aside0 (KeepBut w (w72.setCell ⟨go29, (x6_1 : Int).toNat, none⟩ (.int .i64 (wrap64 (t679 - 2)))) g none) := ⟨by exact ks3 GB29.out GW654.out GW675.out HK.out⟩
         have n7_ : Aside0 (Below w0.heap.size w0 (w72.setCell ⟨go29, (x6_1 : Int).toNat, none⟩ (.int .i64 (wrap64 (t679 - 2))))) := ⟨by repeat (first | (with_reducible first | exact HB.out | apply below_alloc | apply pw_below_drewN | apply below_drew1 | refine below_set ?_ (Nat.le_trans HL.out GB29.out) | refine below_set ?_ (IsS84.ge HI0.out) | refine below_set ?_ GE654.out | refine below_set ?_ GE675.out) | exact HB.out)⟩
         (try clear HO_676000)
         (try clear HO_676001)
         (try clear HO_676002)
         (try clear BK654)
         (try clear BK675)
         (try clear HI0)
         (try clear HK)
         (try clear HB)
         generalize (w72.setCell ⟨go29, (x6_1 : Int).toNat, none⟩ (.int .i64 (wrap64 (t679 - 2)))) = w74 at n0_ n1_ n2_ n3_ n4_ n5_ n6_ n7_ ⊢
         have HO_676000 := n0_
         have HO_676001 := n1_
         have HO_676002 := n2_
         have BK654 := n3_
         have BK675 := n4_
         have HI0 := n5_
         have HK := n6_
         have HB := n7_
         clear n0_ n1_ n2_ n3_ n4_ n5_ n6_ n7_
         have hnb75 := NB675_654.out
         have hnc75 := NB654_675.out
         have hnb76 := NB675_0.out
         have hnc76 := NB0_675.out
         obtain ⟨hcz77_0, hcz77_1, hcz77_2, hfz77_0, hfz77_1, hfz77_2⟩ := cf3 BK675
         have p682 : 0 ≤ (x6_1 : Int) := of_decide_eq_true (by first | (with_reducible assumption) | assumption)
         have q682 : x6_1 < (y678.length : Int) := (by have h_ : (x6_1 : Int) < ((x676000_1.length : Int) : Int) := of_decide_eq_true (by first | (with_reducible assumption) | assumption); first | (have e_ := (Kd.R_reads' HO_676000.out).1; omega) | simpa only [Ny678.out, List.length_set] using h_)
         have ql682 : ((x6_1 : Int) < ((x676000_1.length : Int) : Int)) = True := eq_true (of_decide_eq_true (by first | (with_reducible assumption) | assumption))
         obtain ⟨ad682, e682, hx682_0⟩ := Kd.at_int (Kd.R_reads' HO_676000.out).2.2 x6_1 p682 q682
         obtain rfl : (⟨go26, 0, none⟩ : Addr) = ad682 := (by injection e682)
         (first | simp only [add_plain] at hx682_0 | simp only [add_at] at hx682_0 | simp only [Addr.add, Nat.zero_add] at hx682_0 | skip)
         replace p682 := eq_true p682
         replace q682 := eq_true q682
         have p64 : 0 ≤ (x6_1 : Int) := of_decide_eq_true (by first | (with_reducible assumption) | assumption)
         have q64 : (x6_1 : Int) < ((x676001_1.length : Int) : Int) := of_decide_eq_true (by first | (with_reducible assumption) | assumption)
         replace p64 := eq_true p64
         replace q64 := eq_true q64
         have p66 : 0 ≤ (x6_1 : Int) := of_decide_eq_true (by first | (with_reducible assumption) | assumption)
         have q66 : (x6_1 : Int) < ((x676001_1.length : Int) : Int) := of_decide_eq_true (by first | (with_reducible assumption) | assumption)
         replace p66 := eq_true p66
         replace q66 := eq_true q66
         obtain ⟨hy78_, hz78_⟩ := Kd.R_celln 0 HO_676001.out (x6_1 : Int) (of_decide_eq_true (by first | (with_reducible assumption) | assumption)) (of_decide_eq_true (by first | (with_reducible assumption) | assumption))
         replace hy78_ := hy78_.trans (congrArg (fun z_ => some (Value.int .i64 z_)) (show rdOf 0 y681 x6_1 = (wrap64 (t679 - 2)) from by rw [Ny681.out]; exact rd_set_eq x676001_1 x6_1 (wrap64 (t679 - 2)) (of_eq_true (by assumption)) (of_eq_true (by assumption))))
         have HP78 := Kd.R_putg HO_676001.out (x6_1 : Int) (-1)
         try go_wp2_with (first | ((with_reducible refine gate_store (t := 3) (p := 62) rfl ?_); refine store_event (t := 3) (p := 62) (v := ?vo_w79) (w1 := (w74.setCell ⟨go29, (x6_1 : Int).toNat, none⟩ (.int .i64 (-1)))) ?hg ?ho ?hn ?hr ?_; (case ho => rfl); (case hg => rfl); (case hn => rfl); (case hr => first | (go_simp; done) | (go_simp; rfl)); intro w79 hw; have hg : w74.grownBy w79 (some go29) := (by rw [hw]; exact HP78.2); have hp_ : Kd.R (Kd.int .i64) 3 w79 w.heap.size (fun k_ => some k_ ≠ (.slice (some ⟨go26, 0, none⟩) x676000_1.length co26 : Value).ownBlock ∧ some k_ ≠ (u676002 : Value).ownBlock) (.slice (some ⟨go29, 0, none⟩) x676001_1.length co29) y687 := (by rw [hw, Ny687.out]; exact HP78.1); clear HP78; replace HO_676000 := am (Kd.R_after (v := (.slice (some ⟨go29, 0, none⟩) x676001_1.length co29)) (v1 := (.slice (some ⟨go29, 0, none⟩) x676001_1.length co29)) (ok := (fun k_ => some k_ ≠ (u676002 : Value).ownBlock)) (rl (Kd.R_mono HO_676000.out (fun _ hk => by first | exact ⟨hk.2, hk.1⟩ | (simp only [ne_eq] at hk ⊢; simp only [hk, not_false_eq_true, and_self])))) hg (.inl rfl)); replace HO_676002 := am (Kd.R_after (v := (.slice (some ⟨go29, 0, none⟩) x676001_1.length co29)) (v1 := (.slice (some ⟨go29, 0, none⟩) x676001_1.length co29)) (ok := (fun k_ => some k_ ≠ (.slice (some ⟨go26, 0, none⟩) x676000_1.length co26 : Value).ownBlock)) (rl HO_676002.out) hg (.inl rfl)); replace BK654 := am (blk_grown (g := gb654) (o := .cells #[.slice none 0 0, .slice none 0 0, .slice none 0 0] 28 (0, 0)) (kl BK654.out) hg (Kd.R_ne HO_676001.out BK654.out (by decide))); replace BK675 := am (blk_grown (g := gb675) (o := .cells #[.slice (some ⟨go26, 0, none⟩) x676000_1.length co26, .slice (some ⟨go29, 0, none⟩) x676001_1.length co29, u676002] 28 (0, 0)) (kl BK675.out) hg (Kd.R_ne HO_676001.out BK675.out (by decide))); replace HI0 := am (IsS84.grown (is84_2 NB0_654.out NB0_675.out HI0.out) hg (IsS84.own_ne HI0.out HO_676001.out (by decide))); replace HB := am ((by rw [hw]; exact below_set (HB.out) (Nat.le_trans HL.out GB29.out) : Below w0.heap.size w0 w79)); replace HK := am (KeepBut.trans (ks2 GW654.out GW675.out HK.out) (KeepBut.of_grown hg g) (Kd.R_base2 HO_676001.out)); replace HO_676001 := am (hp_); clear hg hw hp_))
         go_roundg k1
         case measure => have := HK1.out; omega
         case rel => exact ⟨(wrap64 (x6_1 + 1)), (t680), (y678), (y687), (x676002_1), (.slice (some ⟨go26, 0, none⟩) x676000_1.length co26), (.slice (some ⟨go29, 0, none⟩) x676001_1.length co29), (u676002), (by first | rfl | (simp; done) | (simp [*]; done)), H', ⟨by have := HK1.out; omega⟩, ⟨rl (Kd.R_mono HO_676000.out (fun _ hk => by first | exact ⟨hk.2, hk.1⟩ | (simp only [ne_eq] at hk ⊢; simp only [hk, not_false_eq_true, and_self])))⟩, ⟨rl HO_676001.out⟩, ⟨rl HO_676002.out⟩, ⟨kl BK654.out⟩, ⟨kl BK675.out⟩, ⟨by exact is84_2 NB0_654.out NB0_675.out HI0.out⟩, ⟨by exact ks2 GW654.out GW675.out HK.out⟩, ⟨by exact bs3 (IsS84.ge HI0.out) GE654.out GE675.out HB.out⟩⟩
        ·rw [if_neg c65] at H
         have c65b0 : decide ((wrap64 (t679 - 2)) < (-1)) = false := decide_eq_false c65
         clear c65
         have H' := am H
         clear H
         try go_wp2
         replace HO_676000 := am (Kd.R_drew HO_676000.out)
         replace HO_676001 := am (Kd.R_drew HO_676001.out)
         replace HO_676002 := am (Kd.R_drew HO_676002.out)
         replace BK654 := am (blk_drew BK654.out)
         replace BK675 := am (blk_drew BK675.out)
         replace HI0 := am (IsS84.drew HI0.out)
         replace HK := am (keep_drew HK.out)
         replace HB := am (below_drew1 HB.out)
         refine start_ (n := 10) (S := fun w' => w'.cell? ⟨gb675, 0, none⟩ = some (u676000) ∧ w'.cell? ⟨gb675, 1, none⟩ = some (u676001) ∧ w'.cell? ⟨gb675, 2, none⟩ = some (u676002)) (ds := [9]) #[false, false, false, false, false, false, false, false, false, false] (by kernel_rfl) rfl rfl ⟨(blk_cell BK675.out 0).trans rfl, (blk_cell BK675.out 1).trans rfl, (blk_cell BK675.out 2).trans rfl⟩ (fun hHeld => ?_); refine with_tabW spec_l1Draw.tab6 spec_l1Draw.bits6 (fun HT_ HW_ => ?_)
         generalize wr.drew = w80 at HO_676000 HO_676001 HO_676002 BK654 BK675 HI0 HK HB hHeld ⊢
         refine pure_ (i := 0) (N := some 24) (v := ?_) (a' := ?_) #[true, false, false, false, false, false, false, false, false, false] rfl rfl (any_of HT_.out (by kernel_rfl)) (fun _ _ _ h => h) (Or.inl ⟨by rfl, ?_⟩) ?_ ?_
         rotate_left
         ·intro w'
          go_simp
          with_reducible rfl
         rotate_left
         ·simp only [Act.put, List.setIfInBounds_toArray, List.set_cons_zero, List.set_cons_succ, i64_w, i32_w]
          rfl
         refine pure_ (i := 2) (N := some 26) (v := ?_) (a' := ?_) #[true, false, true, false, false, false, false, false, false, false] rfl rfl (any_of HT_.out (by kernel_rfl)) (fun _ _ _ h => h) (Or.inl ⟨by rfl, ?_⟩) ?_ ?_
         rotate_left
         ·intro w'
          go_simp
          with_reducible rfl
         rotate_left
         ·simp only [Act.put, List.setIfInBounds_toArray, List.set_cons_zero, List.set_cons_succ, i64_w, i32_w]
          rfl
         refine pure_ (i := 3) (N := some 27) (v := ?_) (a' := ?_) #[true, false, true, true, false, false, false, false, false, false] rfl rfl (any_of HT_.out (by kernel_rfl)) (fun _ _ _ h => h) (Or.inl ⟨by rfl, ?_⟩) ?_ ?_
         rotate_left
         ·intro w'
          go_simp
          with_reducible rfl
         rotate_left
         ·simp only [Act.put, List.setIfInBounds_toArray, List.set_cons_zero, List.set_cons_succ, i64_w, i32_w]
          rfl
         refine pure_ (i := 4) (N := some 28) (v := ?_) (a' := ?_) #[true, false, true, true, true, false, false, false, false, false] rfl rfl (any_of HT_.out (by kernel_rfl)) (fun _ _ _ h => h) (Or.inl ⟨by rfl, ?_⟩) ?_ ?_
         rotate_left
         ·intro w'
          go_simp
          with_reducible rfl
         rotate_left
         ·simp only [Act.put, List.setIfInBounds_toArray, List.set_cons_zero, List.set_cons_succ, i64_w, i32_w]
          rfl
         refine pure_ (i := 5) (N := some 29) (v := ?_) (a' := ?_) #[true, false, true, true, true, true, false, false, false, false] rfl rfl (any_of HT_.out (by kernel_rfl)) (fun _ _ _ h => h) (Or.inl ⟨by rfl, ?_⟩) ?_ ?_
         rotate_left
         ·intro w'
          go_simp
          with_reducible rfl
         rotate_left
         ·simp only [Act.put, List.setIfInBounds_toArray, List.set_cons_zero, List.set_cons_succ, i64_w, i32_w]
          rfl
         refine take_ (i := 1) (N := some 25) (v := ?_) (a' := ?_) #[true, true, true, true, true, true, false, false, false, false] rfl rfl (take_ofW HT_.out HW_.out (by kernel_rfl)) (fun _ _ _ h => h) (Or.inl ⟨by rfl, ?_⟩) hHeld ?_ ?_
         rotate_left
         ·rintro w' ⟨s0, s1, s2⟩
          go_simp
          with_reducible rfl
         rotate_left
         ·simp only [Act.put, List.setIfInBounds_toArray, List.set_cons_zero, List.set_cons_succ, i64_w, i32_w]
          rfl
         refine one_ (i := 6) (N := some 30) #[true, true, true, true, true, true, true, false, false, false] rfl rfl (one_of HT_.out (by kernel_rfl)) (by decide) (fun K hK => ?_)
         refine goes_ Try.func74 (by kernel_rfl) rfl #[.pointer (some ⟨g, 0, none⟩), .int .i64 (wrap64 (t658 + 2))] (by rfl) rfl rfl (by (try simp only [List.map_toArray, List.map_cons, List.map_nil]); first | done | rfl | (simp only [List.length_drop, List.length_take]; rfl)) ?_
         with_reducible refine (spec_l13Rd_pick.calls k1 g s0_0 x1001_1 (wrap64 (t658 + 2)) t676 t677 w0 _ ?side1 ?side2 A23.out).mono ?_
         (case side1 => exact is84_2 NB0_654.out NB0_675.out HI0.out)
         (case side2 => exact bs3 (IsS84.ge HI0.out) GE654.out GE675.out HB.out)
         rintro e w81 ⟨rfl, hi, hb, hk⟩
         refine ⟨_, rfl, ?_⟩
         replace HO_676000 := am (Kd.R_mono (Kd.R_keep (IsS84.apart (show IsS84 w0 _ g s0_0 x1001_1 from by exact is84_2 NB0_654.out NB0_675.out HI0.out) (rl HO_676000.out) (by decide)) hk (fun _ h => h.2)) (fun _ h => h.1))
         replace HO_676001 := am (Kd.R_mono (Kd.R_keep (IsS84.apart (show IsS84 w0 _ g s0_0 x1001_1 from by exact is84_2 NB0_654.out NB0_675.out HI0.out) (rl HO_676001.out) (by decide)) hk (fun _ h => h.2)) (fun _ h => h.1))
         replace HO_676002 := am (Kd.R_mono (Kd.R_keep (IsS84.apart (show IsS84 w0 _ g s0_0 x1001_1 from by exact is84_2 NB0_654.out NB0_675.out HI0.out) (rl HO_676002.out) (by decide)) hk (fun _ h => h.2)) (fun _ h => h.1))
         replace BK654 := kb hk BK654 NB654_0
         replace BK675 := kb hk BK675 NB675_0
         replace HK := am (KeepBut.trans (ks2 GW654.out GW675.out HK.out) hk (.inl rfl))
         replace HB := am (hb)
         replace HI0 := am (hi)
         (try clear hb hk hi)
         have p26 : 0 ≤ (x6_1 : Int) := of_decide_eq_true (by first | (with_reducible assumption) | assumption)
         have q26 : (x6_1 : Int) < ((x676000_1.length : Int) : Int) := of_decide_eq_true (by first | (with_reducible assumption) | assumption)
         obtain ⟨go26, co26, eo26, gb26, gl26, cl26, HG26⟩ := Kd.R_form HO_676000.out (by first | omega | (have hz_ := (Kd.R_reads' HO_676000.out).1; omega))
         (first | cases eo26 | (injection eo26 with ea_ en_ ec_; (first | subst ea_ | (injection ea_ with ea_; subst ea_)); subst ec_; clear en_))
         have GB26 := am gb26
         have GG26 := am HG26
         clear gb26 gl26 HG26
         obtain ⟨hx26_0, hf26_0⟩ := Kd.R_celln 0 HO_676000.out (x6_1 : Int) p26 q26
         replace p26 := eq_true p26
         replace q26 := eq_true q26
         have HN0_go26 := am (show g ≠ go26 from by have h_ := IsS84.own_ne HI0.out HO_676000.out (by decide); intro e_; exact h_ (by rw [e_]; rfl))
         have HP82 := Kd.R_putn HO_676000.out (x6_1 : Int) (wrap64 (t676 - 1))
         rw [← Ny678.out] at HP82
         have HQ82 := am HP82
         clear HP82
         refine hK.out _ _ ⟨(blk_cell BK675.out 0).trans rfl, (blk_cell BK675.out 1).trans rfl, (blk_cell BK675.out 2).trans rfl⟩ (fun hHeld => ?_)
         clear hK K
         refine norm_ (a' := ?_) ?_ ?_
         rotate_left
         ·show Act.put _ (some 30) _ = _
          simp only [Act.put, List.setIfInBounds_toArray, List.set_cons_zero, List.set_cons_succ, i64_w, i32_w]
          rfl
         refine pure_ (i := 7) (N := some 31) (v := ?_) (a' := ?_) #[true, true, true, true, true, true, true, true, false, false] rfl rfl (any_of HT_.out (by kernel_rfl)) (fun _ _ _ h => h) (Or.inl ⟨by rfl, ?_⟩) ?_ ?_
         rotate_left
         ·intro w'
          go_simp
          with_reducible rfl
         rotate_left
         ·simp only [Act.put, List.setIfInBounds_toArray, List.set_cons_zero, List.set_cons_succ, i64_w, i32_w]
          rfl
         refine pure_ (i := 8) (N := some 32) (v := ?_) (a' := ?_) #[true, true, true, true, true, true, true, true, true, false] rfl rfl (any_of HT_.out (by kernel_rfl)) (fun _ _ _ h => h) (Or.inl ⟨by rfl, ?_⟩) ?_ ?_
         rotate_left
         ·intro w'
          go_simp
          with_reducible rfl
         rotate_left
         ·simp only [Act.put, List.setIfInBounds_toArray, List.set_cons_zero, List.set_cons_succ, i64_w, i32_w]
          rfl
         refine last_ (i := 9) (N := none) #[true, true, true, true, true, true, true, true, true, true] rfl rfl (one_of HT_.out (by kernel_rfl)) (by decide) (fun K hK => ?_)
         refine skip_ (w1 := ?_) (by rfl) rfl ?_ ?_
         rotate_left
         ·go_simp
          rfl
         refine hK.out _ _ ?_
         clear hK K
         refine done_ (done_of HT_.out (by kernel_rfl)) ?_
         try go_wp2
         have n0_ : Aside0 (Kd.R (Kd.int .i64) 3 (w81.setCell ⟨go26, (x6_1 : Int).toNat, none⟩ (.int .i64 (wrap64 (t676 - 1)))) w.heap.size (fun k_ => some k_ ≠ (u676001 : Value).ownBlock ∧ some k_ ≠ (u676002 : Value).ownBlock) (.slice (some ⟨go26, 0, none⟩) x676000_1.length co26) y678) := ⟨rl HQ82.out⟩
         have n1_ : Aside0 (Kd.R (Kd.int .i64) 3 (w81.setCell ⟨go26, (x6_1 : Int).toNat, none⟩ (.int .i64 (wrap64 (t676 - 1)))) w.heap.size (fun k_ => some k_ ≠ (.slice (some ⟨go26, 0, none⟩) x676000_1.length co26 : Value).ownBlock ∧ some k_ ≠ (u676002 : Value).ownBlock) u676001 x676001_1) := ⟨rl (Kd.R_mono (Kd.R_far (p := ⟨go26, (x6_1 : Int).toNat, none⟩) (Kd.R_mono HO_676001.out (fun k_ hk => (⟨hk, fun e_ => hk.1 (by rw [e_]; rfl)⟩ : _ ∧ k_ ≠ go26))) (fun _ hk => hk.2) (.int .i64 (wrap64 (t676 - 1)))) (fun _ hk => by first | exact ⟨hk.1.1, hk.1.2⟩ | (simp only [ne_eq] at hk ⊢; simp only [hk, not_false_eq_true, and_self])))⟩
         have n2_ : Aside0 (Kd.R (Kd.int .i64) 3 (w81.setCell ⟨go26, (x6_1 : Int).toNat, none⟩ (.int .i64 (wrap64 (t676 - 1)))) w.heap.size (fun k_ => some k_ ≠ (.slice (some ⟨go26, 0, none⟩) x676000_1.length co26 : Value).ownBlock ∧ some k_ ≠ (u676001 : Value).ownBlock) u676002 x676002_1) := ⟨rl (Kd.R_mono (Kd.R_far (p := ⟨go26, (x6_1 : Int).toNat, none⟩) (Kd.R_mono HO_676002.out (fun k_ hk => (⟨hk, fun e_ => hk.1 (by rw [e_]; rfl)⟩ : _ ∧ k_ ≠ go26))) (fun _ hk => hk.2) (.int .i64 (wrap64 (t676 - 1)))) (fun _ hk => by first | exact ⟨hk.1.1, hk.1.2⟩ | (simp only [ne_eq] at hk ⊢; simp only [hk, not_false_eq_true, and_self])))⟩
         have n3_ : Aside0 ((w81.setCell ⟨go26, (x6_1 : Int).toNat, none⟩ (.int .i64 (wrap64 (t676 - 1)))).heap[gb654]? = some (.cells #[.slice none 0 0, .slice none 0 0, .slice none 0 0] 28 (0, 0))) := ⟨by (with_reducible repeat (first | refine blk_drewN ?_ _ | refine blk_drew ?_ | refine blk_alloc ?_ _)); refine blk_far ?_ (by have h_ := Kd.R_ne HO_676000.out BK654.out (by decide); intro e_; exact h_ (by rw [e_]; rfl)) _; (with_reducible repeat (first | refine blk_drewN ?_ _ | refine blk_drew ?_ | refine blk_alloc ?_ _)); exact BK654.out⟩
         have n4_ : Aside0 ((w81.setCell ⟨go26, (x6_1 : Int).toNat, none⟩ (.int .i64 (wrap64 (t676 - 1)))).heap[gb675]? = some (.cells #[.slice (some ⟨go26, 0, none⟩) x676000_1.length co26, u676001, u676002] 28 (0, 0))) := ⟨by (with_reducible repeat (first | refine blk_drewN ?_ _ | refine blk_drew ?_ | refine blk_alloc ?_ _)); refine blk_far ?_ (by have h_ := Kd.R_ne HO_676000.out BK675.out (by decide); intro e_; exact h_ (by rw [e_]; rfl)) _; (with_reducible repeat (first | refine blk_drewN ?_ _ | refine blk_drew ?_ | refine blk_alloc ?_ _)); exact BK675.out⟩
         have n5_ : Aside0 (IsS84 w0 (w81.setCell ⟨go26, (x6_1 : Int).toNat, none⟩ (.int .i64 (wrap64 (t676 - 1)))) g s0_0 t677) := ⟨by exact is84_3 HN0_go26.out NB0_654.out NB0_675.out HI0.out⟩
         have n6_ : Aside0 (KeepBut w (w81.setCell ⟨go26, (x6_1 : Int).toNat, none⟩ (.int .i64 (wrap64 (t676 - 1)))) g none) := ⟨by exact ks3 GB26.out GW654.out GW675.out HK.out⟩
         have n7_ : Aside0 (Below w0.heap.size w0 (w81.setCell ⟨go26, (x6_1 : Int).toNat, none⟩ (.int .i64 (wrap64 (t676 - 1))))) := ⟨by repeat (first | (with_reducible first | exact HB.out | apply below_alloc | apply pw_below_drewN | apply below_drew1 | refine below_set ?_ (Nat.le_trans HL.out GB26.out) | refine below_set ?_ (IsS84.ge HI0.out) | refine below_set ?_ GE654.out | refine below_set ?_ GE675.out) | exact HB.out)⟩
         (try clear HO_676000)
         (try clear HO_676001)
         (try clear HO_676002)
         (try clear BK654)
         (try clear BK675)
         (try clear HI0)
         (try clear HK)
         (try clear HB)
         generalize (w81.setCell ⟨go26, (x6_1 : Int).toNat, none⟩ (.int .i64 (wrap64 (t676 - 1)))) = w83 at n0_ n1_ n2_ n3_ n4_ n5_ n6_ n7_ ⊢
         have HO_676000 := n0_
         have HO_676001 := n1_
         have HO_676002 := n2_
         have BK654 := n3_
         have BK675 := n4_
         have HI0 := n5_
         have HK := n6_
         have HB := n7_
         clear n0_ n1_ n2_ n3_ n4_ n5_ n6_ n7_
         replace HO_676000 := am (Kd.R_drew HO_676000.out)
         replace HO_676001 := am (Kd.R_drew HO_676001.out)
         replace HO_676002 := am (Kd.R_drew HO_676002.out)
         replace BK654 := am (blk_drew BK654.out)
         replace BK675 := am (blk_drew BK675.out)
         replace HI0 := am (IsS84.drew HI0.out)
         replace HK := am (keep_drew HK.out)
         replace HB := am (below_drew1 HB.out)
         refine start_ (n := 10) (S := fun w' => w'.cell? ⟨gb675, 0, none⟩ = some (.slice (some ⟨go26, 0, none⟩) x676000_1.length co26) ∧ w'.cell? ⟨gb675, 1, none⟩ = some (u676001) ∧ w'.cell? ⟨gb675, 2, none⟩ = some (u676002)) (ds := [9]) #[false, false, false, false, false, false, false, false, false, false] (by kernel_rfl) rfl rfl ⟨(blk_cell BK675.out 0).trans rfl, (blk_cell BK675.out 1).trans rfl, (blk_cell BK675.out 2).trans rfl⟩ (fun hHeld => ?_); refine with_tabW spec_l1Draw.tab7 spec_l1Draw.bits7 (fun HT_ HW_ => ?_)
         generalize w83.drew = w84 at HO_676000 HO_676001 HO_676002 BK654 BK675 HI0 HK HB HQ82 hHeld ⊢
         refine pure_ (i := 0) (N := some 33) (v := ?_) (a' := ?_) #[true, false, false, false, false, false, false, false, false, false] rfl rfl (any_of HT_.out (by kernel_rfl)) (fun _ _ _ h => h) (Or.inl ⟨by rfl, ?_⟩) ?_ ?_
         rotate_left
         ·intro w'
          go_simp
          with_reducible rfl
         rotate_left
         ·simp only [Act.put, List.setIfInBounds_toArray, List.set_cons_zero, List.set_cons_succ, i64_w, i32_w]
          rfl
         refine pure_ (i := 2) (N := some 35) (v := ?_) (a' := ?_) #[true, false, true, false, false, false, false, false, false, false] rfl rfl (any_of HT_.out (by kernel_rfl)) (fun _ _ _ h => h) (Or.inl ⟨by rfl, ?_⟩) ?_ ?_
         rotate_left
         ·intro w'
          go_simp
          with_reducible rfl
         rotate_left
         ·simp only [Act.put, List.setIfInBounds_toArray, List.set_cons_zero, List.set_cons_succ, i64_w, i32_w]
          rfl
         refine pure_ (i := 3) (N := some 36) (v := ?_) (a' := ?_) #[true, false, true, true, false, false, false, false, false, false] rfl rfl (any_of HT_.out (by kernel_rfl)) (fun _ _ _ h => h) (Or.inl ⟨by rfl, ?_⟩) ?_ ?_
         rotate_left
         ·intro w'
          go_simp
          with_reducible rfl
         rotate_left
         ·simp only [Act.put, List.setIfInBounds_toArray, List.set_cons_zero, List.set_cons_succ, i64_w, i32_w]
          rfl
         refine pure_ (i := 4) (N := some 37) (v := ?_) (a' := ?_) #[true, false, true, true, true, false, false, false, false, false] rfl rfl (any_of HT_.out (by kernel_rfl)) (fun _ _ _ h => h) (Or.inl ⟨by rfl, ?_⟩) ?_ ?_
         rotate_left
         ·intro w'
          go_simp
          with_reducible rfl
         rotate_left
         ·simp only [Act.put, List.setIfInBounds_toArray, List.set_cons_zero, List.set_cons_succ, i64_w, i32_w]
          rfl
         refine pure_ (i := 5) (N := some 38) (v := ?_) (a' := ?_) #[true, false, true, true, true, true, false, false, false, false] rfl rfl (any_of HT_.out (by kernel_rfl)) (fun _ _ _ h => h) (Or.inl ⟨by rfl, ?_⟩) ?_ ?_
         rotate_left
         ·intro w'
          go_simp
          with_reducible rfl
         rotate_left
         ·simp only [Act.put, List.setIfInBounds_toArray, List.set_cons_zero, List.set_cons_succ, i64_w, i32_w]
          rfl
         refine take_ (i := 1) (N := some 34) (v := ?_) (a' := ?_) #[true, true, true, true, true, true, false, false, false, false] rfl rfl (take_ofW HT_.out HW_.out (by kernel_rfl)) (fun _ _ _ h => h) (Or.inl ⟨by rfl, ?_⟩) hHeld ?_ ?_
         rotate_left
         ·rintro w' ⟨s0, s1, s2⟩
          go_simp
          with_reducible rfl
         rotate_left
         ·simp only [Act.put, List.setIfInBounds_toArray, List.set_cons_zero, List.set_cons_succ, i64_w, i32_w]
          rfl
         refine one_ (i := 6) (N := some 39) #[true, true, true, true, true, true, true, false, false, false] rfl rfl (one_of HT_.out (by kernel_rfl)) (by decide) (fun K hK => ?_)
         refine goes_ Try.func74 (by kernel_rfl) rfl #[.pointer (some ⟨g, 0, none⟩), .int .i64 (wrap64 (t658 + 2))] (by rfl) rfl rfl (by (try simp only [List.map_toArray, List.map_cons, List.map_nil]); first | done | rfl | (simp only [List.length_drop, List.length_take]; rfl)) ?_
         with_reducible refine (spec_l13Rd_pick.calls k1 g s0_0 t677 (wrap64 (t658 + 2)) t679 t680 w0 _ ?side1 ?side2 A27.out).mono ?_
         (case side1 => exact is84_2 NB0_654.out NB0_675.out HI0.out)
         (case side2 => exact bs3 (IsS84.ge HI0.out) GE654.out GE675.out HB.out)
         rintro e w85 ⟨rfl, hi, hb, hk⟩
         refine ⟨_, rfl, ?_⟩
         replace HO_676000 := am (Kd.R_mono (Kd.R_keep (IsS84.apart (show IsS84 w0 _ g s0_0 t677 from by exact is84_2 NB0_654.out NB0_675.out HI0.out) (rl HO_676000.out) (by decide)) hk (fun _ h => h.2)) (fun _ h => h.1))
         replace HO_676001 := am (Kd.R_mono (Kd.R_keep (IsS84.apart (show IsS84 w0 _ g s0_0 t677 from by exact is84_2 NB0_654.out NB0_675.out HI0.out) (rl HO_676001.out) (by decide)) hk (fun _ h => h.2)) (fun _ h => h.1))
         replace HO_676002 := am (Kd.R_mono (Kd.R_keep (IsS84.apart (show IsS84 w0 _ g s0_0 t677 from by exact is84_2 NB0_654.out NB0_675.out HI0.out) (rl HO_676002.out) (by decide)) hk (fun _ h => h.2)) (fun _ h => h.1))
         replace BK654 := kb hk BK654 NB654_0
         replace BK675 := kb hk BK675 NB675_0
         replace HK := am (KeepBut.trans (ks2 GW654.out GW675.out HK.out) hk (.inl rfl))
         replace HB := am (hb)
         replace HI0 := am (hi)
         (try clear hb hk hi)
         have p29 : 0 ≤ (x6_1 : Int) := of_decide_eq_true (by first | (with_reducible assumption) | assumption)
         have q29 : (x6_1 : Int) < ((x676001_1.length : Int) : Int) := of_decide_eq_true (by first | (with_reducible assumption) | assumption)
         obtain ⟨go29, co29, eo29, gb29, gl29, cl29, HG29⟩ := Kd.R_form HO_676001.out (by first | omega | (have hz_ := (Kd.R_reads' HO_676001.out).1; omega))
         (first | cases eo29 | (injection eo29 with ea_ en_ ec_; (first | subst ea_ | (injection ea_ with ea_; subst ea_)); subst ec_; clear en_))
         have GB29 := am gb29
         have GG29 := am HG29
         clear gb29 gl29 HG29
         obtain ⟨hx29_0, hf29_0⟩ := Kd.R_celln 0 HO_676001.out (x6_1 : Int) p29 q29
         replace p29 := eq_true p29
         replace q29 := eq_true q29
         have HN0_go29 := am (show g ≠ go29 from by have h_ := IsS84.own_ne HI0.out HO_676001.out (by decide); intro e_; exact h_ (by rw [e_]; rfl))
         have HP86 := Kd.R_putn HO_676001.out (x6_1 : Int) (wrap64 (t679 - 2))
         rw [← Ny681.out] at HP86
         have HQ86 := am HP86
         clear HP86
         refine hK.out _ _ ⟨(blk_cell BK675.out 0).trans rfl, (blk_cell BK675.out 1).trans rfl, (blk_cell BK675.out 2).trans rfl⟩ (fun hHeld => ?_)
         clear hK K
         refine norm_ (a' := ?_) ?_ ?_
         rotate_left
         ·show Act.put _ (some 39) _ = _
          simp only [Act.put, List.setIfInBounds_toArray, List.set_cons_zero, List.set_cons_succ, i64_w, i32_w]
          rfl
         refine pure_ (i := 7) (N := some 40) (v := ?_) (a' := ?_) #[true, true, true, true, true, true, true, true, false, false] rfl rfl (any_of HT_.out (by kernel_rfl)) (fun _ _ _ h => h) (Or.inl ⟨by rfl, ?_⟩) ?_ ?_
         rotate_left
         ·intro w'
          go_simp
          with_reducible rfl
         rotate_left
         ·simp only [Act.put, List.setIfInBounds_toArray, List.set_cons_zero, List.set_cons_succ, i64_w, i32_w]
          rfl
         refine pure_ (i := 8) (N := some 41) (v := ?_) (a' := ?_) #[true, true, true, true, true, true, true, true, true, false] rfl rfl (any_of HT_.out (by kernel_rfl)) (fun _ _ _ h => h) (Or.inl ⟨by rfl, ?_⟩) ?_ ?_
         rotate_left
         ·intro w'
          go_simp
          with_reducible rfl
         rotate_left
         ·simp only [Act.put, List.setIfInBounds_toArray, List.set_cons_zero, List.set_cons_succ, i64_w, i32_w]
          rfl
         refine last_ (i := 9) (N := none) #[true, true, true, true, true, true, true, true, true, true] rfl rfl (one_of HT_.out (by kernel_rfl)) (by decide) (fun K hK => ?_)
         refine skip_ (w1 := ?_) (by rfl) rfl ?_ ?_
         rotate_left
         ·go_simp
          rfl
         refine hK.out _ _ ?_
         clear hK K
         refine done_ (done_of HT_.out (by kernel_rfl)) ?_
         have hnb87 := NB675_654.out
         have hnc87 := NB654_675.out
         have hnb88 := NB675_0.out
         have hnc88 := NB0_675.out
         obtain ⟨hcz89_0, hcz89_1, hcz89_2, hfz89_0, hfz89_1, hfz89_2⟩ := cf3 BK675
         have p682 : 0 ≤ (x6_1 : Int) := of_decide_eq_true (by first | (with_reducible assumption) | assumption)
         have q682 : x6_1 < (y678.length : Int) := (by have h_ : (x6_1 : Int) < ((x676000_1.length : Int) : Int) := of_decide_eq_true (by first | (with_reducible assumption) | assumption); first | (have e_ := (Kd.R_reads' HO_676000.out).1; omega) | simpa only [Ny678.out, List.length_set] using h_)
         have ql682 : ((x6_1 : Int) < ((x676000_1.length : Int) : Int)) = True := eq_true (of_decide_eq_true (by first | (with_reducible assumption) | assumption))
         obtain ⟨ad682, e682, hx682_0⟩ := Kd.at_int (Kd.R_reads' HO_676000.out).2.2 x6_1 p682 q682
         obtain rfl : (⟨go26, 0, none⟩ : Addr) = ad682 := (by injection e682)
         (first | simp only [add_plain] at hx682_0 | simp only [add_at] at hx682_0 | simp only [Addr.add, Nat.zero_add] at hx682_0 | skip)
         have hn682_0 : (⟨go26, 0, none⟩ : Addr).block ≠ go29 := Kd.own_blk (by have z_ := HO_676001.out.1 _ rfl; first | exact z_ | exact z_.2 | exact z_.2.1 | exact z_.2.2 | exact z_.2.2.1 | exact z_.2.2.2 | exact z_.1 | exact z_.1.2 | exact z_.1.2.1 | exact z_.1.2.2 | exact z_.1.2.2.1 | exact z_.1.2.2.2 | exact z_.1.1 | exact z_.1.1.2 | exact z_.1.1.2.1 | exact z_.1.1.2.2 | exact z_.1.1.2.2.1 | exact z_.1.1.2.2.2 | exact z_.1.1.1 | exact z_.1.1.1.2 | exact z_.1.1.1.2.1 | exact z_.1.1.1.2.2 | exact z_.1.1.1.2.2.1 | exact z_.1.1.1.2.2.2 | exact z_.1.1.1.1 | exact z_.1.1.1.1.2 | exact z_.1.1.1.1.2.1 | exact z_.1.1.1.1.2.2 | exact z_.1.1.1.1.2.2.1 | exact z_.1.1.1.1.2.2.2 | exact z_.1.1.1.1.1 | exact z_.1.1.1.1.1.2 | exact z_.1.1.1.1.1.2.1 | exact z_.1.1.1.1.1.2.2 | exact z_.1.1.1.1.1.2.2.1 | exact z_.1.1.1.1.1.2.2.2 | exact z_.1.1.1.1.1.1 | exact z_.1.1.1.1.1.1.2 | exact z_.1.1.1.1.1.1.2.1 | exact z_.1.1.1.1.1.1.2.2 | exact z_.1.1.1.1.1.1.2.2.1 | exact z_.1.1.1.1.1.1.2.2.2 | exact z_.1.1.1.1.1.1.1 | exact z_.1.1.1.1.1.1.1.2 | exact z_.1.1.1.1.1.1.1.2.1 | exact z_.1.1.1.1.1.1.1.2.2 | exact z_.1.1.1.1.1.1.1.2.2.1 | exact z_.1.1.1.1.1.1.1.2.2.2)
         replace hx682_0 := (cell_far (p := ⟨go29, (x6_1 : Int).toNat, none⟩) (by first | (rw [add_block]; exact hn682_0) | (show (Addr.add _ _).block ≠ _; rw [add_block]; exact hn682_0) | exact hn682_0) (.int .i64 (wrap64 (t679 - 2)))).trans hx682_0
         clear hn682_0
         replace p682 := eq_true p682
         replace q682 := eq_true q682
         have p64 : 0 ≤ (x6_1 : Int) := of_decide_eq_true (by first | (with_reducible assumption) | assumption)
         have q64 : (x6_1 : Int) < ((x676001_1.length : Int) : Int) := of_decide_eq_true (by first | (with_reducible assumption) | assumption)
         replace p64 := eq_true p64
         replace q64 := eq_true q64
         have hgq_ := blk_far (p := ⟨go29, (x6_1 : Int).toNat, none⟩) BK675.out (fun e_ => Kd.R_ne HO_676001.out BK675.out (by decide) (by rw [e_]; rfl)) (.int .i64 (wrap64 (t679 - 2)))
         have hcq_0 : (w85.setCell ⟨go29, (x6_1 : Int).toNat, none⟩ (.int .i64 (wrap64 (t679 - 2)))).cell? ⟨gb675, 0, none⟩ = some (.slice (some ⟨go26, 0, none⟩) x676000_1.length co26) := (blk_cell hgq_ 0).trans rfl
         have hcq_1 : (w85.setCell ⟨go29, (x6_1 : Int).toNat, none⟩ (.int .i64 (wrap64 (t679 - 2)))).cell? ⟨gb675, 1, none⟩ = some (.slice (some ⟨go29, 0, none⟩) x676001_1.length co29) := (blk_cell hgq_ 1).trans rfl
         have hcq_2 : (w85.setCell ⟨go29, (x6_1 : Int).toNat, none⟩ (.int .i64 (wrap64 (t679 - 2)))).cell? ⟨gb675, 2, none⟩ = some (u676002) := (blk_cell hgq_ 2).trans rfl
         try go_wp2
         go_roundg k1
         case measure => have := HK1.out; omega
         case rel => exact ⟨(wrap64 (x6_1 + 1)), (t680), (y678), (y681), (x676002_1), (.slice (some ⟨go26, 0, none⟩) x676000_1.length co26), (.slice (some ⟨go29, 0, none⟩) x676001_1.length co29), (u676002), (by first | rfl | (simp; done) | (simp [*]; done)), H', ⟨by have := HK1.out; omega⟩, ⟨rl (Kd.R_mono (Kd.R_far (p := ⟨go29, (x6_1 : Int).toNat, none⟩) (Kd.R_mono HO_676000.out (fun k_ hk => (⟨hk, fun e_ => hk.1 (by rw [e_]; rfl)⟩ : _ ∧ k_ ≠ go29))) (fun _ hk => hk.2) (.int .i64 (wrap64 (t679 - 2)))) (fun _ hk => by first | exact ⟨hk.1.1, hk.1.2⟩ | (simp only [ne_eq] at hk ⊢; simp only [hk, not_false_eq_true, and_self])))⟩, ⟨rl HQ86.out⟩, ⟨rl (Kd.R_mono (Kd.R_far (p := ⟨go29, (x6_1 : Int).toNat, none⟩) (Kd.R_mono HO_676002.out (fun k_ hk => (⟨hk, fun e_ => hk.2 (by rw [e_]; rfl)⟩ : _ ∧ k_ ≠ go29))) (fun _ hk => hk.2) (.int .i64 (wrap64 (t679 - 2)))) (fun _ hk => by first | exact ⟨hk.1.1, hk.1.2⟩ | (simp only [ne_eq] at hk ⊢; simp only [hk, not_false_eq_true, and_self])))⟩, ⟨by (with_reducible repeat (first | refine blk_drewN ?_ _ | refine blk_drew ?_ | refine blk_alloc ?_ _)); refine blk_far ?_ (by have h_ := Kd.R_ne HO_676001.out BK654.out (by decide); intro e_; exact h_ (by rw [e_]; rfl)) _; (with_reducible repeat (first | refine blk_drewN ?_ _ | refine blk_drew ?_ | refine blk_alloc ?_ _)); exact BK654.out⟩, ⟨by (with_reducible repeat (first | refine blk_drewN ?_ _ | refine blk_drew ?_ | refine blk_alloc ?_ _)); refine blk_far ?_ (by have h_ := Kd.R_ne HO_676001.out BK675.out (by decide); intro e_; exact h_ (by rw [e_]; rfl)) _; (with_reducible repeat (first | refine blk_drewN ?_ _ | refine blk_drew ?_ | refine blk_alloc ?_ _)); exact BK675.out⟩, ⟨by exact is84_3 HN0_go29.out NB0_654.out NB0_675.out HI0.out⟩, ⟨by exact ks3 GB29.out GW654.out GW675.out HK.out⟩, ⟨by repeat (first | (with_reducible first | exact HB.out | apply below_alloc | apply pw_below_drewN | apply below_drew1 | refine below_set ?_ (Nat.le_trans HL.out GB29.out) | refine below_set ?_ (IsS84.ge HI0.out) | refine below_set ?_ GE654.out | refine below_set ?_ GE675.out) | exact HB.out)⟩⟩
      ·rw [if_neg c28] at H
       exact absurd H (by simp)
     ·rw [if_neg c25] at H
      exact absurd H (by simp)
    ·rw [if_neg c24] at H
     exact absurd H (by simp)
   ·rw [if_neg c22] at H
    have c22b0 : decide (x6_1 < t658) = false := decide_eq_false c22
    clear c22
    have H' := am H
    clear H
    go_wp2
    go_loopg [7] k1 (fun kq v7 w' => ∃ (x7_2 : Int) (x1001_2 : Int) (x676000_2 : List Int) (x676001_2 : List Int) (x676002_2 : List Int) (u676000 : Value) (u676001 : Value) (u676002 : Value), v7 = .int .i64 x7_2 ∧ Aside0 (spec_l1Draw.l1 kq t658 x7_2 s0_0 x1001_2 x676000_2 x676001_2 x676002_2 = some (r1, r2, r3, r4)) ∧ Aside0 (kq ≤ k1) ∧ Aside0 (Kd.R (Kd.int .i64) 3 w' w.heap.size (fun k_ => some k_ ≠ (u676001 : Value).ownBlock ∧ some k_ ≠ (u676002 : Value).ownBlock) u676000 x676000_2) ∧ Aside0 (Kd.R (Kd.int .i64) 3 w' w.heap.size (fun k_ => some k_ ≠ (u676000 : Value).ownBlock ∧ some k_ ≠ (u676002 : Value).ownBlock) u676001 x676001_2) ∧ Aside0 (Kd.R (Kd.int .i64) 3 w' w.heap.size (fun k_ => some k_ ≠ (u676000 : Value).ownBlock ∧ some k_ ≠ (u676001 : Value).ownBlock) u676002 x676002_2) ∧ Aside0 (w'.heap[gb654]? = some (.cells #[(.slice none 0 0), (.slice none 0 0), (.slice none 0 0)] 28 (0, 0))) ∧ Aside0 (w'.heap[gb675]? = some (.cells #[u676000, u676001, u676002] 28 (0, 0))) ∧ Aside0 (IsS84 w0 w' g s0_0 x1001_2) ∧ Aside0 (KeepBut w w' g none) ∧ Aside0 (Below w0.heap.size w0 w'))
    case atStart => exact ⟨(0), (x1001_1), (x676000_1), (x676001_1), (x676002_1), (u676000), (u676001), (u676002), (by first | rfl | (simp; done) | (simp [*]; done)), H', ⟨Nat.le_refl _⟩, ⟨rl HO_676000.out⟩, ⟨rl HO_676001.out⟩, ⟨rl HO_676002.out⟩, ⟨kl BK654.out⟩, ⟨kl BK675.out⟩, ⟨by exact is84_2 NB0_654.out NB0_675.out HI0.out⟩, ⟨by exact ks2 GW654.out GW675.out HK.out⟩, ⟨by exact bs3 (IsS84.ge HI0.out) GE654.out GE675.out HB.out⟩⟩
    case round =>
     clear H'
     try clear c2
     try clear p2
     try clear q2
     try clear hx2
     try clear hf2
     try clear c6
     try clear p6
     try clear q6
     try clear hx6
     try clear c7
     try clear c8
     try clear c22
     try clear c22b0
     try clear c24
     try clear c25
     try clear p26
     try clear q26
     try clear hx26
     try clear hf26
     try clear c28
     try clear p29
     try clear q29
     try clear hx29
     try clear hf29
     try clear p64
     try clear q64
     try clear c65
     try clear c65b0
     try clear p66
     try clear q66
     try clear p68
     try clear q68
     try clear hx68
     try clear c74
     try clear c75
     try clear c76
     try clear c87
     try clear c88
     try clear hx26_0
     try clear hx29_0
     try clear hx682_0
     try clear p26
     try clear p29
     try clear p64
     try clear p66
     try clear p682
     try clear q26
     try clear q29
     try clear q64
     try clear q66
     try clear q682
     obtain ⟨x7_2, x1001_2, x676000_2, x676001_2, x676002_2, u676000, u676001, u676002, rfl, HA, HK2, HO_676000, HO_676001, HO_676002, BK654, BK675, HI0, HK, HB⟩ := hrel
     cases gk with
     | zero => exact absurd HA.out (by simp [spec_l1Draw.l1])
     | succ k2 =>
      have H := HA.out
      clear HA
      simp only [spec_l1Draw.l1] at H
      by_cases c90 : x7_2 < (x676002_2.length : Int)
      ·rw [if_pos c90] at H
       have c90b0 : decide (x7_2 < (x676002_2.length : Int)) = true := decide_eq_true c90
       clear c90
       replace H := Option.bind_eq_some_iff.mp H
       obtain ⟨⟨t688, t689⟩, A910, H⟩ := H
       replace H : (if 0 ≤ x7_2 then (spec_l1Draw.l1 k2 t658 (wrap64 (x7_2 + 1)) s0_0 t689 x676000_2 x676001_2 (x676002_2.set (x7_2 : Int).toNat (wrap64 (t688 - 1)))) else (none)) = some (r1, r2, r3, r4) := H
       have A91 := am A910
       clear A910
       by_cases c92 : 0 ≤ x7_2
       ·rw [if_pos c92] at H
        have c92b0 : decide (0 ≤ x7_2) = true := decide_eq_true c92
        clear c92
        obtain ⟨y690, hy690⟩ : ∃ y_ : List Int, y_ = (x676002_2.set (x7_2 : Int).toNat (wrap64 (t688 - 1))) := ⟨_, rfl⟩
        replace H : (spec_l1Draw.l1 k2 t658 (wrap64 (x7_2 + 1)) s0_0 t689 x676000_2 x676001_2 y690) = some (r1, r2, r3, r4) := by first | (rw [hy690]; with_reducible exact H) | (have H2_ := (Option.bind_some _ _).symm.trans H; rw [hy690]; with_reducible exact H2_) | (have H2_ := (Option.bind_some _ _).symm.trans H; with_reducible exact H2_) | with_reducible exact H | (rw [hy690]; exact H) | exact H
        have Ny690 := am hy690
        clear hy690
        have H' := am H
        clear H
        have hnb94 := NB675_654.out
        have hnc94 := NB654_675.out
        have hnb95 := NB675_0.out
        have hnc95 := NB0_675.out
        obtain ⟨hcz96_0, hcz96_1, hcz96_2, hfz96_0, hfz96_1, hfz96_2⟩ := cf3 BK675
        obtain ⟨Ao97, co97, eo97⟩ := Kd.R_slice HO_676002.out
        subst eo97
        try go_wp2
        replace HO_676000 := am (Kd.R_drew HO_676000.out)
        replace HO_676001 := am (Kd.R_drew HO_676001.out)
        replace HO_676002 := am (Kd.R_drew HO_676002.out)
        replace BK654 := am (blk_drew BK654.out)
        replace BK675 := am (blk_drew BK675.out)
        replace HI0 := am (IsS84.drew HI0.out)
        replace HK := am (keep_drew HK.out)
        replace HB := am (below_drew1 HB.out)
        refine start_ (n := 10) (S := fun w' => w'.cell? ⟨gb675, 0, none⟩ = some (u676000) ∧ w'.cell? ⟨gb675, 1, none⟩ = some (u676001) ∧ w'.cell? ⟨gb675, 2, none⟩ = some (.slice Ao97 x676002_2.length co97)) (ds := [9]) #[false, false, false, false, false, false, false, false, false, false] (by kernel_rfl) rfl rfl ⟨(blk_cell BK675.out 0).trans rfl, (blk_cell BK675.out 1).trans rfl, (blk_cell BK675.out 2).trans rfl⟩ (fun hHeld => ?_); refine with_tabW spec_l1Draw.tab15 spec_l1Draw.bits15 (fun HT_ HW_ => ?_)
        generalize wr.drew = w98 at HO_676000 HO_676001 HO_676002 BK654 BK675 HI0 HK HB hHeld ⊢
        refine pure_ (i := 0) (N := some 70) (v := ?_) (a' := ?_) #[true, false, false, false, false, false, false, false, false, false] rfl rfl (any_of HT_.out (by kernel_rfl)) (fun _ _ _ h => h) (Or.inl ⟨by rfl, ?_⟩) ?_ ?_
        rotate_left
        ·intro w'
         go_simp
         with_reducible rfl
        rotate_left
        ·simp only [Act.put, List.setIfInBounds_toArray, List.set_cons_zero, List.set_cons_succ, i64_w, i32_w]
         rfl
        refine pure_ (i := 2) (N := some 72) (v := ?_) (a' := ?_) #[true, false, true, false, false, false, false, false, false, false] rfl rfl (any_of HT_.out (by kernel_rfl)) (fun _ _ _ h => h) (Or.inl ⟨by rfl, ?_⟩) ?_ ?_
        rotate_left
        ·intro w'
         go_simp
         with_reducible rfl
        rotate_left
        ·simp only [Act.put, List.setIfInBounds_toArray, List.set_cons_zero, List.set_cons_succ, i64_w, i32_w]
         rfl
        refine pure_ (i := 3) (N := some 73) (v := ?_) (a' := ?_) #[true, false, true, true, false, false, false, false, false, false] rfl rfl (any_of HT_.out (by kernel_rfl)) (fun _ _ _ h => h) (Or.inl ⟨by rfl, ?_⟩) ?_ ?_
        rotate_left
        ·intro w'
         go_simp
         with_reducible rfl
        rotate_left
        ·simp only [Act.put, List.setIfInBounds_toArray, List.set_cons_zero, List.set_cons_succ, i64_w, i32_w]
         rfl
        refine pure_ (i := 4) (N := some 74) (v := ?_) (a' := ?_) #[true, false, true, true, true, false, false, false, false, false] rfl rfl (any_of HT_.out (by kernel_rfl)) (fun _ _ _ h => h) (Or.inl ⟨by rfl, ?_⟩) ?_ ?_
        rotate_left
        ·intro w'
         go_simp
         with_reducible rfl
        rotate_left
        ·simp only [Act.put, List.setIfInBounds_toArray, List.set_cons_zero, List.set_cons_succ, i64_w, i32_w]
         rfl
        refine pure_ (i := 5) (N := some 75) (v := ?_) (a' := ?_) #[true, false, true, true, true, true, false, false, false, false] rfl rfl (any_of HT_.out (by kernel_rfl)) (fun _ _ _ h => h) (Or.inl ⟨by rfl, ?_⟩) ?_ ?_
        rotate_left
        ·intro w'
         go_simp
         with_reducible rfl
        rotate_left
        ·simp only [Act.put, List.setIfInBounds_toArray, List.set_cons_zero, List.set_cons_succ, i64_w, i32_w]
         rfl
        refine take_ (i := 1) (N := some 71) (v := ?_) (a' := ?_) #[true, true, true, true, true, true, false, false, false, false] rfl rfl (take_ofW HT_.out HW_.out (by kernel_rfl)) (fun _ _ _ h => h) (Or.inl ⟨by rfl, ?_⟩) hHeld ?_ ?_
        rotate_left
        ·rintro w' ⟨s0, s1, s2⟩
         go_simp
         with_reducible rfl
        rotate_left
        ·simp only [Act.put, List.setIfInBounds_toArray, List.set_cons_zero, List.set_cons_succ, i64_w, i32_w]
         rfl
        refine one_ (i := 6) (N := some 76) #[true, true, true, true, true, true, true, false, false, false] rfl rfl (one_of HT_.out (by kernel_rfl)) (by decide) (fun K hK => ?_)
        refine goes_ Try.func74 (by kernel_rfl) rfl #[.pointer (some ⟨g, 0, none⟩), .int .i64 (wrap64 (t658 + 1))] (by rfl) rfl rfl (by (try simp only [List.map_toArray, List.map_cons, List.map_nil]); first | done | rfl | (simp only [List.length_drop, List.length_take]; rfl)) ?_
        with_reducible refine (spec_l13Rd_pick.calls k2 g s0_0 x1001_2 (wrap64 (t658 + 1)) t688 t689 w0 _ ?side1 ?side2 A91.out).mono ?_
        (case side1 => exact is84_2 NB0_654.out NB0_675.out HI0.out)
        (case side2 => exact bs3 (IsS84.ge HI0.out) GE654.out GE675.out HB.out)
        rintro e w99 ⟨rfl, hi, hb, hk⟩
        refine ⟨_, rfl, ?_⟩
        replace HO_676000 := am (Kd.R_mono (Kd.R_keep (IsS84.apart (show IsS84 w0 _ g s0_0 x1001_2 from by exact is84_2 NB0_654.out NB0_675.out HI0.out) (rl HO_676000.out) (by decide)) hk (fun _ h => h.2)) (fun _ h => h.1))
        replace HO_676001 := am (Kd.R_mono (Kd.R_keep (IsS84.apart (show IsS84 w0 _ g s0_0 x1001_2 from by exact is84_2 NB0_654.out NB0_675.out HI0.out) (rl HO_676001.out) (by decide)) hk (fun _ h => h.2)) (fun _ h => h.1))
        replace HO_676002 := am (Kd.R_mono (Kd.R_keep (IsS84.apart (show IsS84 w0 _ g s0_0 x1001_2 from by exact is84_2 NB0_654.out NB0_675.out HI0.out) (rl HO_676002.out) (by decide)) hk (fun _ h => h.2)) (fun _ h => h.1))
        replace BK654 := kb hk BK654 NB654_0
        replace BK675 := kb hk BK675 NB675_0
        replace HK := am (KeepBut.trans (ks2 GW654.out GW675.out HK.out) hk (.inl rfl))
        replace HB := am (hb)
        replace HI0 := am (hi)
        (try clear hb hk hi)
        have p93 : 0 ≤ (x7_2 : Int) := of_decide_eq_true (by first | (with_reducible assumption) | assumption)
        have q93 : (x7_2 : Int) < ((x676002_2.length : Int) : Int) := of_decide_eq_true (by first | (with_reducible assumption) | assumption)
        obtain ⟨go93, co93, eo93, gb93, gl93, cl93, HG93⟩ := Kd.R_form HO_676002.out (by first | omega | (have hz_ := (Kd.R_reads' HO_676002.out).1; omega))
        (first | cases eo93 | (injection eo93 with ea_ en_ ec_; (first | subst ea_ | (injection ea_ with ea_; subst ea_)); subst ec_; clear en_))
        have GB93 := am gb93
        have GG93 := am HG93
        clear gb93 gl93 HG93
        obtain ⟨hx93_0, hf93_0⟩ := Kd.R_celln 0 HO_676002.out (x7_2 : Int) p93 q93
        replace p93 := eq_true p93
        replace q93 := eq_true q93
        have HN0_go93 := am (show g ≠ go93 from by have h_ := IsS84.own_ne HI0.out HO_676002.out (by decide); intro e_; exact h_ (by rw [e_]; rfl))
        have HP100 := Kd.R_putn HO_676002.out (x7_2 : Int) (wrap64 (t688 - 1))
        rw [← Ny690.out] at HP100
        have HQ100 := am HP100
        clear HP100
        refine hK.out _ _ ⟨(blk_cell BK675.out 0).trans rfl, (blk_cell BK675.out 1).trans rfl, (blk_cell BK675.out 2).trans rfl⟩ (fun hHeld => ?_)
        clear hK K
        refine norm_ (a' := ?_) ?_ ?_
        rotate_left
        ·show Act.put _ (some 76) _ = _
         simp only [Act.put, List.setIfInBounds_toArray, List.set_cons_zero, List.set_cons_succ, i64_w, i32_w]
         rfl
        refine pure_ (i := 7) (N := some 77) (v := ?_) (a' := ?_) #[true, true, true, true, true, true, true, true, false, false] rfl rfl (any_of HT_.out (by kernel_rfl)) (fun _ _ _ h => h) (Or.inl ⟨by rfl, ?_⟩) ?_ ?_
        rotate_left
        ·intro w'
         go_simp
         with_reducible rfl
        rotate_left
        ·simp only [Act.put, List.setIfInBounds_toArray, List.set_cons_zero, List.set_cons_succ, i64_w, i32_w]
         rfl
        refine pure_ (i := 8) (N := some 78) (v := ?_) (a' := ?_) #[true, true, true, true, true, true, true, true, true, false] rfl rfl (any_of HT_.out (by kernel_rfl)) (fun _ _ _ h => h) (Or.inl ⟨by rfl, ?_⟩) ?_ ?_
        rotate_left
        ·intro w'
         go_simp
         with_reducible rfl
        rotate_left
        ·simp only [Act.put, List.setIfInBounds_toArray, List.set_cons_zero, List.set_cons_succ, i64_w, i32_w]
         rfl
        refine last_ (i := 9) (N := none) #[true, true, true, true, true, true, true, true, true, true] rfl rfl (one_of HT_.out (by kernel_rfl)) (by decide) (fun K hK => ?_)
        refine skip_ (w1 := ?_) (by rfl) rfl ?_ ?_
        rotate_left
        ·go_simp
         rfl
        refine hK.out _ _ ?_
        clear hK K
        refine done_ (done_of HT_.out (by kernel_rfl)) ?_
        try go_wp2
        go_roundg k2
        case measure => have := HK1.out; have := HK2.out; omega
        case rel => exact ⟨(wrap64 (x7_2 + 1)), (t689), (x676000_2), (x676001_2), (y690), (u676000), (u676001), (.slice (some ⟨go93, 0, none⟩) x676002_2.length co97), (by first | rfl | (simp; done) | (simp [*]; done)), H', ⟨by have := HK1.out; have := HK2.out; omega⟩, ⟨rl (Kd.R_mono (Kd.R_far (p := ⟨go93, (x7_2 : Int).toNat, none⟩) (Kd.R_mono HO_676000.out (fun k_ hk => (⟨hk, fun e_ => hk.2 (by rw [e_]; rfl)⟩ : _ ∧ k_ ≠ go93))) (fun _ hk => hk.2) (.int .i64 (wrap64 (t688 - 1)))) (fun _ hk => by first | exact ⟨hk.1.1, hk.1.2⟩ | (simp only [ne_eq] at hk ⊢; simp only [hk, not_false_eq_true, and_self])))⟩, ⟨rl (Kd.R_mono (Kd.R_far (p := ⟨go93, (x7_2 : Int).toNat, none⟩) (Kd.R_mono HO_676001.out (fun k_ hk => (⟨hk, fun e_ => hk.2 (by rw [e_]; rfl)⟩ : _ ∧ k_ ≠ go93))) (fun _ hk => hk.2) (.int .i64 (wrap64 (t688 - 1)))) (fun _ hk => by first | exact ⟨hk.1.1, hk.1.2⟩ | (simp only [ne_eq] at hk ⊢; simp only [hk, not_false_eq_true, and_self])))⟩, ⟨rl HQ100.out⟩, ⟨by (with_reducible repeat (first | refine blk_drewN ?_ _ | refine blk_drew ?_ | refine blk_alloc ?_ _)); refine blk_far ?_ (by have h_ := Kd.R_ne HO_676002.out BK654.out (by decide); intro e_; exact h_ (by rw [e_]; rfl)) _; (with_reducible repeat (first | refine blk_drewN ?_ _ | refine blk_drew ?_ | refine blk_alloc ?_ _)); exact BK654.out⟩, ⟨by (with_reducible repeat (first | refine blk_drewN ?_ _ | refine blk_drew ?_ | refine blk_alloc ?_ _)); refine blk_far ?_ (by have h_ := Kd.R_ne HO_676002.out BK675.out (by decide); intro e_; exact h_ (by rw [e_]; rfl)) _; (with_reducible repeat (first | refine blk_drewN ?_ _ | refine blk_drew ?_ | refine blk_alloc ?_ _)); exact BK675.out⟩, ⟨by exact is84_3 HN0_go93.out NB0_654.out NB0_675.out HI0.out⟩, ⟨by exact ks3 GB93.out GW654.out GW675.out HK.out⟩, ⟨by repeat (first | (with_reducible first | exact HB.out | apply below_alloc | apply pw_below_drewN | apply below_drew1 | refine below_set ?_ (Nat.le_trans HL.out GB93.out) | refine below_set ?_ (IsS84.ge HI0.out) | refine below_set ?_ GE654.out | refine below_set ?_ GE675.out) | exact HB.out)⟩⟩
       ·rw [if_neg c92] at H
        exact absurd H (by simp)
      ·rw [if_neg c90] at H
       have c90b0 : decide (x7_2 < (x676002_2.length : Int)) = false := decide_eq_false c90
       clear c90
       simp only [Option.some.injEq, Prod.mk.injEq] at H
       obtain ⟨rfl, rfl, rfl, rfl⟩ := H
       have hnb101 := NB675_654.out
       have hnc101 := NB654_675.out
       have hnb102 := NB675_0.out
       have hnc102 := NB0_675.out
       obtain ⟨hcz103_0, hcz103_1, hcz103_2, hfz103_0, hfz103_1, hfz103_2⟩ := cf3 BK675
       obtain ⟨Ao104, co104, eo104⟩ := Kd.R_slice HO_676002.out
       subst eo104
       obtain ⟨Ao105, co105, eo105⟩ := Kd.R_slice HO_676000.out
       subst eo105
       have hnb106 := NB654_0.out
       have hnc106 := NB0_654.out
       obtain ⟨hcz107_0, hcz107_1, hcz107_2, hfz107_0, hfz107_1, hfz107_2⟩ := cf3 BK654
       obtain ⟨Ao108, co108, eo108⟩ := Kd.R_slice HO_676001.out
       subst eo108
       go_wp2
       refine bodyPost_ret (results_cell_row rfl _ _ gb654 28 #[.slice Ao105 x676000_2.length co105, .slice Ao108 x676001_2.length co108, .slice Ao104 x676002_2.length co104] (0, 0) _ rfl (kp3 (kf0 BK654.out)) Try.underlying28 rfl (by kernel_rfl)) rfl ?_
       exact ⟨_, _, _, by first | rfl | (simp [errW_none, errW_some] <;> rfl) | (simp [*, errW_none, errW_some] <;> rfl), by exact ro (rg BK654 HO_676000), by exact ro (rg BK654 HO_676001), by exact ro (rg BK654 HO_676002), by exact is84_2 NB0_654.out NB0_675.out HI0.out, by exact bs3 (IsS84.ge HI0.out) GE654.out GE675.out HB.out, by exact ks2 GW654.out GW675.out HK.out⟩

end Go.Proofs.Ytkbaggfkidalfaa.A
