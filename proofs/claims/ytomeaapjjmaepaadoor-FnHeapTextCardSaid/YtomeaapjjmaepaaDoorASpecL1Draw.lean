/- Contracts of functions of the given program (ASpecL1Draw). No conditions beyond those stated. -/
import Derived.Test.YtomeaapjjmaepaaDoorA0
import Derived.Test.YtomeaapjjmaepaaDoorASpecL13RdNum
import Derived.Test.YtomeaapjjmaepaaDoorASpecL13RdPick
import Derived.Test.YtomeaapjjmaepaaDoorASpecNewHeap
import Derived.Test.YtomeaapjjmaepaaDoorAState
import Derived.Test.YtomeaapjjmaepaaDoorPBase
import Derived.Test.YtomeaapjjmaepaaDoorA0
namespace Go.Proofs.YtomeaapjjmaepaaDoor.A
open Go.RowKit Go.Proofs.YtomeaapjjmaepaaDoorW.PrintWords Go.Proofs.YtomeaapjjmaepaaDoorW.PrintLast Go.Proofs.YtomeaapjjmaepaaDoorW.PrintMore
attribute [local go_sem] max2_int min2_int max_two min_two max_three min_three max_four min_four   -- for this text's walks alone
set_option linter.unusedVariables false
set_option linter.unusedSimpArgs false

/-! ### spec_l1Draw -/
mutual
def spec_l1Draw.l0 : Nat → Int → Int → List Int → Int → List Int → List Int → List Int → Option (List Int × List Int × List Int × Int)
 | 0, _, _, _, _, _, _, _ => none
 | k + 1, x3, x6, x1000, x1001, x305000, x305001, x305002 => if x6 < x3 then ((spec_l13Rd_pick.f k x1000 x1001 (wrap64 (x3 + 2))).bind fun bt305 => (if 0 ≤ x6 then (if x6 < (x305000.length : Int) then ((some (x305000.set (x6 : Int).toNat (wrap64 (bt305.1 - 1)) : List Int)).bind fun y307 => ((spec_l13Rd_pick.f k x1000 bt305.2 (wrap64 (x3 + 2))).bind fun bt308 => (if x6 < (x305001.length : Int) then ((some (x305001.set (x6 : Int).toNat (wrap64 (bt308.1 - 2)) : List Int)).bind fun y310 => (if (rd y307 x6) ≥ x3 then ((some (y307.set (x6 : Int).toNat (-1) : List Int)).bind fun y312 => (if (rd y310 x6) < (-1) then (spec_l1Draw.l0 k x3 (wrap64 (x6 + 1)) x1000 bt308.2 y312 (y310.set (x6 : Int).toNat (-1)) x305002) else (spec_l1Draw.l0 k x3 (wrap64 (x6 + 1)) x1000 bt308.2 y312 y310 x305002))) else (if (wrap64 (bt308.1 - 2)) < (-1) then (spec_l1Draw.l0 k x3 (wrap64 (x6 + 1)) x1000 bt308.2 y307 (y310.set (x6 : Int).toNat (-1)) x305002) else (spec_l1Draw.l0 k x3 (wrap64 (x6 + 1)) x1000 bt308.2 y307 y310 x305002)))) else (none)))) else (none)) else (none))) else (spec_l1Draw.l1 k x3 0 x1000 x1001 x305000 x305001 x305002)
def spec_l1Draw.l1 : Nat → Int → Int → List Int → Int → List Int → List Int → List Int → Option (List Int × List Int × List Int × Int)
 | 0, _, _, _, _, _, _, _ => none
 | k + 1, x3, x7, x1000, x1001, x305000, x305001, x305002 => if x7 < (x305002.length : Int) then ((spec_l13Rd_pick.f k x1000 x1001 (wrap64 (x3 + 1))).bind fun bt317 => (if 0 ≤ x7 then (spec_l1Draw.l1 k x3 (wrap64 (x7 + 1)) x1000 bt317.2 x305000 x305001 (x305002.set (x7 : Int).toNat (wrap64 (bt317.1 - 1)))) else (none))) else (some (x305000, x305001, x305002, x1001))
end
def spec_l1Draw.f (k : Nat) (s0_0 : List Int) (s0_1 : Int) : Option (List Int × List Int × List Int × Int) := (spec_l13Rd_num.f k s0_0 s0_1 (([4, 3, 5, 6, 2, 8, 1] : List Int))).bind fun bt287 => ((spec_l13Rd_num.f k s0_0 bt287.2 (([2, 1, 3] : List Int))).bind fun bt292 => ((spec_NewHeap.f k bt287.1 bt292.1).bind fun bt294 => (spec_l1Draw.l0 k bt287.1 0 s0_0 bt292.2 bt294.1 bt294.2.1 bt294.2.2.1)))
theorem spec_l1Draw.mono_l : ∀ k, (∀ y0 y1 y2 y3 y4 y5 y6, LeO (spec_l1Draw.l0 k y0 y1 y2 y3 y4 y5 y6) (spec_l1Draw.l0 (k + 1) y0 y1 y2 y3 y4 y5 y6)) ∧ (∀ y0 y1 y2 y3 y4 y5 y6, LeO (spec_l1Draw.l1 k y0 y1 y2 y3 y4 y5 y6) (spec_l1Draw.l1 (k + 1) y0 y1 y2 y3 y4 y5 y6))
 | 0 => ⟨fun _ _ _ _ _ _ _ r h => by simp [spec_l1Draw.l0] at h, fun _ _ _ _ _ _ _ r h => by simp [spec_l1Draw.l1] at h⟩
 | k + 1 => by
  obtain ⟨ih0, ih1⟩ := spec_l1Draw.mono_l k
  refine ⟨?_, ?_⟩
  ·intro y0 y1 y2 y3 y4 y5 y6
   unfold spec_l1Draw.l0
   repeat' first
   | (with_reducible exact ih0 _ _ _ _ _ _ _)
   | (with_reducible exact ih1 _ _ _ _ _ _ _)
   | (with_reducible exact spec_NewHeap.mono _ _ _)
   | (with_reducible exact spec_l13Rd_num.mono _ _ _ _)
   | (with_reducible exact spec_l13Rd_pick.mono _ _ _ _)
   | (with_reducible exact LeO.refl _)
   | (with_reducible exact LeO.none _)
   | (with_reducible refine LeO.ite ?_ ?_)
   | (with_reducible refine LeO.bind ?_ (fun _ => ?_))
   | exact ih0 _ _ _ _ _ _ _
   | exact ih1 _ _ _ _ _ _ _
   | exact spec_NewHeap.mono _ _ _
   | exact spec_l13Rd_num.mono _ _ _ _
   | exact spec_l13Rd_pick.mono _ _ _ _
   | exact LeO.none _
   | refine LeO.ite ?_ ?_
   | refine LeO.bind ?_ (fun _ => ?_)
  ·intro y0 y1 y2 y3 y4 y5 y6
   unfold spec_l1Draw.l1
   repeat' first
   | (with_reducible exact ih0 _ _ _ _ _ _ _)
   | (with_reducible exact ih1 _ _ _ _ _ _ _)
   | (with_reducible exact spec_NewHeap.mono _ _ _)
   | (with_reducible exact spec_l13Rd_num.mono _ _ _ _)
   | (with_reducible exact spec_l13Rd_pick.mono _ _ _ _)
   | (with_reducible exact LeO.refl _)
   | (with_reducible exact LeO.none _)
   | (with_reducible refine LeO.ite ?_ ?_)
   | (with_reducible refine LeO.bind ?_ (fun _ => ?_))
   | exact ih0 _ _ _ _ _ _ _
   | exact ih1 _ _ _ _ _ _ _
   | exact spec_NewHeap.mono _ _ _
   | exact spec_l13Rd_num.mono _ _ _ _
   | exact spec_l13Rd_pick.mono _ _ _ _
   | exact LeO.none _
   | refine LeO.ite ?_ ?_
   | refine LeO.bind ?_ (fun _ => ?_)
theorem spec_l1Draw.mono : ∀ a0 a1 k, LeO (spec_l1Draw.f k a0 a1) (spec_l1Draw.f (k + 1) a0 a1) := by
 intro a0 a1 k
 obtain ⟨ih0, ih1⟩ := spec_l1Draw.mono_l k
 unfold spec_l1Draw.f
 repeat' first
   | (with_reducible exact ih0 _ _ _ _ _ _ _)
   | (with_reducible exact ih1 _ _ _ _ _ _ _)
   | (with_reducible exact spec_NewHeap.mono _ _ _)
   | (with_reducible exact spec_l13Rd_num.mono _ _ _ _)
   | (with_reducible exact spec_l13Rd_pick.mono _ _ _ _)
   | (with_reducible exact LeO.refl _)
   | (with_reducible exact LeO.none _)
   | (with_reducible refine LeO.ite ?_ ?_)
   | (with_reducible refine LeO.bind ?_ (fun _ => ?_))
   | exact ih0 _ _ _ _ _ _ _
   | exact ih1 _ _ _ _ _ _ _
   | exact spec_NewHeap.mono _ _ _
   | exact spec_l13Rd_num.mono _ _ _ _
   | exact spec_l13Rd_pick.mono _ _ _ _
   | exact LeO.none _
   | refine LeO.ite ?_ ?_
   | refine LeO.bind ?_ (fun _ => ?_)
def spec_l1Draw.T6 : Bool × List (List Nat × List Nat) := (true, [([], []), ([0], [0]), ([], []), ([], []), ([], []), ([4], [4]), ([3, 5], [3, 5]), ([6], [6]), ([1, 2, 0, 1, 2, 3, 4, 5, 6, 7], [1, 2]), ([8, 7, 6, 0, 1, 2, 3, 4, 5, 6, 7], [7, 8])])
def spec_l1Draw.B6 : List Nat := [0, 1, 0, 0, 0, 16, 56, 120, 255, 511]
theorem spec_l1Draw.tab6 : rtab .any (opsOf Tryd.f33 6) = spec_l1Draw.T6 := by kernel_rfl
theorem spec_l1Draw.bits6 : waitsOk spec_l1Draw.T6.2 spec_l1Draw.B6 = true := by kernel_rfl
def spec_l1Draw.T7 : Bool × List (List Nat × List Nat) := (true, [([], []), ([0], [0]), ([], []), ([], []), ([], []), ([4], [4]), ([3, 5], [3, 5]), ([6], [6]), ([1, 2, 0, 1, 2, 3, 4, 5, 6, 7], [1, 2]), ([8, 7, 6, 0, 1, 2, 3, 4, 5, 6, 7], [7, 8])])
def spec_l1Draw.B7 : List Nat := [0, 1, 0, 0, 0, 16, 56, 120, 255, 511]
theorem spec_l1Draw.tab7 : rtab .any (opsOf Tryd.f33 7) = spec_l1Draw.T7 := by kernel_rfl
theorem spec_l1Draw.bits7 : waitsOk spec_l1Draw.T7.2 spec_l1Draw.B7 = true := by kernel_rfl
def spec_l1Draw.T15 : Bool × List (List Nat × List Nat) := (true, [([], []), ([0], [0]), ([], []), ([], []), ([], []), ([4], [4]), ([3, 5], [3, 5]), ([6], [6]), ([1, 2, 0, 1, 2, 3, 4, 5, 6, 7], [1, 2]), ([8, 7, 6, 0, 1, 2, 3, 4, 5, 6, 7], [7, 8])])
def spec_l1Draw.B15 : List Nat := [0, 1, 0, 0, 0, 16, 56, 120, 255, 511]
theorem spec_l1Draw.tab15 : rtab .any (opsOf Tryd.f33 15) = spec_l1Draw.T15 := by kernel_rfl
theorem spec_l1Draw.bits15 : waitsOk spec_l1Draw.T15.2 spec_l1Draw.B15 = true := by kernel_rfl
set_option maxHeartbeats 8000000 in
set_option maxRecDepth 100000 in
theorem spec_l1Draw.calls (k : Nat) (g : Nat) (s0_0 : List Int) (s0_1 : Int) (r1 : List Int) (r2 : List Int) (r3 : List Int) (r4 : Int) (w0 w : World) (hI : IsS63 w0 w g s0_0 s0_1) (hB : Below w0.heap.size w0 w) (h : spec_l1Draw.f k s0_0 s0_1 = some (r1, r2, r3, r4)) :
  Calls Tryd.prog 33 #[.pointer (some ⟨g, 0, none⟩)] w fun e w' => ∃ v0_ v1_ v2_ : Value, e = .returned (.agg #[v0_, v1_, v2_]) ∧ Kd.R (Kd.int .i64) 3 w' w.heap.size (fun k_ => some k_ ≠ (v1_ : Value).ownBlock ∧ some k_ ≠ (v2_ : Value).ownBlock) v0_ r1 ∧ Kd.R (Kd.int .i64) 3 w' w.heap.size (fun k_ => some k_ ≠ (v0_ : Value).ownBlock ∧ some k_ ≠ (v2_ : Value).ownBlock) v1_ r2 ∧ Kd.R (Kd.int .i64) 3 w' w.heap.size (fun k_ => some k_ ≠ (v0_ : Value).ownBlock ∧ some k_ ≠ (v1_ : Value).ownBlock) v2_ r3 ∧ IsS63 w0 w' g s0_0 r4 ∧ Below w0.heap.size w0 w' ∧ KeepBut w w' g none := by
 have hu24 := Tryd.underlying24
 have HI0 := am hI
 have HK := am (KeepBut.refl w g none)
 have HL := am hB.size
 clear hI
 have HW0 := am hB.size
 have HB := am hB
 clear hB
 have H : ((spec_l13Rd_num.f k s0_0 s0_1 (([4, 3, 5, 6, 2, 8, 1] : List Int))).bind fun bt287 => ((spec_l13Rd_num.f k s0_0 bt287.2 (([2, 1, 3] : List Int))).bind fun bt292 => ((spec_NewHeap.f k bt287.1 bt292.1).bind fun bt294 => (spec_l1Draw.l0 k bt287.1 0 s0_0 bt292.2 bt294.1 bt294.2.1 bt294.2.2.1)))) = some (r1, r2, r3, r4) := h
 clear h
 obtain ⟨y284, hy284⟩ : ∃ y_ : List Int, y_ = (([4, 3, 5, 6, 2, 8, 1] : List Int)) := ⟨_, rfl⟩
 replace H : ((spec_l13Rd_num.f k s0_0 s0_1 y284).bind fun bt287 => ((spec_l13Rd_num.f k s0_0 bt287.2 (([2, 1, 3] : List Int))).bind fun bt292 => ((spec_NewHeap.f k bt287.1 bt292.1).bind fun bt294 => (spec_l1Draw.l0 k bt287.1 0 s0_0 bt292.2 bt294.1 bt294.2.1 bt294.2.2.1)))) = some (r1, r2, r3, r4) := by first | (rw [hy284]; with_reducible exact H) | (have H2_ := (Option.bind_some _ _).symm.trans H; rw [hy284]; with_reducible exact H2_) | (have H2_ := (Option.bind_some _ _).symm.trans H; with_reducible exact H2_) | with_reducible exact H | (rw [hy284]; exact H) | exact H
 have Ny284 := am hy284
 clear hy284
 replace H := Option.bind_eq_some_iff.mp H
 obtain ⟨⟨t287, t288⟩, A20, H⟩ := H
 replace H : ((spec_l13Rd_num.f k s0_0 t288 (([2, 1, 3] : List Int))).bind fun bt292 => ((spec_NewHeap.f k t287 bt292.1).bind fun bt294 => (spec_l1Draw.l0 k t287 0 s0_0 bt292.2 bt294.1 bt294.2.1 bt294.2.2.1))) = some (r1, r2, r3, r4) := H
 have A2 := am A20
 clear A20
 obtain ⟨y289, hy289⟩ : ∃ y_ : List Int, y_ = (([2, 1, 3] : List Int)) := ⟨_, rfl⟩
 replace H : ((spec_l13Rd_num.f k s0_0 t288 y289).bind fun bt292 => ((spec_NewHeap.f k t287 bt292.1).bind fun bt294 => (spec_l1Draw.l0 k t287 0 s0_0 bt292.2 bt294.1 bt294.2.1 bt294.2.2.1))) = some (r1, r2, r3, r4) := by first | (rw [hy289]; with_reducible exact H) | (have H2_ := (Option.bind_some _ _).symm.trans H; rw [hy289]; with_reducible exact H2_) | (have H2_ := (Option.bind_some _ _).symm.trans H; with_reducible exact H2_) | with_reducible exact H | (rw [hy289]; exact H) | exact H
 have Ny289 := am hy289
 clear hy289
 replace H := Option.bind_eq_some_iff.mp H
 obtain ⟨⟨t292, t293⟩, A30, H⟩ := H
 replace H : ((spec_NewHeap.f k t287 t292).bind fun bt294 => (spec_l1Draw.l0 k t287 0 s0_0 t293 bt294.1 bt294.2.1 bt294.2.2.1)) = some (r1, r2, r3, r4) := H
 have A3 := am A30
 clear A30
 replace H := Option.bind_eq_some_iff.mp H
 obtain ⟨⟨t294, t297, t300, t303⟩, A40, H⟩ := H
 replace H : (spec_l1Draw.l0 k t287 0 s0_0 t293 t294 t297 t300) = some (r1, r2, r3, r4) := H
 have A4 := am A40
 clear A40
 have H' := am H
 clear H
 go_enter Tryd.func33, Tryd.ntmps33
 go_wp2_with (first | ((with_reducible refine gate_dst (N := 2) rfl ?_); refine box_event ?hg (N := 2) ?hd (cs := #[.slice none 0 0, .slice none 0 0, .slice none 0 0]) (t := 24) ?hr ?_; (case hd => rfl); (case hg => rfl); (case hr => first | (go_simp; done) | (go_simp; rfl)); intro gb283 hg w5 hbox hb; replace HB := am (below_step (bs1 (IsS63.ge HI0.out) HB.out) hb); have BK283 := am (hbox); have GW283 := am ((by rw [hg]; exact (keep_size (w := w) (g := g) (row := none) (ks0 HK.out)) : w.heap.size ≤ gb283)); have GE283 := am ((Nat.le_trans HW0.out (by rw [hg]; exact (keep_size (w := w) (g := g) (row := none) (ks0 HK.out)) : w.heap.size ≤ gb283) : w0.heap.size ≤ gb283)); replace HK := am (KeepBut.trans (ks0 HK.out) (KeepBut.of_below hb g none) (.inl rfl)); have NB0_283 := am ((by rw [hg]; exact Nat.ne_of_lt (IsS63.lt (show IsS63 w0 _ g s0_0 s0_1 from by exact is63_0 HI0.out)) : g ≠ gb283)); have NB283_0 := am ((by rw [hg]; exact Nat.ne_of_gt (IsS63.lt (show IsS63 w0 _ g s0_0 s0_1 from by exact is63_0 HI0.out)) : gb283 ≠ g)); replace HI0 := am (IsS63.below (is63_0 HI0.out) hb); clear hb hbox hg) | ((with_reducible refine gate_dst (N := 9) rfl ?_); refine Kd.R_lit (Kd.int .i64) _ 3 ?hg (N := 9) ?hd (xs := ([4, 3, 5, 6, 2, 8, 1] : List Int)) (inner := [.int .i64 4, .int .i64 3, .int .i64 5, .int .i64 6, .int .i64 2, .int .i64 8, .int .i64 1]) (ok := fun _ => True) (okp := fun _ => True) ?hr ?hp (fun _ hk => hk) trivial (Below.refl _ _) (Nat.le_refl _) (by simp) ?_; (case hd => rfl); (case hg => rfl); (case hr => first | (go_simp; done) | (go_simp; rfl)); (case hp => exact (Reps.one (show Kd.M (Kd.int .i64) _ _ _ 4 [.int .i64 4] from rfl) (Reps.one (show Kd.M (Kd.int .i64) _ _ _ 3 [.int .i64 3] from rfl) (Reps.one (show Kd.M (Kd.int .i64) _ _ _ 5 [.int .i64 5] from rfl) (Reps.one (show Kd.M (Kd.int .i64) _ _ _ 6 [.int .i64 6] from rfl) (Reps.one (show Kd.M (Kd.int .i64) _ _ _ 2 [.int .i64 2] from rfl) (Reps.one (show Kd.M (Kd.int .i64) _ _ _ 8 [.int .i64 8] from rfl) (Reps.one (show Kd.M (Kd.int .i64) _ _ _ 1 [.int .i64 1] from rfl) (Reps.none _ _))))))))); intro v285 w6 ho7 hb hg_ hnew_; clear hg_ hnew_; (first | rw [← Ny284.out] at ho7 | (simp only [Int.reduceToNat] at ho7; rw [← Ny284.out] at ho7)); have HO286 := am (Kd.R_lower ho7 (keep_size (w := w) (g := g) (row := none) (ks1 GW283.out HK.out))); replace BK283 := bb BK283 hb; replace HK := am (KeepBut.trans (ks1 GW283.out HK.out) (KeepBut.of_below hb g none) (.inl rfl)); replace HB := am (below_step (bs2 (IsS63.ge HI0.out) GE283.out HB.out) hb); replace HI0 := am (IsS63.below (is63_1 NB0_283.out HI0.out) hb); clear hb ho7; obtain ⟨Ao8, co8, eo8⟩ := Kd.R_slice HO286.out; subst eo8) | ((with_reducible refine gate_callee (f := 46) rfl ?_); refine gL (some 10) rfl rfl Tryd.func46 (by kernel_rfl) rfl #[.pointer (some ⟨g, 0, none⟩), .slice Ao8 y284.length co8] rfl ?_; (with_reducible refine (spec_l13Rd_num.calls k g s0_0 s0_1 _ _ y284 t287 t288 w0 _ ?side1 ?side2 ?side3 ?side4 ?side5 A2.out).mono ?_); (case side1 => exact is63_1 NB0_283.out HI0.out); (case side2 => exact bs2 (IsS63.ge HI0.out) GE283.out HB.out); (case side3 => exact cl ((Kd.R_reads' HO286.out).2.2)); (case side4 => exact sc HO286); (case side5 => exact far_slice (IsS63.own_ne HI0.out HO286.out (by decide))); rintro e w9 ⟨rfl, hi, hb, hk⟩; refine ⟨_, rfl, ?_⟩; replace BK283 := kb hk BK283 NB283_0; replace HO286 := am (Kd.R_mono (Kd.R_keep (IsS63.apart (show IsS63 w0 _ g s0_0 s0_1 from by exact is63_1 NB0_283.out HI0.out) (rl HO286.out) (by decide)) hk (fun _ h => h.2)) (fun _ h => h.1)); replace HK := am (KeepBut.trans (ks1 GW283.out HK.out) hk (.inl rfl)); replace HB := am (hb); replace HI0 := am (hi); (try clear hb hk hi)) | ((with_reducible refine gate_dst (N := 14) rfl ?_); refine Kd.R_lit (Kd.int .i64) _ 3 ?hg (N := 14) ?hd (xs := ([2, 1, 3] : List Int)) (inner := [.int .i64 2, .int .i64 1, .int .i64 3]) (ok := fun _ => True) (okp := fun _ => True) ?hr ?hp (fun _ hk => hk) trivial (Below.refl _ _) (Nat.le_refl _) (by simp) ?_; (case hd => rfl); (case hg => rfl); (case hr => first | (go_simp; done) | (go_simp; rfl)); (case hp => exact (Reps.one (show Kd.M (Kd.int .i64) _ _ _ 2 [.int .i64 2] from rfl) (Reps.one (show Kd.M (Kd.int .i64) _ _ _ 1 [.int .i64 1] from rfl) (Reps.one (show Kd.M (Kd.int .i64) _ _ _ 3 [.int .i64 3] from rfl) (Reps.none _ _))))); intro v290 w10 ho11 hb hg_ hnew_; clear hg_ hnew_; (first | rw [← Ny289.out] at ho11 | (simp only [Int.reduceToNat] at ho11; rw [← Ny289.out] at ho11)); have HO291 := am (Kd.R_lower (Kd.R_new' ho11 (Kd.R_lt (rl HO286.out))) (keep_size (w := w) (g := g) (row := none) (ks1 GW283.out HK.out))); replace HO286 := am (Kd.R_elder' (rl HO286.out) (Kd.R_base ho11) hb); replace BK283 := bb BK283 hb; replace HK := am (KeepBut.trans (ks1 GW283.out HK.out) (KeepBut.of_below hb g none) (.inl rfl)); replace HB := am (below_step (bs2 (IsS63.ge HI0.out) GE283.out HB.out) hb); replace HI0 := am (IsS63.below (is63_1 NB0_283.out HI0.out) hb); clear hb ho11; obtain ⟨Ao12, co12, eo12⟩ := Kd.R_slice HO291.out; subst eo12) | ((with_reducible refine gate_callee (f := 46) rfl ?_); refine gL (some 15) rfl rfl Tryd.func46 (by kernel_rfl) rfl #[.pointer (some ⟨g, 0, none⟩), .slice Ao12 y289.length co12] rfl ?_; (with_reducible refine (spec_l13Rd_num.calls k g s0_0 t288 _ _ y289 t292 t293 w0 _ ?side1 ?side2 ?side3 ?side4 ?side5 A3.out).mono ?_); (case side1 => exact is63_1 NB0_283.out HI0.out); (case side2 => exact bs2 (IsS63.ge HI0.out) GE283.out HB.out); (case side3 => exact cl ((Kd.R_reads' HO291.out).2.2)); (case side4 => exact sc HO291); (case side5 => exact far_slice (IsS63.own_ne HI0.out HO291.out (by decide))); rintro e w13 ⟨rfl, hi, hb, hk⟩; refine ⟨_, rfl, ?_⟩; replace BK283 := kb hk BK283 NB283_0; replace HO286 := am (Kd.R_mono (Kd.R_keep (IsS63.apart (show IsS63 w0 _ g s0_0 t288 from by exact is63_1 NB0_283.out HI0.out) (rl HO286.out) (by decide)) hk (fun _ h => h.2)) (fun _ h => h.1)); replace HO291 := am (Kd.R_mono (Kd.R_keep (IsS63.apart (show IsS63 w0 _ g s0_0 t288 from by exact is63_1 NB0_283.out HI0.out) (rl HO291.out) (by decide)) hk (fun _ h => h.2)) (fun _ h => h.1)); replace HK := am (KeepBut.trans (ks1 GW283.out HK.out) hk (.inl rfl)); replace HB := am (hb); replace HI0 := am (hi); (try clear hb hk hi)) | ((with_reducible refine gate_callee (f := 47) rfl ?_); refine gL (some 16) rfl rfl Tryd.func47 (by kernel_rfl) rfl #[.int .i64 t287, .int .i64 t292] rfl ?_; (with_reducible refine (spec_NewHeap.calls k t287 t292 t294 t297 t300 t303 _ A4.out).mono ?_); rintro e w14 ⟨v295, v298, v301, rfl, ho0, ho1, ho2, hb⟩; refine ⟨_, rfl, ?_⟩; have HO296 := am (Kd.R_lower (Kd.R_new' (Kd.R_new' ho0 (Kd.R_lt (rl HO286.out))) (Kd.R_lt (rl HO291.out))) (keep_size (w := w) (g := g) (row := none) (ks1 GW283.out HK.out))); have HO299 := am (Kd.R_lower (Kd.R_new' (Kd.R_new' ho1 (Kd.R_lt (rl HO286.out))) (Kd.R_lt (rl HO291.out))) (keep_size (w := w) (g := g) (row := none) (ks1 GW283.out HK.out))); have HO302 := am (Kd.R_lower (Kd.R_new' (Kd.R_new' ho2 (Kd.R_lt (rl HO286.out))) (Kd.R_lt (rl HO291.out))) (keep_size (w := w) (g := g) (row := none) (ks1 GW283.out HK.out))); replace HO286 := td3 (rl HO286.out) hb ho0 ho1 ho2; replace HO291 := td3 (rl HO291.out) hb ho0 ho1 ho2; replace BK283 := bb BK283 hb; replace HK := am (KeepBut.trans (ks1 GW283.out HK.out) (KeepBut.of_below hb g none) (.inl rfl)); replace HB := am (below_step (bs2 (IsS63.ge HI0.out) GE283.out HB.out) hb); replace HI0 := am (IsS63.below (is63_1 NB0_283.out HI0.out) hb); (try clear hb ho0 ho1 ho2)) | ((with_reducible refine gate_dst (N := 4) rfl ?_); refine box_event ?hg (N := 4) ?hd (cs := #[.slice none 0 0, .slice none 0 0, .slice none 0 0]) (t := 24) ?hr ?_; (case hd => rfl); (case hg => rfl); (case hr => first | (go_simp; done) | (go_simp; rfl)); intro gb304 hg w15 hbox hb; replace HO286 := rb HO286 hb; replace HO291 := rb HO291 hb; replace HO296 := rb HO296 hb; replace HO299 := rb HO299 hb; replace HO302 := rb HO302 hb; replace HB := am (below_step (bs2 (IsS63.ge HI0.out) GE283.out HB.out) hb); have BK304 := am (hbox); have GW304 := am ((by rw [hg]; exact (keep_size (w := w) (g := g) (row := none) (ks1 GW283.out HK.out)) : w.heap.size ≤ gb304)); have GE304 := am ((Nat.le_trans HW0.out (by rw [hg]; exact (keep_size (w := w) (g := g) (row := none) (ks1 GW283.out HK.out)) : w.heap.size ≤ gb304) : w0.heap.size ≤ gb304)); replace HK := am (KeepBut.trans (ks1 GW283.out HK.out) (KeepBut.of_below hb g none) (.inl rfl)); have NB283_304 := nb BK283 hg; have NB304_283 := nc BK283 hg; replace BK283 := bb BK283 hb; have NB0_304 := am ((by rw [hg]; exact Nat.ne_of_lt (IsS63.lt (show IsS63 w0 _ g s0_0 t293 from by exact is63_1 NB0_283.out HI0.out)) : g ≠ gb304)); have NB304_0 := am ((by rw [hg]; exact Nat.ne_of_gt (IsS63.lt (show IsS63 w0 _ g s0_0 t293 from by exact is63_1 NB0_283.out HI0.out)) : gb304 ≠ g)); replace HI0 := am (IsS63.below (is63_1 NB0_283.out HI0.out) hb); clear hb hbox hg; obtain ⟨Ao16, co16, eo16⟩ := Kd.R_slice HO296.out; subst eo16; have hnb17 := NB304_283.out; have hnc17 := NB283_304.out; have hnb18 := NB304_0.out; have hnc18 := NB0_304.out; obtain ⟨hcz19_0, hcz19_1, hcz19_2, hfz19_0, hfz19_1, hfz19_2⟩ := cf3 BK304; obtain ⟨Ao20, co20, eo20⟩ := Kd.R_slice HO299.out; subst eo20; obtain ⟨Ao21, co21, eo21⟩ := Kd.R_slice HO302.out; subst eo21))
 go_loopg [6] k (fun kq v6 w' => ∃ (x6_1 : Int) (x1001_1 : Int) (x305000_1 : List Int) (x305001_1 : List Int) (x305002_1 : List Int) (u305000 : Value) (u305001 : Value) (u305002 : Value), v6 = .int .i64 x6_1 ∧ Aside0 (spec_l1Draw.l0 kq t287 x6_1 s0_0 x1001_1 x305000_1 x305001_1 x305002_1 = some (r1, r2, r3, r4)) ∧ Aside0 (kq ≤ k) ∧ Aside0 (Kd.R (Kd.int .i64) 3 w' w.heap.size (fun k_ => some k_ ≠ (u305001 : Value).ownBlock ∧ some k_ ≠ (u305002 : Value).ownBlock) u305000 x305000_1) ∧ Aside0 (Kd.R (Kd.int .i64) 3 w' w.heap.size (fun k_ => some k_ ≠ (u305000 : Value).ownBlock ∧ some k_ ≠ (u305002 : Value).ownBlock) u305001 x305001_1) ∧ Aside0 (Kd.R (Kd.int .i64) 3 w' w.heap.size (fun k_ => some k_ ≠ (u305000 : Value).ownBlock ∧ some k_ ≠ (u305001 : Value).ownBlock) u305002 x305002_1) ∧ Aside0 (w'.heap[gb283]? = some (.cells #[(.slice none 0 0), (.slice none 0 0), (.slice none 0 0)] 24 (0, 0))) ∧ Aside0 (w'.heap[gb304]? = some (.cells #[u305000, u305001, u305002] 24 (0, 0))) ∧ Aside0 (IsS63 w0 w' g s0_0 x1001_1) ∧ Aside0 (KeepBut w w' g none) ∧ Aside0 (Below w0.heap.size w0 w'))
 case atStart => exact ⟨(0), (t293), (t294), (t297), (t300), (.slice Ao16 t294.length co16), (.slice Ao20 t297.length co20), (.slice Ao21 t300.length co21), (by first | rfl | (simp; done) | (simp [*]; done)), H', ⟨Nat.le_refl _⟩, ⟨rl (Kd.R_mono (Kd.R_far (p := ⟨gb304, 2, none⟩) (Kd.R_far (p := ⟨gb304, 1, none⟩) (Kd.R_far (p := ⟨gb304, 0, none⟩) (Kd.R_types HO296.out BK304.out (by decide)) (fun _ hk => hk.2) (.slice Ao16 t294.length co16)) (fun _ hk => hk.2) (.slice Ao20 t297.length co20)) (fun _ hk => hk.2) (.slice Ao21 t300.length co21)) (fun _ hk => by first | exact ⟨hk.1.1.1.1, hk.1.1.1.2⟩ | (simp only [ne_eq] at hk ⊢; simp only [hk, not_false_eq_true, and_self])))⟩, ⟨rl (Kd.R_mono (Kd.R_far (p := ⟨gb304, 2, none⟩) (Kd.R_far (p := ⟨gb304, 1, none⟩) (Kd.R_far (p := ⟨gb304, 0, none⟩) (Kd.R_types HO299.out BK304.out (by decide)) (fun _ hk => hk.2) (.slice Ao16 t294.length co16)) (fun _ hk => hk.2) (.slice Ao20 t297.length co20)) (fun _ hk => hk.2) (.slice Ao21 t300.length co21)) (fun _ hk => by first | exact ⟨hk.1.1.1.1, hk.1.1.1.2⟩ | (simp only [ne_eq] at hk ⊢; simp only [hk, not_false_eq_true, and_self])))⟩, ⟨rl (Kd.R_mono (Kd.R_far (p := ⟨gb304, 2, none⟩) (Kd.R_far (p := ⟨gb304, 1, none⟩) (Kd.R_far (p := ⟨gb304, 0, none⟩) (Kd.R_types HO302.out BK304.out (by decide)) (fun _ hk => hk.2) (.slice Ao16 t294.length co16)) (fun _ hk => hk.2) (.slice Ao20 t297.length co20)) (fun _ hk => hk.2) (.slice Ao21 t300.length co21)) (fun _ hk => by first | exact ⟨hk.1.1.1.1, hk.1.1.1.2⟩ | (simp only [ne_eq] at hk ⊢; simp only [hk, not_false_eq_true, and_self])))⟩, ⟨kf1 NB283_304.out BK283.out⟩, ⟨kp3 (kf0 BK304.out)⟩, ⟨by exact is63_2 NB0_283.out NB0_304.out HI0.out⟩, ⟨by exact ks2 GW283.out GW304.out HK.out⟩, ⟨by exact bs3 (IsS63.ge HI0.out) GE283.out GE304.out HB.out⟩⟩
 case round =>
  clear H'
  try clear c1
  try clear p2
  try clear c3
  try clear c4
  try clear c17
  try clear c18
  obtain ⟨x6_1, x1001_1, x305000_1, x305001_1, x305002_1, u305000, u305001, u305002, rfl, HA, HK1, HO_305000, HO_305001, HO_305002, BK283, BK304, HI0, HK, HB⟩ := hrel
  cases gk with
  | zero => exact absurd HA.out (by simp [spec_l1Draw.l0])
  | succ k1 =>
   have H := HA.out
   clear HA
   simp only [spec_l1Draw.l0] at H
   by_cases c22 : x6_1 < t287
   ·rw [if_pos c22] at H
    have c22b0 : decide (x6_1 < t287) = true := decide_eq_true c22
    clear c22
    replace H := Option.bind_eq_some_iff.mp H
    obtain ⟨⟨t305, t306⟩, A230, H⟩ := H
    replace H : (if 0 ≤ x6_1 then (if x6_1 < (x305000_1.length : Int) then ((some (x305000_1.set (x6_1 : Int).toNat (wrap64 (t305 - 1)) : List Int)).bind fun y307 => ((spec_l13Rd_pick.f k1 s0_0 t306 (wrap64 (t287 + 2))).bind fun bt308 => (if x6_1 < (x305001_1.length : Int) then ((some (x305001_1.set (x6_1 : Int).toNat (wrap64 (bt308.1 - 2)) : List Int)).bind fun y310 => (if (rd y307 x6_1) ≥ t287 then ((some (y307.set (x6_1 : Int).toNat (-1) : List Int)).bind fun y312 => (if (rd y310 x6_1) < (-1) then (spec_l1Draw.l0 k1 t287 (wrap64 (x6_1 + 1)) s0_0 bt308.2 y312 (y310.set (x6_1 : Int).toNat (-1)) x305002_1) else (spec_l1Draw.l0 k1 t287 (wrap64 (x6_1 + 1)) s0_0 bt308.2 y312 y310 x305002_1))) else (if (wrap64 (bt308.1 - 2)) < (-1) then (spec_l1Draw.l0 k1 t287 (wrap64 (x6_1 + 1)) s0_0 bt308.2 y307 (y310.set (x6_1 : Int).toNat (-1)) x305002_1) else (spec_l1Draw.l0 k1 t287 (wrap64 (x6_1 + 1)) s0_0 bt308.2 y307 y310 x305002_1)))) else (none)))) else (none)) else (none)) = some (r1, r2, r3, r4) := H
    have A23 := am A230
    clear A230
    by_cases c24 : 0 ≤ x6_1
    ·rw [if_pos c24] at H
     have c24b0 : decide (0 ≤ x6_1) = true := decide_eq_true c24
     clear c24
     by_cases c25 : x6_1 < (x305000_1.length : Int)
     ·rw [if_pos c25] at H
      have c25b0 : decide (x6_1 < (x305000_1.length : Int)) = true := decide_eq_true c25
      clear c25
      obtain ⟨y307, hy307⟩ : ∃ y_ : List Int, y_ = (x305000_1.set (x6_1 : Int).toNat (wrap64 (t305 - 1))) := ⟨_, rfl⟩
      replace H : ((spec_l13Rd_pick.f k1 s0_0 t306 (wrap64 (t287 + 2))).bind fun bt308 => (if x6_1 < (x305001_1.length : Int) then ((some (x305001_1.set (x6_1 : Int).toNat (wrap64 (bt308.1 - 2)) : List Int)).bind fun y310 => (if (rd y307 x6_1) ≥ t287 then ((some (y307.set (x6_1 : Int).toNat (-1) : List Int)).bind fun y312 => (if (rd y310 x6_1) < (-1) then (spec_l1Draw.l0 k1 t287 (wrap64 (x6_1 + 1)) s0_0 bt308.2 y312 (y310.set (x6_1 : Int).toNat (-1)) x305002_1) else (spec_l1Draw.l0 k1 t287 (wrap64 (x6_1 + 1)) s0_0 bt308.2 y312 y310 x305002_1))) else (if (wrap64 (bt308.1 - 2)) < (-1) then (spec_l1Draw.l0 k1 t287 (wrap64 (x6_1 + 1)) s0_0 bt308.2 y307 (y310.set (x6_1 : Int).toNat (-1)) x305002_1) else (spec_l1Draw.l0 k1 t287 (wrap64 (x6_1 + 1)) s0_0 bt308.2 y307 y310 x305002_1)))) else (none))) = some (r1, r2, r3, r4) := by first | (rw [hy307]; with_reducible exact H) | (have H2_ := (Option.bind_some _ _).symm.trans H; rw [hy307]; with_reducible exact H2_) | (have H2_ := (Option.bind_some _ _).symm.trans H; with_reducible exact H2_) | with_reducible exact H | (rw [hy307]; exact H) | exact H
      have Ny307 := am hy307
      clear hy307
      replace H := Option.bind_eq_some_iff.mp H
      obtain ⟨⟨t308, t309⟩, A270, H⟩ := H
      replace H : (if x6_1 < (x305001_1.length : Int) then ((some (x305001_1.set (x6_1 : Int).toNat (wrap64 (t308 - 2)) : List Int)).bind fun y310 => (if (rd y307 x6_1) ≥ t287 then ((some (y307.set (x6_1 : Int).toNat (-1) : List Int)).bind fun y312 => (if (rd y310 x6_1) < (-1) then (spec_l1Draw.l0 k1 t287 (wrap64 (x6_1 + 1)) s0_0 t309 y312 (y310.set (x6_1 : Int).toNat (-1)) x305002_1) else (spec_l1Draw.l0 k1 t287 (wrap64 (x6_1 + 1)) s0_0 t309 y312 y310 x305002_1))) else (if (wrap64 (t308 - 2)) < (-1) then (spec_l1Draw.l0 k1 t287 (wrap64 (x6_1 + 1)) s0_0 t309 y307 (y310.set (x6_1 : Int).toNat (-1)) x305002_1) else (spec_l1Draw.l0 k1 t287 (wrap64 (x6_1 + 1)) s0_0 t309 y307 y310 x305002_1)))) else (none)) = some (r1, r2, r3, r4) := H
      have A27 := am A270
      clear A270
      by_cases c28 : x6_1 < (x305001_1.length : Int)
      ·rw [if_pos c28] at H
       have c28b0 : decide (x6_1 < (x305001_1.length : Int)) = true := decide_eq_true c28
       clear c28
       obtain ⟨y310, hy310⟩ : ∃ y_ : List Int, y_ = (x305001_1.set (x6_1 : Int).toNat (wrap64 (t308 - 2))) := ⟨_, rfl⟩
       replace H : (if (rd y307 x6_1) ≥ t287 then ((some (y307.set (x6_1 : Int).toNat (-1) : List Int)).bind fun y312 => (if (rd y310 x6_1) < (-1) then (spec_l1Draw.l0 k1 t287 (wrap64 (x6_1 + 1)) s0_0 t309 y312 (y310.set (x6_1 : Int).toNat (-1)) x305002_1) else (spec_l1Draw.l0 k1 t287 (wrap64 (x6_1 + 1)) s0_0 t309 y312 y310 x305002_1))) else (if (wrap64 (t308 - 2)) < (-1) then (spec_l1Draw.l0 k1 t287 (wrap64 (x6_1 + 1)) s0_0 t309 y307 (y310.set (x6_1 : Int).toNat (-1)) x305002_1) else (spec_l1Draw.l0 k1 t287 (wrap64 (x6_1 + 1)) s0_0 t309 y307 y310 x305002_1))) = some (r1, r2, r3, r4) := by first | (rw [hy310]; with_reducible exact H) | (have H2_ := (Option.bind_some _ _).symm.trans H; rw [hy310]; with_reducible exact H2_) | (have H2_ := (Option.bind_some _ _).symm.trans H; with_reducible exact H2_) | with_reducible exact H | (rw [hy310]; exact H) | exact H
       have Ny310 := am hy310
       clear hy310
       by_cases c30 : (rd y307 x6_1) ≥ t287
       ·rw [if_pos c30] at H
        have c30b0 : decide (t287 ≤ (rd y307 x6_1)) = true := decide_eq_true c30
        clear c30
        obtain ⟨y312, hy312⟩ : ∃ y_ : List Int, y_ = (y307.set (x6_1 : Int).toNat (-1)) := ⟨_, rfl⟩
        replace H : (if (rd y310 x6_1) < (-1) then (spec_l1Draw.l0 k1 t287 (wrap64 (x6_1 + 1)) s0_0 t309 y312 (y310.set (x6_1 : Int).toNat (-1)) x305002_1) else (spec_l1Draw.l0 k1 t287 (wrap64 (x6_1 + 1)) s0_0 t309 y312 y310 x305002_1)) = some (r1, r2, r3, r4) := by first | (rw [hy312]; with_reducible exact H) | (have H2_ := (Option.bind_some _ _).symm.trans H; rw [hy312]; with_reducible exact H2_) | (have H2_ := (Option.bind_some _ _).symm.trans H; with_reducible exact H2_) | with_reducible exact H | (rw [hy312]; exact H) | exact H
        have Ny312 := am hy312
        clear hy312
        by_cases c32 : (rd y310 x6_1) < (-1)
        ·rw [if_pos c32] at H
         have c32b0 : decide ((rd y310 x6_1) < (-1)) = true := decide_eq_true c32
         clear c32
         obtain ⟨y314, hy314⟩ : ∃ y_ : List Int, y_ = (y310.set (x6_1 : Int).toNat (-1)) := ⟨_, rfl⟩
         replace H : (spec_l1Draw.l0 k1 t287 (wrap64 (x6_1 + 1)) s0_0 t309 y312 y314 x305002_1) = some (r1, r2, r3, r4) := by first | (rw [hy314]; with_reducible exact H) | (have H2_ := (Option.bind_some _ _).symm.trans H; rw [hy314]; with_reducible exact H2_) | (have H2_ := (Option.bind_some _ _).symm.trans H; with_reducible exact H2_) | with_reducible exact H | (rw [hy314]; exact H) | exact H
         have Ny314 := am hy314
         clear hy314
         have H' := am H
         clear H
         try go_wp2
         replace HO_305000 := am (Kd.R_drew HO_305000.out)
         replace HO_305001 := am (Kd.R_drew HO_305001.out)
         replace HO_305002 := am (Kd.R_drew HO_305002.out)
         replace BK283 := am (blk_drew BK283.out)
         replace BK304 := am (blk_drew BK304.out)
         replace HI0 := am (IsS63.drew HI0.out)
         replace HK := am (keep_drew HK.out)
         replace HB := am (below_drew1 HB.out)
         refine start_ (n := 10) (S := fun w' => w'.cell? ⟨gb304, 0, none⟩ = some (u305000) ∧ w'.cell? ⟨gb304, 1, none⟩ = some (u305001) ∧ w'.cell? ⟨gb304, 2, none⟩ = some (u305002)) (ds := [9]) #[false, false, false, false, false, false, false, false, false, false] (by kernel_rfl) rfl rfl ⟨(blk_cell BK304.out 0).trans rfl, (blk_cell BK304.out 1).trans rfl, (blk_cell BK304.out 2).trans rfl⟩ (fun hHeld => ?_); refine with_tabW spec_l1Draw.tab6 spec_l1Draw.bits6 (fun HT_ HW_ => ?_)
         generalize wr.drew = w34 at HO_305000 HO_305001 HO_305002 BK283 BK304 HI0 HK HB hHeld ⊢
         refine pure_ (i := 0) (N := some 24) (v := ?_) (a' := ?_) #[true, false, false, false, false, false, false, false, false, false] rfl rfl (any_of HT_.out (by kernel_rfl)) (fun _ _ _ h => h) (Or.inl ⟨by rfl, ?_⟩) ?_ ?_
         rotate_left
         ·intro w'
          go_simp
          with_reducible rfl
         rotate_left
         ·simp only [Act.put, List.setIfInBounds_toArray, List.set_cons_zero, List.set_cons_succ, i64_w, i32_w]
          rfl
         refine pure_ (i := 2) (N := some 26) (v := ?_) (a' := ?_) #[true, false, true, false, false, false, false, false, false, false] rfl rfl (any_of HT_.out (by kernel_rfl)) (fun _ _ _ h => h) (Or.inl ⟨by rfl, ?_⟩) ?_ ?_
         rotate_left
         ·intro w'
          go_simp
          with_reducible rfl
         rotate_left
         ·simp only [Act.put, List.setIfInBounds_toArray, List.set_cons_zero, List.set_cons_succ, i64_w, i32_w]
          rfl
         refine pure_ (i := 3) (N := some 27) (v := ?_) (a' := ?_) #[true, false, true, true, false, false, false, false, false, false] rfl rfl (any_of HT_.out (by kernel_rfl)) (fun _ _ _ h => h) (Or.inl ⟨by rfl, ?_⟩) ?_ ?_
         rotate_left
         ·intro w'
          go_simp
          with_reducible rfl
         rotate_left
         ·simp only [Act.put, List.setIfInBounds_toArray, List.set_cons_zero, List.set_cons_succ, i64_w, i32_w]
          rfl
         refine pure_ (i := 4) (N := some 28) (v := ?_) (a' := ?_) #[true, false, true, true, true, false, false, false, false, false] rfl rfl (any_of HT_.out (by kernel_rfl)) (fun _ _ _ h => h) (Or.inl ⟨by rfl, ?_⟩) ?_ ?_
         rotate_left
         ·intro w'
          go_simp
          with_reducible rfl
         rotate_left
         ·simp only [Act.put, List.setIfInBounds_toArray, List.set_cons_zero, List.set_cons_succ, i64_w, i32_w]
          rfl
         refine pure_ (i := 5) (N := some 29) (v := ?_) (a' := ?_) #[true, false, true, true, true, true, false, false, false, false] rfl rfl (any_of HT_.out (by kernel_rfl)) (fun _ _ _ h => h) (Or.inl ⟨by rfl, ?_⟩) ?_ ?_
         rotate_left
         ·intro w'
          go_simp
          with_reducible rfl
         rotate_left
         ·simp only [Act.put, List.setIfInBounds_toArray, List.set_cons_zero, List.set_cons_succ, i64_w, i32_w]
          rfl
         refine take_ (i := 1) (N := some 25) (v := ?_) (a' := ?_) #[true, true, true, true, true, true, false, false, false, false] rfl rfl (take_ofW HT_.out HW_.out (by kernel_rfl)) (fun _ _ _ h => h) (Or.inl ⟨by rfl, ?_⟩) hHeld ?_ ?_
         rotate_left
         ·rintro w' ⟨s0, s1, s2⟩
          go_simp
          with_reducible rfl
         rotate_left
         ·simp only [Act.put, List.setIfInBounds_toArray, List.set_cons_zero, List.set_cons_succ, i64_w, i32_w]
          rfl
         refine one_ (i := 6) (N := some 30) #[true, true, true, true, true, true, true, false, false, false] rfl rfl (one_of HT_.out (by kernel_rfl)) (by decide) (fun K hK => ?_)
         refine goes_ Tryd.func34 (by kernel_rfl) rfl #[.pointer (some ⟨g, 0, none⟩), .int .i64 (wrap64 (t287 + 2))] (by rfl) rfl rfl (by (try simp only [List.map_toArray, List.map_cons, List.map_nil]); first | done | rfl | (simp only [List.length_drop, List.length_take]; rfl)) ?_
         with_reducible refine (spec_l13Rd_pick.calls k1 g s0_0 x1001_1 (wrap64 (t287 + 2)) t305 t306 w0 _ ?side1 ?side2 A23.out).mono ?_
         (case side1 => exact is63_2 NB0_283.out NB0_304.out HI0.out)
         (case side2 => exact bs3 (IsS63.ge HI0.out) GE283.out GE304.out HB.out)
         rintro e w35 ⟨rfl, hi, hb, hk⟩
         refine ⟨_, rfl, ?_⟩
         replace HO_305000 := am (Kd.R_mono (Kd.R_keep (IsS63.apart (show IsS63 w0 _ g s0_0 x1001_1 from by exact is63_2 NB0_283.out NB0_304.out HI0.out) (rl HO_305000.out) (by decide)) hk (fun _ h => h.2)) (fun _ h => h.1))
         replace HO_305001 := am (Kd.R_mono (Kd.R_keep (IsS63.apart (show IsS63 w0 _ g s0_0 x1001_1 from by exact is63_2 NB0_283.out NB0_304.out HI0.out) (rl HO_305001.out) (by decide)) hk (fun _ h => h.2)) (fun _ h => h.1))
         replace HO_305002 := am (Kd.R_mono (Kd.R_keep (IsS63.apart (show IsS63 w0 _ g s0_0 x1001_1 from by exact is63_2 NB0_283.out NB0_304.out HI0.out) (rl HO_305002.out) (by decide)) hk (fun _ h => h.2)) (fun _ h => h.1))
         replace BK283 := kb hk BK283 NB283_0
         replace BK304 := kb hk BK304 NB304_0
         replace HK := am (KeepBut.trans (ks2 GW283.out GW304.out HK.out) hk (.inl rfl))
         replace HB := am (hb)
         replace HI0 := am (hi)
         (try clear hb hk hi)
         have p26 : 0 ≤ (x6_1 : Int) := of_decide_eq_true (by first | (with_reducible assumption) | assumption)
         have q26 : (x6_1 : Int) < ((x305000_1.length : Int) : Int) := of_decide_eq_true (by first | (with_reducible assumption) | assumption)
         obtain ⟨go26, co26, eo26, gb26, gl26, cl26, HG26⟩ := Kd.R_form HO_305000.out (by first | omega | (have hz_ := (Kd.R_reads' HO_305000.out).1; omega))
         (first | cases eo26 | (injection eo26 with ea_ en_ ec_; (first | subst ea_ | (injection ea_ with ea_; subst ea_)); subst ec_; clear en_))
         have GB26 := am gb26
         have GG26 := am HG26
         clear gb26 gl26 HG26
         obtain ⟨hx26_0, hf26_0⟩ := Kd.R_celln 0 HO_305000.out (x6_1 : Int) p26 q26
         replace p26 := eq_true p26
         replace q26 := eq_true q26
         have HN0_go26 := am (show g ≠ go26 from by have h_ := IsS63.own_ne HI0.out HO_305000.out (by decide); intro e_; exact h_ (by rw [e_]; rfl))
         have HP36 := Kd.R_putn HO_305000.out (x6_1 : Int) (wrap64 (t305 - 1))
         rw [← Ny307.out] at HP36
         have HQ36 := am HP36
         clear HP36
         refine hK.out _ _ ⟨(blk_cell BK304.out 0).trans rfl, (blk_cell BK304.out 1).trans rfl, (blk_cell BK304.out 2).trans rfl⟩ (fun hHeld => ?_)
         clear hK K
         refine norm_ (a' := ?_) ?_ ?_
         rotate_left
         ·show Act.put _ (some 30) _ = _
          simp only [Act.put, List.setIfInBounds_toArray, List.set_cons_zero, List.set_cons_succ, i64_w, i32_w]
          rfl
         refine pure_ (i := 7) (N := some 31) (v := ?_) (a' := ?_) #[true, true, true, true, true, true, true, true, false, false] rfl rfl (any_of HT_.out (by kernel_rfl)) (fun _ _ _ h => h) (Or.inl ⟨by rfl, ?_⟩) ?_ ?_
         rotate_left
         ·intro w'
          go_simp
          with_reducible rfl
         rotate_left
         ·simp only [Act.put, List.setIfInBounds_toArray, List.set_cons_zero, List.set_cons_succ, i64_w, i32_w]
          rfl
         refine pure_ (i := 8) (N := some 32) (v := ?_) (a' := ?_) #[true, true, true, true, true, true, true, true, true, false] rfl rfl (any_of HT_.out (by kernel_rfl)) (fun _ _ _ h => h) (Or.inl ⟨by rfl, ?_⟩) ?_ ?_
         rotate_left
         ·intro w'
          go_simp
          with_reducible rfl
         rotate_left
         ·simp only [Act.put, List.setIfInBounds_toArray, List.set_cons_zero, List.set_cons_succ, i64_w, i32_w]
          rfl
         refine last_ (i := 9) (N := none) #[true, true, true, true, true, true, true, true, true, true] rfl rfl (one_of HT_.out (by kernel_rfl)) (by decide) (fun K hK => ?_)
         refine skip_ (w1 := ?_) (by rfl) rfl ?_ ?_
         rotate_left
         ·go_simp
          rfl
         refine hK.out _ _ ?_
         clear hK K
         refine done_ (done_of HT_.out (by kernel_rfl)) ?_
         try go_wp2
         have n0_ : Aside0 (Kd.R (Kd.int .i64) 3 (w35.setCell ⟨go26, (x6_1 : Int).toNat, none⟩ (.int .i64 (wrap64 (t305 - 1)))) w.heap.size (fun k_ => some k_ ≠ (u305001 : Value).ownBlock ∧ some k_ ≠ (u305002 : Value).ownBlock) (.slice (some ⟨go26, 0, none⟩) x305000_1.length co26) y307) := ⟨rl HQ36.out⟩
         have n1_ : Aside0 (Kd.R (Kd.int .i64) 3 (w35.setCell ⟨go26, (x6_1 : Int).toNat, none⟩ (.int .i64 (wrap64 (t305 - 1)))) w.heap.size (fun k_ => some k_ ≠ (.slice (some ⟨go26, 0, none⟩) x305000_1.length co26 : Value).ownBlock ∧ some k_ ≠ (u305002 : Value).ownBlock) u305001 x305001_1) := ⟨rl (Kd.R_mono (Kd.R_far (p := ⟨go26, (x6_1 : Int).toNat, none⟩) (Kd.R_mono HO_305001.out (fun k_ hk => (⟨hk, fun e_ => hk.1 (by rw [e_]; rfl)⟩ : _ ∧ k_ ≠ go26))) (fun _ hk => hk.2) (.int .i64 (wrap64 (t305 - 1)))) (fun _ hk => by first | exact ⟨hk.1.1, hk.1.2⟩ | (simp only [ne_eq] at hk ⊢; simp only [hk, not_false_eq_true, and_self])))⟩
         have n2_ : Aside0 (Kd.R (Kd.int .i64) 3 (w35.setCell ⟨go26, (x6_1 : Int).toNat, none⟩ (.int .i64 (wrap64 (t305 - 1)))) w.heap.size (fun k_ => some k_ ≠ (.slice (some ⟨go26, 0, none⟩) x305000_1.length co26 : Value).ownBlock ∧ some k_ ≠ (u305001 : Value).ownBlock) u305002 x305002_1) := ⟨rl (Kd.R_mono (Kd.R_far (p := ⟨go26, (x6_1 : Int).toNat, none⟩) (Kd.R_mono HO_305002.out (fun k_ hk => (⟨hk, fun e_ => hk.1 (by rw [e_]; rfl)⟩ : _ ∧ k_ ≠ go26))) (fun _ hk => hk.2) (.int .i64 (wrap64 (t305 - 1)))) (fun _ hk => by first | exact ⟨hk.1.1, hk.1.2⟩ | (simp only [ne_eq] at hk ⊢; simp only [hk, not_false_eq_true, and_self])))⟩
         have n3_ : Aside0 ((w35.setCell ⟨go26, (x6_1 : Int).toNat, none⟩ (.int .i64 (wrap64 (t305 - 1)))).heap[gb283]? = some (.cells #[.slice none 0 0, .slice none 0 0, .slice none 0 0] 24 (0, 0))) := ⟨by (with_reducible repeat (first | refine blk_drewN ?_ _ | refine blk_drew ?_ | refine blk_alloc ?_ _)); refine blk_far ?_ (by have h_ := Kd.R_ne HO_305000.out BK283.out (by decide); intro e_; exact h_ (by rw [e_]; rfl)) _; (with_reducible repeat (first | refine blk_drewN ?_ _ | refine blk_drew ?_ | refine blk_alloc ?_ _)); exact BK283.out⟩
         have n4_ : Aside0 ((w35.setCell ⟨go26, (x6_1 : Int).toNat, none⟩ (.int .i64 (wrap64 (t305 - 1)))).heap[gb304]? = some (.cells #[.slice (some ⟨go26, 0, none⟩) x305000_1.length co26, u305001, u305002] 24 (0, 0))) := ⟨by (with_reducible repeat (first | refine blk_drewN ?_ _ | refine blk_drew ?_ | refine blk_alloc ?_ _)); refine blk_far ?_ (by have h_ := Kd.R_ne HO_305000.out BK304.out (by decide); intro e_; exact h_ (by rw [e_]; rfl)) _; (with_reducible repeat (first | refine blk_drewN ?_ _ | refine blk_drew ?_ | refine blk_alloc ?_ _)); exact BK304.out⟩
         have n5_ : Aside0 (IsS63 w0 (w35.setCell ⟨go26, (x6_1 : Int).toNat, none⟩ (.int .i64 (wrap64 (t305 - 1)))) g s0_0 t306) := ⟨by exact is63_3 HN0_go26.out NB0_283.out NB0_304.out HI0.out⟩
         have n6_ : Aside0 (KeepBut w (w35.setCell ⟨go26, (x6_1 : Int).toNat, none⟩ (.int .i64 (wrap64 (t305 - 1)))) g none) := ⟨by exact ks3 GB26.out GW283.out GW304.out HK.out⟩
         have n7_ : Aside0 (Below w0.heap.size w0 (w35.setCell ⟨go26, (x6_1 : Int).toNat, none⟩ (.int .i64 (wrap64 (t305 - 1))))) := ⟨by repeat (first | (with_reducible first | exact HB.out | apply below_alloc | apply pw_below_drewN | apply below_drew1 | refine below_set ?_ (Nat.le_trans HL.out GB26.out) | refine below_set ?_ (IsS63.ge HI0.out) | refine below_set ?_ GE283.out | refine below_set ?_ GE304.out) | exact HB.out)⟩
         (try clear HO_305000)
         (try clear HO_305001)
         (try clear HO_305002)
         (try clear BK283)
         (try clear BK304)
         (try clear HI0)
         (try clear HK)
         (try clear HB)
         generalize (w35.setCell ⟨go26, (x6_1 : Int).toNat, none⟩ (.int .i64 (wrap64 (t305 - 1)))) = w37 at n0_ n1_ n2_ n3_ n4_ n5_ n6_ n7_ ⊢
         have HO_305000 := n0_
         have HO_305001 := n1_
         have HO_305002 := n2_
         have BK283 := n3_
         have BK304 := n4_
         have HI0 := n5_
         have HK := n6_
         have HB := n7_
         clear n0_ n1_ n2_ n3_ n4_ n5_ n6_ n7_
         replace HO_305000 := am (Kd.R_drew HO_305000.out)
         replace HO_305001 := am (Kd.R_drew HO_305001.out)
         replace HO_305002 := am (Kd.R_drew HO_305002.out)
         replace BK283 := am (blk_drew BK283.out)
         replace BK304 := am (blk_drew BK304.out)
         replace HI0 := am (IsS63.drew HI0.out)
         replace HK := am (keep_drew HK.out)
         replace HB := am (below_drew1 HB.out)
         refine start_ (n := 10) (S := fun w' => w'.cell? ⟨gb304, 0, none⟩ = some (.slice (some ⟨go26, 0, none⟩) x305000_1.length co26) ∧ w'.cell? ⟨gb304, 1, none⟩ = some (u305001) ∧ w'.cell? ⟨gb304, 2, none⟩ = some (u305002)) (ds := [9]) #[false, false, false, false, false, false, false, false, false, false] (by kernel_rfl) rfl rfl ⟨(blk_cell BK304.out 0).trans rfl, (blk_cell BK304.out 1).trans rfl, (blk_cell BK304.out 2).trans rfl⟩ (fun hHeld => ?_); refine with_tabW spec_l1Draw.tab7 spec_l1Draw.bits7 (fun HT_ HW_ => ?_)
         generalize w37.drew = w38 at HO_305000 HO_305001 HO_305002 BK283 BK304 HI0 HK HB HQ36 hHeld ⊢
         refine pure_ (i := 0) (N := some 33) (v := ?_) (a' := ?_) #[true, false, false, false, false, false, false, false, false, false] rfl rfl (any_of HT_.out (by kernel_rfl)) (fun _ _ _ h => h) (Or.inl ⟨by rfl, ?_⟩) ?_ ?_
         rotate_left
         ·intro w'
          go_simp
          with_reducible rfl
         rotate_left
         ·simp only [Act.put, List.setIfInBounds_toArray, List.set_cons_zero, List.set_cons_succ, i64_w, i32_w]
          rfl
         refine pure_ (i := 2) (N := some 35) (v := ?_) (a' := ?_) #[true, false, true, false, false, false, false, false, false, false] rfl rfl (any_of HT_.out (by kernel_rfl)) (fun _ _ _ h => h) (Or.inl ⟨by rfl, ?_⟩) ?_ ?_
         rotate_left
         ·intro w'
          go_simp
          with_reducible rfl
         rotate_left
         ·simp only [Act.put, List.setIfInBounds_toArray, List.set_cons_zero, List.set_cons_succ, i64_w, i32_w]
          rfl
         refine pure_ (i := 3) (N := some 36) (v := ?_) (a' := ?_) #[true, false, true, true, false, false, false, false, false, false] rfl rfl (any_of HT_.out (by kernel_rfl)) (fun _ _ _ h => h) (Or.inl ⟨by rfl, ?_⟩) ?_ ?_
         rotate_left
         ·intro w'
          go_simp
          with_reducible rfl
         rotate_left
         ·simp only [Act.put, List.setIfInBounds_toArray, List.set_cons_zero, List.set_cons_succ, i64_w, i32_w]
          rfl
         refine pure_ (i := 4) (N := some 37) (v := ?_) (a' := ?_) #[true, false, true, true, true, false, false, false, false, false] rfl rfl (any_of HT_.out (by kernel_rfl)) (fun _ _ _ h => h) (Or.inl ⟨by rfl, ?_⟩) ?_ ?_
         rotate_left
         ·intro w'
          go_simp
          with_reducible rfl
         rotate_left
         ·simp only [Act.put, List.setIfInBounds_toArray, List.set_cons_zero, List.set_cons_succ, i64_w, i32_w]
          rfl
         refine pure_ (i := 5) (N := some 38) (v := ?_) (a' := ?_) #[true, false, true, true, true, true, false, false, false, false] rfl rfl (any_of HT_.out (by kernel_rfl)) (fun _ _ _ h => h) (Or.inl ⟨by rfl, ?_⟩) ?_ ?_
         rotate_left
         ·intro w'
          go_simp
          with_reducible rfl
         rotate_left
         ·simp only [Act.put, List.setIfInBounds_toArray, List.set_cons_zero, List.set_cons_succ, i64_w, i32_w]
          rfl
         refine take_ (i := 1) (N := some 34) (v := ?_) (a' := ?_) #[true, true, true, true, true, true, false, false, false, false] rfl rfl (take_ofW HT_.out HW_.out (by kernel_rfl)) (fun _ _ _ h => h) (Or.inl ⟨by rfl, ?_⟩) hHeld ?_ ?_
         rotate_left
         ·rintro w' ⟨s0, s1, s2⟩
          go_simp
          with_reducible rfl
         rotate_left
         ·simp only [Act.put, List.setIfInBounds_toArray, List.set_cons_zero, List.set_cons_succ, i64_w, i32_w]
          rfl
         refine one_ (i := 6) (N := some 39) #[true, true, true, true, true, true, true, false, false, false] rfl rfl (one_of HT_.out (by kernel_rfl)) (by decide) (fun K hK => ?_)
         refine goes_ Tryd.func34 (by kernel_rfl) rfl #[.pointer (some ⟨g, 0, none⟩), .int .i64 (wrap64 (t287 + 2))] (by rfl) rfl rfl (by (try simp only [List.map_toArray, List.map_cons, List.map_nil]); first | done | rfl | (simp only [List.length_drop, List.length_take]; rfl)) ?_
         with_reducible refine (spec_l13Rd_pick.calls k1 g s0_0 t306 (wrap64 (t287 + 2)) t308 t309 w0 _ ?side1 ?side2 A27.out).mono ?_
         (case side1 => exact is63_2 NB0_283.out NB0_304.out HI0.out)
         (case side2 => exact bs3 (IsS63.ge HI0.out) GE283.out GE304.out HB.out)
         rintro e w39 ⟨rfl, hi, hb, hk⟩
         refine ⟨_, rfl, ?_⟩
         replace HO_305000 := am (Kd.R_mono (Kd.R_keep (IsS63.apart (show IsS63 w0 _ g s0_0 t306 from by exact is63_2 NB0_283.out NB0_304.out HI0.out) (rl HO_305000.out) (by decide)) hk (fun _ h => h.2)) (fun _ h => h.1))
         replace HO_305001 := am (Kd.R_mono (Kd.R_keep (IsS63.apart (show IsS63 w0 _ g s0_0 t306 from by exact is63_2 NB0_283.out NB0_304.out HI0.out) (rl HO_305001.out) (by decide)) hk (fun _ h => h.2)) (fun _ h => h.1))
         replace HO_305002 := am (Kd.R_mono (Kd.R_keep (IsS63.apart (show IsS63 w0 _ g s0_0 t306 from by exact is63_2 NB0_283.out NB0_304.out HI0.out) (rl HO_305002.out) (by decide)) hk (fun _ h => h.2)) (fun _ h => h.1))
         replace BK283 := kb hk BK283 NB283_0
         replace BK304 := kb hk BK304 NB304_0
         replace HK := am (KeepBut.trans (ks2 GW283.out GW304.out HK.out) hk (.inl rfl))
         replace HB := am (hb)
         replace HI0 := am (hi)
         (try clear hb hk hi)
         have p29 : 0 ≤ (x6_1 : Int) := of_decide_eq_true (by first | (with_reducible assumption) | assumption)
         have q29 : (x6_1 : Int) < ((x305001_1.length : Int) : Int) := of_decide_eq_true (by first | (with_reducible assumption) | assumption)
         obtain ⟨go29, co29, eo29, gb29, gl29, cl29, HG29⟩ := Kd.R_form HO_305001.out (by first | omega | (have hz_ := (Kd.R_reads' HO_305001.out).1; omega))
         (first | cases eo29 | (injection eo29 with ea_ en_ ec_; (first | subst ea_ | (injection ea_ with ea_; subst ea_)); subst ec_; clear en_))
         have GB29 := am gb29
         have GG29 := am HG29
         clear gb29 gl29 HG29
         obtain ⟨hx29_0, hf29_0⟩ := Kd.R_celln 0 HO_305001.out (x6_1 : Int) p29 q29
         replace p29 := eq_true p29
         replace q29 := eq_true q29
         have HN0_go29 := am (show g ≠ go29 from by have h_ := IsS63.own_ne HI0.out HO_305001.out (by decide); intro e_; exact h_ (by rw [e_]; rfl))
         have HP40 := Kd.R_putn HO_305001.out (x6_1 : Int) (wrap64 (t308 - 2))
         rw [← Ny310.out] at HP40
         have HQ40 := am HP40
         clear HP40
         refine hK.out _ _ ⟨(blk_cell BK304.out 0).trans rfl, (blk_cell BK304.out 1).trans rfl, (blk_cell BK304.out 2).trans rfl⟩ (fun hHeld => ?_)
         clear hK K
         refine norm_ (a' := ?_) ?_ ?_
         rotate_left
         ·show Act.put _ (some 39) _ = _
          simp only [Act.put, List.setIfInBounds_toArray, List.set_cons_zero, List.set_cons_succ, i64_w, i32_w]
          rfl
         refine pure_ (i := 7) (N := some 40) (v := ?_) (a' := ?_) #[true, true, true, true, true, true, true, true, false, false] rfl rfl (any_of HT_.out (by kernel_rfl)) (fun _ _ _ h => h) (Or.inl ⟨by rfl, ?_⟩) ?_ ?_
         rotate_left
         ·intro w'
          go_simp
          with_reducible rfl
         rotate_left
         ·simp only [Act.put, List.setIfInBounds_toArray, List.set_cons_zero, List.set_cons_succ, i64_w, i32_w]
          rfl
         refine pure_ (i := 8) (N := some 41) (v := ?_) (a' := ?_) #[true, true, true, true, true, true, true, true, true, false] rfl rfl (any_of HT_.out (by kernel_rfl)) (fun _ _ _ h => h) (Or.inl ⟨by rfl, ?_⟩) ?_ ?_
         rotate_left
         ·intro w'
          go_simp
          with_reducible rfl
         rotate_left
         ·simp only [Act.put, List.setIfInBounds_toArray, List.set_cons_zero, List.set_cons_succ, i64_w, i32_w]
          rfl
         refine last_ (i := 9) (N := none) #[true, true, true, true, true, true, true, true, true, true] rfl rfl (one_of HT_.out (by kernel_rfl)) (by decide) (fun K hK => ?_)
         refine skip_ (w1 := ?_) (by rfl) rfl ?_ ?_
         rotate_left
         ·go_simp
          rfl
         refine hK.out _ _ ?_
         clear hK K
         refine done_ (done_of HT_.out (by kernel_rfl)) ?_
         have n0_ : Aside0 (Kd.R (Kd.int .i64) 3 (w39.setCell ⟨go29, (x6_1 : Int).toNat, none⟩ (.int .i64 (wrap64 (t308 - 2)))) w.heap.size (fun k_ => some k_ ≠ (.slice (some ⟨go29, 0, none⟩) x305001_1.length co29 : Value).ownBlock ∧ some k_ ≠ (u305002 : Value).ownBlock) (.slice (some ⟨go26, 0, none⟩) x305000_1.length co26) y307) := ⟨rl (Kd.R_mono (Kd.R_far (p := ⟨go29, (x6_1 : Int).toNat, none⟩) (Kd.R_mono HO_305000.out (fun k_ hk => (⟨hk, fun e_ => hk.1 (by rw [e_]; rfl)⟩ : _ ∧ k_ ≠ go29))) (fun _ hk => hk.2) (.int .i64 (wrap64 (t308 - 2)))) (fun _ hk => by first | exact ⟨hk.1.1, hk.1.2⟩ | (simp only [ne_eq] at hk ⊢; simp only [hk, not_false_eq_true, and_self])))⟩
         have n1_ : Aside0 (Kd.R (Kd.int .i64) 3 (w39.setCell ⟨go29, (x6_1 : Int).toNat, none⟩ (.int .i64 (wrap64 (t308 - 2)))) w.heap.size (fun k_ => some k_ ≠ (.slice (some ⟨go26, 0, none⟩) x305000_1.length co26 : Value).ownBlock ∧ some k_ ≠ (u305002 : Value).ownBlock) (.slice (some ⟨go29, 0, none⟩) x305001_1.length co29) y310) := ⟨rl HQ40.out⟩
         have n2_ : Aside0 (Kd.R (Kd.int .i64) 3 (w39.setCell ⟨go29, (x6_1 : Int).toNat, none⟩ (.int .i64 (wrap64 (t308 - 2)))) w.heap.size (fun k_ => some k_ ≠ (.slice (some ⟨go26, 0, none⟩) x305000_1.length co26 : Value).ownBlock ∧ some k_ ≠ (.slice (some ⟨go29, 0, none⟩) x305001_1.length co29 : Value).ownBlock) u305002 x305002_1) := ⟨rl (Kd.R_mono (Kd.R_far (p := ⟨go29, (x6_1 : Int).toNat, none⟩) (Kd.R_mono HO_305002.out (fun k_ hk => (⟨hk, fun e_ => hk.2 (by rw [e_]; rfl)⟩ : _ ∧ k_ ≠ go29))) (fun _ hk => hk.2) (.int .i64 (wrap64 (t308 - 2)))) (fun _ hk => by first | exact ⟨hk.1.1, hk.1.2⟩ | (simp only [ne_eq] at hk ⊢; simp only [hk, not_false_eq_true, and_self])))⟩
         have n3_ : Aside0 ((w39.setCell ⟨go29, (x6_1 : Int).toNat, none⟩ (.int .i64 (wrap64 (t308 - 2)))).heap[gb283]? = some (.cells #[.slice none 0 0, .slice none 0 0, .slice none 0 0] 24 (0, 0))) := ⟨by (with_reducible repeat (first | refine blk_drewN ?_ _ | refine blk_drew ?_ | refine blk_alloc ?_ _)); refine blk_far ?_ (by have h_ := Kd.R_ne HO_305001.out BK283.out (by decide); intro e_; exact h_ (by rw [e_]; rfl)) _; (with_reducible repeat (first | refine blk_drewN ?_ _ | refine blk_drew ?_ | refine blk_alloc ?_ _)); exact BK283.out⟩
         have n4_ : Aside0 ((w39.setCell ⟨go29, (x6_1 : Int).toNat, none⟩ (.int .i64 (wrap64 (t308 - 2)))).heap[gb304]? = some (.cells #[.slice (some ⟨go26, 0, none⟩) x305000_1.length co26, .slice (some ⟨go29, 0, none⟩) x305001_1.length co29, u305002] 24 (0, 0))) := ⟨by (with_reducible repeat (first | refine blk_drewN ?_ _ | refine blk_drew ?_ | refine blk_alloc ?_ _)); refine blk_far ?_ (by have h_ := Kd.R_ne HO_305001.out BK304.out (by decide); intro e_; exact h_ (by rw [e_]; rfl)) _; (with_reducible repeat (first | refine blk_drewN ?_ _ | refine blk_drew ?_ | refine blk_alloc ?_ _)); exact BK304.out⟩
         have n5_ : Aside0 (IsS63 w0 (w39.setCell ⟨go29, (x6_1 : Int).toNat, none⟩ (.int .i64 (wrap64 (t308 - 2)))) g s0_0 t309) := ⟨by exact is63_3 HN0_go29.out NB0_283.out NB0_304.out HI0.out⟩
         have n6_ : Aside0 (KeepBut w (w39.setCell ⟨go29, (x6_1 : Int).toNat, none⟩ (.int .i64 (wrap64 (t308 - 2)))) g none) := ⟨by exact ks3 GB29.out GW283.out GW304.out HK.out⟩
         have n7_ : Aside0 (Below w0.heap.size w0 (w39.setCell ⟨go29, (x6_1 : Int).toNat, none⟩ (.int .i64 (wrap64 (t308 - 2))))) := ⟨by repeat (first | (with_reducible first | exact HB.out | apply below_alloc | apply pw_below_drewN | apply below_drew1 | refine below_set ?_ (Nat.le_trans HL.out GB29.out) | refine below_set ?_ (IsS63.ge HI0.out) | refine below_set ?_ GE283.out | refine below_set ?_ GE304.out) | exact HB.out)⟩
         (try clear HO_305000)
         (try clear HO_305001)
         (try clear HO_305002)
         (try clear BK283)
         (try clear BK304)
         (try clear HI0)
         (try clear HK)
         (try clear HB)
         generalize (w39.setCell ⟨go29, (x6_1 : Int).toNat, none⟩ (.int .i64 (wrap64 (t308 - 2)))) = w41 at n0_ n1_ n2_ n3_ n4_ n5_ n6_ n7_ ⊢
         have HO_305000 := n0_
         have HO_305001 := n1_
         have HO_305002 := n2_
         have BK283 := n3_
         have BK304 := n4_
         have HI0 := n5_
         have HK := n6_
         have HB := n7_
         clear n0_ n1_ n2_ n3_ n4_ n5_ n6_ n7_
         have hnb42 := NB304_283.out
         have hnc42 := NB283_304.out
         have hnb43 := NB304_0.out
         have hnc43 := NB0_304.out
         obtain ⟨hcz44_0, hcz44_1, hcz44_2, hfz44_0, hfz44_1, hfz44_2⟩ := cf3 BK304
         have p311 : 0 ≤ (x6_1 : Int) := of_decide_eq_true (by first | (with_reducible assumption) | assumption)
         have q311 : x6_1 < (y307.length : Int) := (by have h_ : (x6_1 : Int) < ((x305000_1.length : Int) : Int) := of_decide_eq_true (by first | (with_reducible assumption) | assumption); first | (have e_ := (Kd.R_reads' HO_305000.out).1; omega) | simpa only [Ny307.out, List.length_set] using h_)
         have ql311 : ((x6_1 : Int) < ((x305000_1.length : Int) : Int)) = True := eq_true (of_decide_eq_true (by first | (with_reducible assumption) | assumption))
         obtain ⟨ad311, e311, hx311_0⟩ := Kd.at_int (Kd.R_reads' HO_305000.out).2.2 x6_1 p311 q311
         obtain rfl : (⟨go26, 0, none⟩ : Addr) = ad311 := (by injection e311)
         (first | simp only [add_plain] at hx311_0 | simp only [add_at] at hx311_0 | simp only [Addr.add, Nat.zero_add] at hx311_0 | skip)
         replace p311 := eq_true p311
         replace q311 := eq_true q311
         have p31 : 0 ≤ (x6_1 : Int) := of_decide_eq_true (by first | (with_reducible assumption) | assumption)
         have q31 : (x6_1 : Int) < ((x305000_1.length : Int) : Int) := of_decide_eq_true (by first | (with_reducible assumption) | assumption)
         obtain ⟨hx31_0, hf31_0⟩ := Kd.R_celln 0 HO_305000.out (x6_1 : Int) p31 q31
         replace p31 := eq_true p31
         replace q31 := eq_true q31
         obtain ⟨hy45_, hz45_⟩ := Kd.R_celln 0 HO_305000.out (x6_1 : Int) (of_decide_eq_true (by first | (with_reducible assumption) | assumption)) (of_decide_eq_true (by first | (with_reducible assumption) | assumption))
         have HP45 := Kd.R_putg HO_305000.out (x6_1 : Int) (-1)
         try go_wp2_with (first | ((with_reducible refine gate_store (t := 3) (p := 52) rfl ?_); refine store_event (t := 3) (p := 52) (v := ?vo_w46) (w1 := (w41.setCell ⟨go26, (x6_1 : Int).toNat, none⟩ (.int .i64 (-1)))) ?hg ?ho ?hn ?hr ?_; (case ho => rfl); (case hg => rfl); (case hn => rfl); (case hr => first | (go_simp; done) | (go_simp; rfl)); intro w46 hw; have hg : w41.grownBy w46 (some go26) := (by rw [hw]; exact HP45.2); have hp_ : Kd.R (Kd.int .i64) 3 w46 w.heap.size (fun k_ => some k_ ≠ (.slice (some ⟨go29, 0, none⟩) x305001_1.length co29 : Value).ownBlock ∧ some k_ ≠ (u305002 : Value).ownBlock) (.slice (some ⟨go26, 0, none⟩) x305000_1.length co26) y312 := (by rw [hw, Ny312.out]; exact HP45.1); clear HP45; replace HO_305001 := am (Kd.R_after (v := (.slice (some ⟨go26, 0, none⟩) x305000_1.length co26)) (v1 := (.slice (some ⟨go26, 0, none⟩) x305000_1.length co26)) (ok := (fun k_ => some k_ ≠ (u305002 : Value).ownBlock)) (rl (Kd.R_mono HO_305001.out (fun _ hk => by first | exact ⟨hk.2, hk.1⟩ | (simp only [ne_eq] at hk ⊢; simp only [hk, not_false_eq_true, and_self])))) hg (.inl rfl)); replace HO_305002 := am (Kd.R_after (v := (.slice (some ⟨go26, 0, none⟩) x305000_1.length co26)) (v1 := (.slice (some ⟨go26, 0, none⟩) x305000_1.length co26)) (ok := (fun k_ => some k_ ≠ (.slice (some ⟨go29, 0, none⟩) x305001_1.length co29 : Value).ownBlock)) (rl (Kd.R_mono HO_305002.out (fun _ hk => by first | exact ⟨hk.2, hk.1⟩ | (simp only [ne_eq] at hk ⊢; simp only [hk, not_false_eq_true, and_self])))) hg (.inl rfl)); replace BK283 := am (blk_grown (g := gb283) (o := .cells #[.slice none 0 0, .slice none 0 0, .slice none 0 0] 24 (0, 0)) (kl BK283.out) hg (Kd.R_ne HO_305000.out BK283.out (by decide))); replace BK304 := am (blk_grown (g := gb304) (o := .cells #[.slice (some ⟨go26, 0, none⟩) x305000_1.length co26, .slice (some ⟨go29, 0, none⟩) x305001_1.length co29, u305002] 24 (0, 0)) (kl BK304.out) hg (Kd.R_ne HO_305000.out BK304.out (by decide))); replace HI0 := am (IsS63.grown (is63_2 NB0_283.out NB0_304.out HI0.out) hg (IsS63.own_ne HI0.out HO_305000.out (by decide))); replace HB := am ((by rw [hw]; exact below_set (HB.out) (Nat.le_trans HL.out GB26.out) : Below w0.heap.size w0 w46)); replace HK := am (KeepBut.trans (ks2 GW283.out GW304.out HK.out) (KeepBut.of_grown hg g) (Kd.R_base2 HO_305000.out)); replace HO_305000 := am (hp_); clear hg hw hp_; obtain ⟨hcz47_0, hcz47_1, hcz47_2, hfz47_0, hfz47_1, hfz47_2⟩ := cf3 BK304; have p313 : 0 ≤ (x6_1 : Int) := of_decide_eq_true (by first | (with_reducible assumption) | assumption); have q313 : x6_1 < (y310.length : Int) := (by have h_ : (x6_1 : Int) < ((x305001_1.length : Int) : Int) := of_decide_eq_true (by first | (with_reducible assumption) | assumption); first | (have e_ := (Kd.R_reads' HO_305001.out).1; omega) | simpa only [Ny310.out, List.length_set] using h_); have ql313 : ((x6_1 : Int) < ((x305001_1.length : Int) : Int)) = True := eq_true (of_decide_eq_true (by first | (with_reducible assumption) | assumption)); obtain ⟨ad313, e313, hx313_0⟩ := Kd.at_int (Kd.R_reads' HO_305001.out).2.2 x6_1 p313 q313; obtain rfl : (⟨go29, 0, none⟩ : Addr) = ad313 := (by injection e313); (first | simp only [add_plain] at hx313_0 | simp only [add_at] at hx313_0 | simp only [Addr.add, Nat.zero_add] at hx313_0 | skip); replace p313 := eq_true p313; replace q313 := eq_true q313; have p33 : 0 ≤ (x6_1 : Int) := of_decide_eq_true (by first | (with_reducible assumption) | assumption); have q33 : (x6_1 : Int) < ((x305001_1.length : Int) : Int) := of_decide_eq_true (by first | (with_reducible assumption) | assumption); obtain ⟨hx33_0, hf33_0⟩ := Kd.R_celln 0 HO_305001.out (x6_1 : Int) p33 q33; replace p33 := eq_true p33; replace q33 := eq_true q33; obtain ⟨hy48_, hz48_⟩ := Kd.R_celln 0 HO_305001.out (x6_1 : Int) (of_decide_eq_true (by first | (with_reducible assumption) | assumption)) (of_decide_eq_true (by first | (with_reducible assumption) | assumption)); have HP48 := Kd.R_putg HO_305001.out (x6_1 : Int) (-1)) | ((with_reducible refine gate_store (t := 3) (p := 62) rfl ?_); refine store_event (t := 3) (p := 62) (v := ?vo_w49) (w1 := (w46.setCell ⟨go29, (x6_1 : Int).toNat, none⟩ (.int .i64 (-1)))) ?hg ?ho ?hn ?hr ?_; (case ho => rfl); (case hg => rfl); (case hn => rfl); (case hr => first | (go_simp; done) | (go_simp; rfl)); intro w49 hw; have hg : w46.grownBy w49 (some go29) := (by rw [hw]; exact HP48.2); have hp_ : Kd.R (Kd.int .i64) 3 w49 w.heap.size (fun k_ => some k_ ≠ (u305002 : Value).ownBlock ∧ some k_ ≠ (.slice (some ⟨go26, 0, none⟩) x305000_1.length co26 : Value).ownBlock) (.slice (some ⟨go29, 0, none⟩) x305001_1.length co29) y314 := (by rw [hw, Ny314.out]; exact HP48.1); clear HP48; replace HO_305000 := am (Kd.R_after (v := (.slice (some ⟨go29, 0, none⟩) x305001_1.length co29)) (v1 := (.slice (some ⟨go29, 0, none⟩) x305001_1.length co29)) (ok := (fun k_ => some k_ ≠ (u305002 : Value).ownBlock)) (rl (Kd.R_mono HO_305000.out (fun _ hk => by first | exact ⟨hk.2, hk.1⟩ | (simp only [ne_eq] at hk ⊢; simp only [hk, not_false_eq_true, and_self])))) hg (.inl rfl)); replace HO_305002 := am (Kd.R_after (v := (.slice (some ⟨go29, 0, none⟩) x305001_1.length co29)) (v1 := (.slice (some ⟨go29, 0, none⟩) x305001_1.length co29)) (ok := (fun k_ => some k_ ≠ (.slice (some ⟨go26, 0, none⟩) x305000_1.length co26 : Value).ownBlock)) (rl (Kd.R_mono HO_305002.out (fun _ hk => by first | exact ⟨hk.2, hk.1⟩ | (simp only [ne_eq] at hk ⊢; simp only [hk, not_false_eq_true, and_self])))) hg (.inl rfl)); replace BK283 := am (blk_grown (g := gb283) (o := .cells #[.slice none 0 0, .slice none 0 0, .slice none 0 0] 24 (0, 0)) (kl BK283.out) hg (Kd.R_ne HO_305001.out BK283.out (by decide))); replace BK304 := am (blk_grown (g := gb304) (o := .cells #[.slice (some ⟨go26, 0, none⟩) x305000_1.length co26, .slice (some ⟨go29, 0, none⟩) x305001_1.length co29, u305002] 24 (0, 0)) (kl BK304.out) hg (Kd.R_ne HO_305001.out BK304.out (by decide))); replace HI0 := am (IsS63.grown (is63_2 NB0_283.out NB0_304.out HI0.out) hg (IsS63.own_ne HI0.out HO_305001.out (by decide))); replace HB := am ((by rw [hw]; exact below_set (HB.out) (Nat.le_trans HL.out GB29.out) : Below w0.heap.size w0 w49)); replace HK := am (KeepBut.trans (ks2 GW283.out GW304.out HK.out) (KeepBut.of_grown hg g) (Kd.R_base2 HO_305001.out)); replace HO_305001 := am (hp_); clear hg hw hp_))
         go_roundg k1
         case measure => have := HK1.out; omega
         case rel => exact ⟨(wrap64 (x6_1 + 1)), (t309), (y312), (y314), (x305002_1), (.slice (some ⟨go26, 0, none⟩) x305000_1.length co26), (.slice (some ⟨go29, 0, none⟩) x305001_1.length co29), (u305002), (by first | rfl | (simp; done) | (simp [*]; done)), H', ⟨by have := HK1.out; omega⟩, ⟨rl (Kd.R_mono HO_305000.out (fun _ hk => by first | exact ⟨hk.2, hk.1⟩ | (simp only [ne_eq] at hk ⊢; simp only [hk, not_false_eq_true, and_self])))⟩, ⟨rl (Kd.R_mono HO_305001.out (fun _ hk => by first | exact ⟨hk.2, hk.1⟩ | (simp only [ne_eq] at hk ⊢; simp only [hk, not_false_eq_true, and_self])))⟩, ⟨rl HO_305002.out⟩, ⟨kl BK283.out⟩, ⟨kl BK304.out⟩, ⟨by exact is63_2 NB0_283.out NB0_304.out HI0.out⟩, ⟨by exact ks2 GW283.out GW304.out HK.out⟩, ⟨by exact bs3 (IsS63.ge HI0.out) GE283.out GE304.out HB.out⟩⟩
        ·rw [if_neg c32] at H
         have c32b0 : decide ((rd y310 x6_1) < (-1)) = false := decide_eq_false c32
         clear c32
         have H' := am H
         clear H
         try go_wp2
         replace HO_305000 := am (Kd.R_drew HO_305000.out)
         replace HO_305001 := am (Kd.R_drew HO_305001.out)
         replace HO_305002 := am (Kd.R_drew HO_305002.out)
         replace BK283 := am (blk_drew BK283.out)
         replace BK304 := am (blk_drew BK304.out)
         replace HI0 := am (IsS63.drew HI0.out)
         replace HK := am (keep_drew HK.out)
         replace HB := am (below_drew1 HB.out)
         refine start_ (n := 10) (S := fun w' => w'.cell? ⟨gb304, 0, none⟩ = some (u305000) ∧ w'.cell? ⟨gb304, 1, none⟩ = some (u305001) ∧ w'.cell? ⟨gb304, 2, none⟩ = some (u305002)) (ds := [9]) #[false, false, false, false, false, false, false, false, false, false] (by kernel_rfl) rfl rfl ⟨(blk_cell BK304.out 0).trans rfl, (blk_cell BK304.out 1).trans rfl, (blk_cell BK304.out 2).trans rfl⟩ (fun hHeld => ?_); refine with_tabW spec_l1Draw.tab6 spec_l1Draw.bits6 (fun HT_ HW_ => ?_)
         generalize wr.drew = w50 at HO_305000 HO_305001 HO_305002 BK283 BK304 HI0 HK HB hHeld ⊢
         refine pure_ (i := 0) (N := some 24) (v := ?_) (a' := ?_) #[true, false, false, false, false, false, false, false, false, false] rfl rfl (any_of HT_.out (by kernel_rfl)) (fun _ _ _ h => h) (Or.inl ⟨by rfl, ?_⟩) ?_ ?_
         rotate_left
         ·intro w'
          go_simp
          with_reducible rfl
         rotate_left
         ·simp only [Act.put, List.setIfInBounds_toArray, List.set_cons_zero, List.set_cons_succ, i64_w, i32_w]
          rfl
         refine pure_ (i := 2) (N := some 26) (v := ?_) (a' := ?_) #[true, false, true, false, false, false, false, false, false, false] rfl rfl (any_of HT_.out (by kernel_rfl)) (fun _ _ _ h => h) (Or.inl ⟨by rfl, ?_⟩) ?_ ?_
         rotate_left
         ·intro w'
          go_simp
          with_reducible rfl
         rotate_left
         ·simp only [Act.put, List.setIfInBounds_toArray, List.set_cons_zero, List.set_cons_succ, i64_w, i32_w]
          rfl
         refine pure_ (i := 3) (N := some 27) (v := ?_) (a' := ?_) #[true, false, true, true, false, false, false, false, false, false] rfl rfl (any_of HT_.out (by kernel_rfl)) (fun _ _ _ h => h) (Or.inl ⟨by rfl, ?_⟩) ?_ ?_
         rotate_left
         ·intro w'
          go_simp
          with_reducible rfl
         rotate_left
         ·simp only [Act.put, List.setIfInBounds_toArray, List.set_cons_zero, List.set_cons_succ, i64_w, i32_w]
          rfl
         refine pure_ (i := 4) (N := some 28) (v := ?_) (a' := ?_) #[true, false, true, true, true, false, false, false, false, false] rfl rfl (any_of HT_.out (by kernel_rfl)) (fun _ _ _ h => h) (Or.inl ⟨by rfl, ?_⟩) ?_ ?_
         rotate_left
         ·intro w'
          go_simp
          with_reducible rfl
         rotate_left
         ·simp only [Act.put, List.setIfInBounds_toArray, List.set_cons_zero, List.set_cons_succ, i64_w, i32_w]
          rfl
         refine pure_ (i := 5) (N := some 29) (v := ?_) (a' := ?_) #[true, false, true, true, true, true, false, false, false, false] rfl rfl (any_of HT_.out (by kernel_rfl)) (fun _ _ _ h => h) (Or.inl ⟨by rfl, ?_⟩) ?_ ?_
         rotate_left
         ·intro w'
          go_simp
          with_reducible rfl
         rotate_left
         ·simp only [Act.put, List.setIfInBounds_toArray, List.set_cons_zero, List.set_cons_succ, i64_w, i32_w]
          rfl
         refine take_ (i := 1) (N := some 25) (v := ?_) (a' := ?_) #[true, true, true, true, true, true, false, false, false, false] rfl rfl (take_ofW HT_.out HW_.out (by kernel_rfl)) (fun _ _ _ h => h) (Or.inl ⟨by rfl, ?_⟩) hHeld ?_ ?_
         rotate_left
         ·rintro w' ⟨s0, s1, s2⟩
          go_simp
          with_reducible rfl
         rotate_left
         ·simp only [Act.put, List.setIfInBounds_toArray, List.set_cons_zero, List.set_cons_succ, i64_w, i32_w]
          rfl
         refine one_ (i := 6) (N := some 30) #[true, true, true, true, true, true, true, false, false, false] rfl rfl (one_of HT_.out (by kernel_rfl)) (by decide) (fun K hK => ?_)
         refine goes_ Tryd.func34 (by kernel_rfl) rfl #[.pointer (some ⟨g, 0, none⟩), .int .i64 (wrap64 (t287 + 2))] (by rfl) rfl rfl (by (try simp only [List.map_toArray, List.map_cons, List.map_nil]); first | done | rfl | (simp only [List.length_drop, List.length_take]; rfl)) ?_
         with_reducible refine (spec_l13Rd_pick.calls k1 g s0_0 x1001_1 (wrap64 (t287 + 2)) t305 t306 w0 _ ?side1 ?side2 A23.out).mono ?_
         (case side1 => exact is63_2 NB0_283.out NB0_304.out HI0.out)
         (case side2 => exact bs3 (IsS63.ge HI0.out) GE283.out GE304.out HB.out)
         rintro e w51 ⟨rfl, hi, hb, hk⟩
         refine ⟨_, rfl, ?_⟩
         replace HO_305000 := am (Kd.R_mono (Kd.R_keep (IsS63.apart (show IsS63 w0 _ g s0_0 x1001_1 from by exact is63_2 NB0_283.out NB0_304.out HI0.out) (rl HO_305000.out) (by decide)) hk (fun _ h => h.2)) (fun _ h => h.1))
         replace HO_305001 := am (Kd.R_mono (Kd.R_keep (IsS63.apart (show IsS63 w0 _ g s0_0 x1001_1 from by exact is63_2 NB0_283.out NB0_304.out HI0.out) (rl HO_305001.out) (by decide)) hk (fun _ h => h.2)) (fun _ h => h.1))
         replace HO_305002 := am (Kd.R_mono (Kd.R_keep (IsS63.apart (show IsS63 w0 _ g s0_0 x1001_1 from by exact is63_2 NB0_283.out NB0_304.out HI0.out) (rl HO_305002.out) (by decide)) hk (fun _ h => h.2)) (fun _ h => h.1))
         replace BK283 := kb hk BK283 NB283_0
         replace BK304 := kb hk BK304 NB304_0
         replace HK := am (KeepBut.trans (ks2 GW283.out GW304.out HK.out) hk (.inl rfl))
         replace HB := am (hb)
         replace HI0 := am (hi)
         (try clear hb hk hi)
         have p26 : 0 ≤ (x6_1 : Int) := of_decide_eq_true (by first | (with_reducible assumption) | assumption)
         have q26 : (x6_1 : Int) < ((x305000_1.length : Int) : Int) := of_decide_eq_true (by first | (with_reducible assumption) | assumption)
         obtain ⟨go26, co26, eo26, gb26, gl26, cl26, HG26⟩ := Kd.R_form HO_305000.out (by first | omega | (have hz_ := (Kd.R_reads' HO_305000.out).1; omega))
         (first | cases eo26 | (injection eo26 with ea_ en_ ec_; (first | subst ea_ | (injection ea_ with ea_; subst ea_)); subst ec_; clear en_))
         have GB26 := am gb26
         have GG26 := am HG26
         clear gb26 gl26 HG26
         obtain ⟨hx26_0, hf26_0⟩ := Kd.R_celln 0 HO_305000.out (x6_1 : Int) p26 q26
         replace p26 := eq_true p26
         replace q26 := eq_true q26
         have HN0_go26 := am (show g ≠ go26 from by have h_ := IsS63.own_ne HI0.out HO_305000.out (by decide); intro e_; exact h_ (by rw [e_]; rfl))
         have HP52 := Kd.R_putn HO_305000.out (x6_1 : Int) (wrap64 (t305 - 1))
         rw [← Ny307.out] at HP52
         have HQ52 := am HP52
         clear HP52
         refine hK.out _ _ ⟨(blk_cell BK304.out 0).trans rfl, (blk_cell BK304.out 1).trans rfl, (blk_cell BK304.out 2).trans rfl⟩ (fun hHeld => ?_)
         clear hK K
         refine norm_ (a' := ?_) ?_ ?_
         rotate_left
         ·show Act.put _ (some 30) _ = _
          simp only [Act.put, List.setIfInBounds_toArray, List.set_cons_zero, List.set_cons_succ, i64_w, i32_w]
          rfl
         refine pure_ (i := 7) (N := some 31) (v := ?_) (a' := ?_) #[true, true, true, true, true, true, true, true, false, false] rfl rfl (any_of HT_.out (by kernel_rfl)) (fun _ _ _ h => h) (Or.inl ⟨by rfl, ?_⟩) ?_ ?_
         rotate_left
         ·intro w'
          go_simp
          with_reducible rfl
         rotate_left
         ·simp only [Act.put, List.setIfInBounds_toArray, List.set_cons_zero, List.set_cons_succ, i64_w, i32_w]
          rfl
         refine pure_ (i := 8) (N := some 32) (v := ?_) (a' := ?_) #[true, true, true, true, true, true, true, true, true, false] rfl rfl (any_of HT_.out (by kernel_rfl)) (fun _ _ _ h => h) (Or.inl ⟨by rfl, ?_⟩) ?_ ?_
         rotate_left
         ·intro w'
          go_simp
          with_reducible rfl
         rotate_left
         ·simp only [Act.put, List.setIfInBounds_toArray, List.set_cons_zero, List.set_cons_succ, i64_w, i32_w]
          rfl
         refine last_ (i := 9) (N := none) #[true, true, true, true, true, true, true, true, true, true] rfl rfl (one_of HT_.out (by kernel_rfl)) (by decide) (fun K hK => ?_)
         refine skip_ (w1 := ?_) (by rfl) rfl ?_ ?_
         rotate_left
         ·go_simp
          rfl
         refine hK.out _ _ ?_
         clear hK K
         refine done_ (done_of HT_.out (by kernel_rfl)) ?_
         try go_wp2
         have n0_ : Aside0 (Kd.R (Kd.int .i64) 3 (w51.setCell ⟨go26, (x6_1 : Int).toNat, none⟩ (.int .i64 (wrap64 (t305 - 1)))) w.heap.size (fun k_ => some k_ ≠ (u305001 : Value).ownBlock ∧ some k_ ≠ (u305002 : Value).ownBlock) (.slice (some ⟨go26, 0, none⟩) x305000_1.length co26) y307) := ⟨rl HQ52.out⟩
         have n1_ : Aside0 (Kd.R (Kd.int .i64) 3 (w51.setCell ⟨go26, (x6_1 : Int).toNat, none⟩ (.int .i64 (wrap64 (t305 - 1)))) w.heap.size (fun k_ => some k_ ≠ (.slice (some ⟨go26, 0, none⟩) x305000_1.length co26 : Value).ownBlock ∧ some k_ ≠ (u305002 : Value).ownBlock) u305001 x305001_1) := ⟨rl (Kd.R_mono (Kd.R_far (p := ⟨go26, (x6_1 : Int).toNat, none⟩) (Kd.R_mono HO_305001.out (fun k_ hk => (⟨hk, fun e_ => hk.1 (by rw [e_]; rfl)⟩ : _ ∧ k_ ≠ go26))) (fun _ hk => hk.2) (.int .i64 (wrap64 (t305 - 1)))) (fun _ hk => by first | exact ⟨hk.1.1, hk.1.2⟩ | (simp only [ne_eq] at hk ⊢; simp only [hk, not_false_eq_true, and_self])))⟩
         have n2_ : Aside0 (Kd.R (Kd.int .i64) 3 (w51.setCell ⟨go26, (x6_1 : Int).toNat, none⟩ (.int .i64 (wrap64 (t305 - 1)))) w.heap.size (fun k_ => some k_ ≠ (.slice (some ⟨go26, 0, none⟩) x305000_1.length co26 : Value).ownBlock ∧ some k_ ≠ (u305001 : Value).ownBlock) u305002 x305002_1) := ⟨rl (Kd.R_mono (Kd.R_far (p := ⟨go26, (x6_1 : Int).toNat, none⟩) (Kd.R_mono HO_305002.out (fun k_ hk => (⟨hk, fun e_ => hk.1 (by rw [e_]; rfl)⟩ : _ ∧ k_ ≠ go26))) (fun _ hk => hk.2) (.int .i64 (wrap64 (t305 - 1)))) (fun _ hk => by first | exact ⟨hk.1.1, hk.1.2⟩ | (simp only [ne_eq] at hk ⊢; simp only [hk, not_false_eq_true, and_self])))⟩
         have n3_ : Aside0 ((w51.setCell ⟨go26, (x6_1 : Int).toNat, none⟩ (.int .i64 (wrap64 (t305 - 1)))).heap[gb283]? = some (.cells #[.slice none 0 0, .slice none 0 0, .slice none 0 0] 24 (0, 0))) := ⟨by (with_reducible repeat (first | refine blk_drewN ?_ _ | refine blk_drew ?_ | refine blk_alloc ?_ _)); refine blk_far ?_ (by have h_ := Kd.R_ne HO_305000.out BK283.out (by decide); intro e_; exact h_ (by rw [e_]; rfl)) _; (with_reducible repeat (first | refine blk_drewN ?_ _ | refine blk_drew ?_ | refine blk_alloc ?_ _)); exact BK283.out⟩
         have n4_ : Aside0 ((w51.setCell ⟨go26, (x6_1 : Int).toNat, none⟩ (.int .i64 (wrap64 (t305 - 1)))).heap[gb304]? = some (.cells #[.slice (some ⟨go26, 0, none⟩) x305000_1.length co26, u305001, u305002] 24 (0, 0))) := ⟨by (with_reducible repeat (first | refine blk_drewN ?_ _ | refine blk_drew ?_ | refine blk_alloc ?_ _)); refine blk_far ?_ (by have h_ := Kd.R_ne HO_305000.out BK304.out (by decide); intro e_; exact h_ (by rw [e_]; rfl)) _; (with_reducible repeat (first | refine blk_drewN ?_ _ | refine blk_drew ?_ | refine blk_alloc ?_ _)); exact BK304.out⟩
         have n5_ : Aside0 (IsS63 w0 (w51.setCell ⟨go26, (x6_1 : Int).toNat, none⟩ (.int .i64 (wrap64 (t305 - 1)))) g s0_0 t306) := ⟨by exact is63_3 HN0_go26.out NB0_283.out NB0_304.out HI0.out⟩
         have n6_ : Aside0 (KeepBut w (w51.setCell ⟨go26, (x6_1 : Int).toNat, none⟩ (.int .i64 (wrap64 (t305 - 1)))) g none) := ⟨by exact ks3 GB26.out GW283.out GW304.out HK.out⟩
         have n7_ : Aside0 (Below w0.heap.size w0 (w51.setCell ⟨go26, (x6_1 : Int).toNat, none⟩ (.int .i64 (wrap64 (t305 - 1))))) := ⟨by repeat (first | (with_reducible first | exact HB.out | apply below_alloc | apply pw_below_drewN | apply below_drew1 | refine below_set ?_ (Nat.le_trans HL.out GB26.out) | refine below_set ?_ (IsS63.ge HI0.out) | refine below_set ?_ GE283.out | refine below_set ?_ GE304.out) | exact HB.out)⟩
         (try clear HO_305000)
         (try clear HO_305001)
         (try clear HO_305002)
         (try clear BK283)
         (try clear BK304)
         (try clear HI0)
         (try clear HK)
         (try clear HB)
         generalize (w51.setCell ⟨go26, (x6_1 : Int).toNat, none⟩ (.int .i64 (wrap64 (t305 - 1)))) = w53 at n0_ n1_ n2_ n3_ n4_ n5_ n6_ n7_ ⊢
         have HO_305000 := n0_
         have HO_305001 := n1_
         have HO_305002 := n2_
         have BK283 := n3_
         have BK304 := n4_
         have HI0 := n5_
         have HK := n6_
         have HB := n7_
         clear n0_ n1_ n2_ n3_ n4_ n5_ n6_ n7_
         replace HO_305000 := am (Kd.R_drew HO_305000.out)
         replace HO_305001 := am (Kd.R_drew HO_305001.out)
         replace HO_305002 := am (Kd.R_drew HO_305002.out)
         replace BK283 := am (blk_drew BK283.out)
         replace BK304 := am (blk_drew BK304.out)
         replace HI0 := am (IsS63.drew HI0.out)
         replace HK := am (keep_drew HK.out)
         replace HB := am (below_drew1 HB.out)
         refine start_ (n := 10) (S := fun w' => w'.cell? ⟨gb304, 0, none⟩ = some (.slice (some ⟨go26, 0, none⟩) x305000_1.length co26) ∧ w'.cell? ⟨gb304, 1, none⟩ = some (u305001) ∧ w'.cell? ⟨gb304, 2, none⟩ = some (u305002)) (ds := [9]) #[false, false, false, false, false, false, false, false, false, false] (by kernel_rfl) rfl rfl ⟨(blk_cell BK304.out 0).trans rfl, (blk_cell BK304.out 1).trans rfl, (blk_cell BK304.out 2).trans rfl⟩ (fun hHeld => ?_); refine with_tabW spec_l1Draw.tab7 spec_l1Draw.bits7 (fun HT_ HW_ => ?_)
         generalize w53.drew = w54 at HO_305000 HO_305001 HO_305002 BK283 BK304 HI0 HK HB HQ52 hHeld ⊢
         refine pure_ (i := 0) (N := some 33) (v := ?_) (a' := ?_) #[true, false, false, false, false, false, false, false, false, false] rfl rfl (any_of HT_.out (by kernel_rfl)) (fun _ _ _ h => h) (Or.inl ⟨by rfl, ?_⟩) ?_ ?_
         rotate_left
         ·intro w'
          go_simp
          with_reducible rfl
         rotate_left
         ·simp only [Act.put, List.setIfInBounds_toArray, List.set_cons_zero, List.set_cons_succ, i64_w, i32_w]
          rfl
         refine pure_ (i := 2) (N := some 35) (v := ?_) (a' := ?_) #[true, false, true, false, false, false, false, false, false, false] rfl rfl (any_of HT_.out (by kernel_rfl)) (fun _ _ _ h => h) (Or.inl ⟨by rfl, ?_⟩) ?_ ?_
         rotate_left
         ·intro w'
          go_simp
          with_reducible rfl
         rotate_left
         ·simp only [Act.put, List.setIfInBounds_toArray, List.set_cons_zero, List.set_cons_succ, i64_w, i32_w]
          rfl
         refine pure_ (i := 3) (N := some 36) (v := ?_) (a' := ?_) #[true, false, true, true, false, false, false, false, false, false] rfl rfl (any_of HT_.out (by kernel_rfl)) (fun _ _ _ h => h) (Or.inl ⟨by rfl, ?_⟩) ?_ ?_
         rotate_left
         ·intro w'
          go_simp
          with_reducible rfl
         rotate_left
         ·simp only [Act.put, List.setIfInBounds_toArray, List.set_cons_zero, List.set_cons_succ, i64_w, i32_w]
          rfl
         refine pure_ (i := 4) (N := some 37) (v := ?_) (a' := ?_) #[true, false, true, true, true, false, false, false, false, false] rfl rfl (any_of HT_.out (by kernel_rfl)) (fun _ _ _ h => h) (Or.inl ⟨by rfl, ?_⟩) ?_ ?_
         rotate_left
         ·intro w'
          go_simp
          with_reducible rfl
         rotate_left
         ·simp only [Act.put, List.setIfInBounds_toArray, List.set_cons_zero, List.set_cons_succ, i64_w, i32_w]
          rfl
         refine pure_ (i := 5) (N := some 38) (v := ?_) (a' := ?_) #[true, false, true, true, true, true, false, false, false, false] rfl rfl (any_of HT_.out (by kernel_rfl)) (fun _ _ _ h => h) (Or.inl ⟨by rfl, ?_⟩) ?_ ?_
         rotate_left
         ·intro w'
          go_simp
          with_reducible rfl
         rotate_left
         ·simp only [Act.put, List.setIfInBounds_toArray, List.set_cons_zero, List.set_cons_succ, i64_w, i32_w]
          rfl
         refine take_ (i := 1) (N := some 34) (v := ?_) (a' := ?_) #[true, true, true, true, true, true, false, false, false, false] rfl rfl (take_ofW HT_.out HW_.out (by kernel_rfl)) (fun _ _ _ h => h) (Or.inl ⟨by rfl, ?_⟩) hHeld ?_ ?_
         rotate_left
         ·rintro w' ⟨s0, s1, s2⟩
          go_simp
          with_reducible rfl
         rotate_left
         ·simp only [Act.put, List.setIfInBounds_toArray, List.set_cons_zero, List.set_cons_succ, i64_w, i32_w]
          rfl
         refine one_ (i := 6) (N := some 39) #[true, true, true, true, true, true, true, false, false, false] rfl rfl (one_of HT_.out (by kernel_rfl)) (by decide) (fun K hK => ?_)
         refine goes_ Tryd.func34 (by kernel_rfl) rfl #[.pointer (some ⟨g, 0, none⟩), .int .i64 (wrap64 (t287 + 2))] (by rfl) rfl rfl (by (try simp only [List.map_toArray, List.map_cons, List.map_nil]); first | done | rfl | (simp only [List.length_drop, List.length_take]; rfl)) ?_
         with_reducible refine (spec_l13Rd_pick.calls k1 g s0_0 t306 (wrap64 (t287 + 2)) t308 t309 w0 _ ?side1 ?side2 A27.out).mono ?_
         (case side1 => exact is63_2 NB0_283.out NB0_304.out HI0.out)
         (case side2 => exact bs3 (IsS63.ge HI0.out) GE283.out GE304.out HB.out)
         rintro e w55 ⟨rfl, hi, hb, hk⟩
         refine ⟨_, rfl, ?_⟩
         replace HO_305000 := am (Kd.R_mono (Kd.R_keep (IsS63.apart (show IsS63 w0 _ g s0_0 t306 from by exact is63_2 NB0_283.out NB0_304.out HI0.out) (rl HO_305000.out) (by decide)) hk (fun _ h => h.2)) (fun _ h => h.1))
         replace HO_305001 := am (Kd.R_mono (Kd.R_keep (IsS63.apart (show IsS63 w0 _ g s0_0 t306 from by exact is63_2 NB0_283.out NB0_304.out HI0.out) (rl HO_305001.out) (by decide)) hk (fun _ h => h.2)) (fun _ h => h.1))
         replace HO_305002 := am (Kd.R_mono (Kd.R_keep (IsS63.apart (show IsS63 w0 _ g s0_0 t306 from by exact is63_2 NB0_283.out NB0_304.out HI0.out) (rl HO_305002.out) (by decide)) hk (fun _ h => h.2)) (fun _ h => h.1))
         replace BK283 := kb hk BK283 NB283_0
         replace BK304 := kb hk BK304 NB304_0
         replace HK := am (KeepBut.trans (ks2 GW283.out GW304.out HK.out) hk (.inl rfl))
         replace HB := am (hb)
         replace HI0 := am (hi)
         (try clear hb hk hi)
         have p29 : 0 ≤ (x6_1 : Int) := of_decide_eq_true (by first | (with_reducible assumption) | assumption)
         have q29 : (x6_1 : Int) < ((x305001_1.length : Int) : Int) := of_decide_eq_true (by first | (with_reducible assumption) | assumption)
         obtain ⟨go29, co29, eo29, gb29, gl29, cl29, HG29⟩ := Kd.R_form HO_305001.out (by first | omega | (have hz_ := (Kd.R_reads' HO_305001.out).1; omega))
         (first | cases eo29 | (injection eo29 with ea_ en_ ec_; (first | subst ea_ | (injection ea_ with ea_; subst ea_)); subst ec_; clear en_))
         have GB29 := am gb29
         have GG29 := am HG29
         clear gb29 gl29 HG29
         obtain ⟨hx29_0, hf29_0⟩ := Kd.R_celln 0 HO_305001.out (x6_1 : Int) p29 q29
         replace p29 := eq_true p29
         replace q29 := eq_true q29
         have HN0_go29 := am (show g ≠ go29 from by have h_ := IsS63.own_ne HI0.out HO_305001.out (by decide); intro e_; exact h_ (by rw [e_]; rfl))
         have HP56 := Kd.R_putn HO_305001.out (x6_1 : Int) (wrap64 (t308 - 2))
         rw [← Ny310.out] at HP56
         have HQ56 := am HP56
         clear HP56
         refine hK.out _ _ ⟨(blk_cell BK304.out 0).trans rfl, (blk_cell BK304.out 1).trans rfl, (blk_cell BK304.out 2).trans rfl⟩ (fun hHeld => ?_)
         clear hK K
         refine norm_ (a' := ?_) ?_ ?_
         rotate_left
         ·show Act.put _ (some 39) _ = _
          simp only [Act.put, List.setIfInBounds_toArray, List.set_cons_zero, List.set_cons_succ, i64_w, i32_w]
          rfl
         refine pure_ (i := 7) (N := some 40) (v := ?_) (a' := ?_) #[true, true, true, true, true, true, true, true, false, false] rfl rfl (any_of HT_.out (by kernel_rfl)) (fun _ _ _ h => h) (Or.inl ⟨by rfl, ?_⟩) ?_ ?_
         rotate_left
         ·intro w'
          go_simp
          with_reducible rfl
         rotate_left
         ·simp only [Act.put, List.setIfInBounds_toArray, List.set_cons_zero, List.set_cons_succ, i64_w, i32_w]
          rfl
         refine pure_ (i := 8) (N := some 41) (v := ?_) (a' := ?_) #[true, true, true, true, true, true, true, true, true, false] rfl rfl (any_of HT_.out (by kernel_rfl)) (fun _ _ _ h => h) (Or.inl ⟨by rfl, ?_⟩) ?_ ?_
         rotate_left
         ·intro w'
          go_simp
          with_reducible rfl
         rotate_left
         ·simp only [Act.put, List.setIfInBounds_toArray, List.set_cons_zero, List.set_cons_succ, i64_w, i32_w]
          rfl
         refine last_ (i := 9) (N := none) #[true, true, true, true, true, true, true, true, true, true] rfl rfl (one_of HT_.out (by kernel_rfl)) (by decide) (fun K hK => ?_)
         refine skip_ (w1 := ?_) (by rfl) rfl ?_ ?_
         rotate_left
         ·go_simp
          rfl
         refine hK.out _ _ ?_
         clear hK K
         refine done_ (done_of HT_.out (by kernel_rfl)) ?_
         have n0_ : Aside0 (Kd.R (Kd.int .i64) 3 (w55.setCell ⟨go29, (x6_1 : Int).toNat, none⟩ (.int .i64 (wrap64 (t308 - 2)))) w.heap.size (fun k_ => some k_ ≠ (.slice (some ⟨go29, 0, none⟩) x305001_1.length co29 : Value).ownBlock ∧ some k_ ≠ (u305002 : Value).ownBlock) (.slice (some ⟨go26, 0, none⟩) x305000_1.length co26) y307) := ⟨rl (Kd.R_mono (Kd.R_far (p := ⟨go29, (x6_1 : Int).toNat, none⟩) (Kd.R_mono HO_305000.out (fun k_ hk => (⟨hk, fun e_ => hk.1 (by rw [e_]; rfl)⟩ : _ ∧ k_ ≠ go29))) (fun _ hk => hk.2) (.int .i64 (wrap64 (t308 - 2)))) (fun _ hk => by first | exact ⟨hk.1.1, hk.1.2⟩ | (simp only [ne_eq] at hk ⊢; simp only [hk, not_false_eq_true, and_self])))⟩
         have n1_ : Aside0 (Kd.R (Kd.int .i64) 3 (w55.setCell ⟨go29, (x6_1 : Int).toNat, none⟩ (.int .i64 (wrap64 (t308 - 2)))) w.heap.size (fun k_ => some k_ ≠ (.slice (some ⟨go26, 0, none⟩) x305000_1.length co26 : Value).ownBlock ∧ some k_ ≠ (u305002 : Value).ownBlock) (.slice (some ⟨go29, 0, none⟩) x305001_1.length co29) y310) := ⟨rl HQ56.out⟩
         have n2_ : Aside0 (Kd.R (Kd.int .i64) 3 (w55.setCell ⟨go29, (x6_1 : Int).toNat, none⟩ (.int .i64 (wrap64 (t308 - 2)))) w.heap.size (fun k_ => some k_ ≠ (.slice (some ⟨go26, 0, none⟩) x305000_1.length co26 : Value).ownBlock ∧ some k_ ≠ (.slice (some ⟨go29, 0, none⟩) x305001_1.length co29 : Value).ownBlock) u305002 x305002_1) := ⟨rl (Kd.R_mono (Kd.R_far (p := ⟨go29, (x6_1 : Int).toNat, none⟩) (Kd.R_mono HO_305002.out (fun k_ hk => (⟨hk, fun e_ => hk.2 (by rw [e_]; rfl)⟩ : _ ∧ k_ ≠ go29))) (fun _ hk => hk.2) (.int .i64 (wrap64 (t308 - 2)))) (fun _ hk => by first | exact ⟨hk.1.1, hk.1.2⟩ | (simp only [ne_eq] at hk ⊢; simp only [hk, not_false_eq_true, and_self])))⟩
         have n3_ : Aside0 ((w55.setCell ⟨go29, (x6_1 : Int).toNat, none⟩ (.int .i64 (wrap64 (t308 - 2)))).heap[gb283]? = some (.cells #[.slice none 0 0, .slice none 0 0, .slice none 0 0] 24 (0, 0))) := ⟨by (with_reducible repeat (first | refine blk_drewN ?_ _ | refine blk_drew ?_ | refine blk_alloc ?_ _)); refine blk_far ?_ (by have h_ := Kd.R_ne HO_305001.out BK283.out (by decide); intro e_; exact h_ (by rw [e_]; rfl)) _; (with_reducible repeat (first | refine blk_drewN ?_ _ | refine blk_drew ?_ | refine blk_alloc ?_ _)); exact BK283.out⟩
         have n4_ : Aside0 ((w55.setCell ⟨go29, (x6_1 : Int).toNat, none⟩ (.int .i64 (wrap64 (t308 - 2)))).heap[gb304]? = some (.cells #[.slice (some ⟨go26, 0, none⟩) x305000_1.length co26, .slice (some ⟨go29, 0, none⟩) x305001_1.length co29, u305002] 24 (0, 0))) := ⟨by (with_reducible repeat (first | refine blk_drewN ?_ _ | refine blk_drew ?_ | refine blk_alloc ?_ _)); refine blk_far ?_ (by have h_ := Kd.R_ne HO_305001.out BK304.out (by decide); intro e_; exact h_ (by rw [e_]; rfl)) _; (with_reducible repeat (first | refine blk_drewN ?_ _ | refine blk_drew ?_ | refine blk_alloc ?_ _)); exact BK304.out⟩
         have n5_ : Aside0 (IsS63 w0 (w55.setCell ⟨go29, (x6_1 : Int).toNat, none⟩ (.int .i64 (wrap64 (t308 - 2)))) g s0_0 t309) := ⟨by exact is63_3 HN0_go29.out NB0_283.out NB0_304.out HI0.out⟩
         have n6_ : Aside0 (KeepBut w (w55.setCell ⟨go29, (x6_1 : Int).toNat, none⟩ (.int .i64 (wrap64 (t308 - 2)))) g none) := ⟨by exact ks3 GB29.out GW283.out GW304.out HK.out⟩
         have n7_ : Aside0 (Below w0.heap.size w0 (w55.setCell ⟨go29, (x6_1 : Int).toNat, none⟩ (.int .i64 (wrap64 (t308 - 2))))) := ⟨by repeat (first | (with_reducible first | exact HB.out | apply below_alloc | apply pw_below_drewN | apply below_drew1 | refine below_set ?_ (Nat.le_trans HL.out GB29.out) | refine below_set ?_ (IsS63.ge HI0.out) | refine below_set ?_ GE283.out | refine below_set ?_ GE304.out) | exact HB.out)⟩
         (try clear HO_305000)
         (try clear HO_305001)
         (try clear HO_305002)
         (try clear BK283)
         (try clear BK304)
         (try clear HI0)
         (try clear HK)
         (try clear HB)
         generalize (w55.setCell ⟨go29, (x6_1 : Int).toNat, none⟩ (.int .i64 (wrap64 (t308 - 2)))) = w57 at n0_ n1_ n2_ n3_ n4_ n5_ n6_ n7_ ⊢
         have HO_305000 := n0_
         have HO_305001 := n1_
         have HO_305002 := n2_
         have BK283 := n3_
         have BK304 := n4_
         have HI0 := n5_
         have HK := n6_
         have HB := n7_
         clear n0_ n1_ n2_ n3_ n4_ n5_ n6_ n7_
         have hnb58 := NB304_283.out
         have hnc58 := NB283_304.out
         have hnb59 := NB304_0.out
         have hnc59 := NB0_304.out
         obtain ⟨hcz60_0, hcz60_1, hcz60_2, hfz60_0, hfz60_1, hfz60_2⟩ := cf3 BK304
         have p311 : 0 ≤ (x6_1 : Int) := of_decide_eq_true (by first | (with_reducible assumption) | assumption)
         have q311 : x6_1 < (y307.length : Int) := (by have h_ : (x6_1 : Int) < ((x305000_1.length : Int) : Int) := of_decide_eq_true (by first | (with_reducible assumption) | assumption); first | (have e_ := (Kd.R_reads' HO_305000.out).1; omega) | simpa only [Ny307.out, List.length_set] using h_)
         have ql311 : ((x6_1 : Int) < ((x305000_1.length : Int) : Int)) = True := eq_true (of_decide_eq_true (by first | (with_reducible assumption) | assumption))
         obtain ⟨ad311, e311, hx311_0⟩ := Kd.at_int (Kd.R_reads' HO_305000.out).2.2 x6_1 p311 q311
         obtain rfl : (⟨go26, 0, none⟩ : Addr) = ad311 := (by injection e311)
         (first | simp only [add_plain] at hx311_0 | simp only [add_at] at hx311_0 | simp only [Addr.add, Nat.zero_add] at hx311_0 | skip)
         replace p311 := eq_true p311
         replace q311 := eq_true q311
         have p31 : 0 ≤ (x6_1 : Int) := of_decide_eq_true (by first | (with_reducible assumption) | assumption)
         have q31 : (x6_1 : Int) < ((x305000_1.length : Int) : Int) := of_decide_eq_true (by first | (with_reducible assumption) | assumption)
         obtain ⟨hx31_0, hf31_0⟩ := Kd.R_celln 0 HO_305000.out (x6_1 : Int) p31 q31
         replace p31 := eq_true p31
         replace q31 := eq_true q31
         obtain ⟨hy61_, hz61_⟩ := Kd.R_celln 0 HO_305000.out (x6_1 : Int) (of_decide_eq_true (by first | (with_reducible assumption) | assumption)) (of_decide_eq_true (by first | (with_reducible assumption) | assumption))
         have HP61 := Kd.R_putg HO_305000.out (x6_1 : Int) (-1)
         try go_wp2_with (first | ((with_reducible refine gate_store (t := 3) (p := 52) rfl ?_); refine store_event (t := 3) (p := 52) (v := ?vo_w62) (w1 := (w57.setCell ⟨go26, (x6_1 : Int).toNat, none⟩ (.int .i64 (-1)))) ?hg ?ho ?hn ?hr ?_; (case ho => rfl); (case hg => rfl); (case hn => rfl); (case hr => first | (go_simp; done) | (go_simp; rfl)); intro w62 hw; have hg : w57.grownBy w62 (some go26) := (by rw [hw]; exact HP61.2); have hp_ : Kd.R (Kd.int .i64) 3 w62 w.heap.size (fun k_ => some k_ ≠ (.slice (some ⟨go29, 0, none⟩) x305001_1.length co29 : Value).ownBlock ∧ some k_ ≠ (u305002 : Value).ownBlock) (.slice (some ⟨go26, 0, none⟩) x305000_1.length co26) y312 := (by rw [hw, Ny312.out]; exact HP61.1); clear HP61; replace HO_305001 := am (Kd.R_after (v := (.slice (some ⟨go26, 0, none⟩) x305000_1.length co26)) (v1 := (.slice (some ⟨go26, 0, none⟩) x305000_1.length co26)) (ok := (fun k_ => some k_ ≠ (u305002 : Value).ownBlock)) (rl (Kd.R_mono HO_305001.out (fun _ hk => by first | exact ⟨hk.2, hk.1⟩ | (simp only [ne_eq] at hk ⊢; simp only [hk, not_false_eq_true, and_self])))) hg (.inl rfl)); replace HO_305002 := am (Kd.R_after (v := (.slice (some ⟨go26, 0, none⟩) x305000_1.length co26)) (v1 := (.slice (some ⟨go26, 0, none⟩) x305000_1.length co26)) (ok := (fun k_ => some k_ ≠ (.slice (some ⟨go29, 0, none⟩) x305001_1.length co29 : Value).ownBlock)) (rl (Kd.R_mono HO_305002.out (fun _ hk => by first | exact ⟨hk.2, hk.1⟩ | (simp only [ne_eq] at hk ⊢; simp only [hk, not_false_eq_true, and_self])))) hg (.inl rfl)); replace BK283 := am (blk_grown (g := gb283) (o := .cells #[.slice none 0 0, .slice none 0 0, .slice none 0 0] 24 (0, 0)) (kl BK283.out) hg (Kd.R_ne HO_305000.out BK283.out (by decide))); replace BK304 := am (blk_grown (g := gb304) (o := .cells #[.slice (some ⟨go26, 0, none⟩) x305000_1.length co26, .slice (some ⟨go29, 0, none⟩) x305001_1.length co29, u305002] 24 (0, 0)) (kl BK304.out) hg (Kd.R_ne HO_305000.out BK304.out (by decide))); replace HI0 := am (IsS63.grown (is63_2 NB0_283.out NB0_304.out HI0.out) hg (IsS63.own_ne HI0.out HO_305000.out (by decide))); replace HB := am ((by rw [hw]; exact below_set (HB.out) (Nat.le_trans HL.out GB26.out) : Below w0.heap.size w0 w62)); replace HK := am (KeepBut.trans (ks2 GW283.out GW304.out HK.out) (KeepBut.of_grown hg g) (Kd.R_base2 HO_305000.out)); replace HO_305000 := am (hp_); clear hg hw hp_; obtain ⟨hcz63_0, hcz63_1, hcz63_2, hfz63_0, hfz63_1, hfz63_2⟩ := cf3 BK304; have p313 : 0 ≤ (x6_1 : Int) := of_decide_eq_true (by first | (with_reducible assumption) | assumption); have q313 : x6_1 < (y310.length : Int) := (by have h_ : (x6_1 : Int) < ((x305001_1.length : Int) : Int) := of_decide_eq_true (by first | (with_reducible assumption) | assumption); first | (have e_ := (Kd.R_reads' HO_305001.out).1; omega) | simpa only [Ny310.out, List.length_set] using h_); have ql313 : ((x6_1 : Int) < ((x305001_1.length : Int) : Int)) = True := eq_true (of_decide_eq_true (by first | (with_reducible assumption) | assumption)); obtain ⟨ad313, e313, hx313_0⟩ := Kd.at_int (Kd.R_reads' HO_305001.out).2.2 x6_1 p313 q313; obtain rfl : (⟨go29, 0, none⟩ : Addr) = ad313 := (by injection e313); (first | simp only [add_plain] at hx313_0 | simp only [add_at] at hx313_0 | simp only [Addr.add, Nat.zero_add] at hx313_0 | skip); replace p313 := eq_true p313; replace q313 := eq_true q313))
         go_roundg k1
         case measure => have := HK1.out; omega
         case rel => exact ⟨(wrap64 (x6_1 + 1)), (t309), (y312), (y310), (x305002_1), (.slice (some ⟨go26, 0, none⟩) x305000_1.length co26), (.slice (some ⟨go29, 0, none⟩) x305001_1.length co29), (u305002), (by first | rfl | (simp; done) | (simp [*]; done)), H', ⟨by have := HK1.out; omega⟩, ⟨rl HO_305000.out⟩, ⟨rl (Kd.R_mono HO_305001.out (fun _ hk => by first | exact ⟨hk.2, hk.1⟩ | (simp only [ne_eq] at hk ⊢; simp only [hk, not_false_eq_true, and_self])))⟩, ⟨rl (Kd.R_mono HO_305002.out (fun _ hk => by first | exact ⟨hk.2, hk.1⟩ | (simp only [ne_eq] at hk ⊢; simp only [hk, not_false_eq_true, and_self])))⟩, ⟨kl BK283.out⟩, ⟨kl BK304.out⟩, ⟨by exact is63_2 NB0_283.out NB0_304.out HI0.out⟩, ⟨by exact ks2 GW283.out GW304.out HK.out⟩, ⟨by exact bs3 (IsS63.ge HI0.out) GE283.out GE304.out HB.out⟩⟩
       ·rw [if_neg c30] at H
        have c30b0 : decide (t287 ≤ (rd y307 x6_1)) = false := decide_eq_false c30
        clear c30
        by_cases c65 : (wrap64 (t308 - 2)) < (-1)
        ·rw [if_pos c65] at H
         have c65b0 : decide ((wrap64 (t308 - 2)) < (-1)) = true := decide_eq_true c65
         clear c65
         obtain ⟨y316, hy316⟩ : ∃ y_ : List Int, y_ = (y310.set (x6_1 : Int).toNat (-1)) := ⟨_, rfl⟩
         replace H : (spec_l1Draw.l0 k1 t287 (wrap64 (x6_1 + 1)) s0_0 t309 y307 y316 x305002_1) = some (r1, r2, r3, r4) := by first | (rw [hy316]; with_reducible exact H) | (have H2_ := (Option.bind_some _ _).symm.trans H; rw [hy316]; with_reducible exact H2_) | (have H2_ := (Option.bind_some _ _).symm.trans H; with_reducible exact H2_) | with_reducible exact H | (rw [hy316]; exact H) | exact H
         have Ny316 := am hy316
         clear hy316
         have H' := am H
         clear H
         try go_wp2
         replace HO_305000 := am (Kd.R_drew HO_305000.out)
         replace HO_305001 := am (Kd.R_drew HO_305001.out)
         replace HO_305002 := am (Kd.R_drew HO_305002.out)
         replace BK283 := am (blk_drew BK283.out)
         replace BK304 := am (blk_drew BK304.out)
         replace HI0 := am (IsS63.drew HI0.out)
         replace HK := am (keep_drew HK.out)
         replace HB := am (below_drew1 HB.out)
         refine start_ (n := 10) (S := fun w' => w'.cell? ⟨gb304, 0, none⟩ = some (u305000) ∧ w'.cell? ⟨gb304, 1, none⟩ = some (u305001) ∧ w'.cell? ⟨gb304, 2, none⟩ = some (u305002)) (ds := [9]) #[false, false, false, false, false, false, false, false, false, false] (by kernel_rfl) rfl rfl ⟨(blk_cell BK304.out 0).trans rfl, (blk_cell BK304.out 1).trans rfl, (blk_cell BK304.out 2).trans rfl⟩ (fun hHeld => ?_); refine with_tabW spec_l1Draw.tab6 spec_l1Draw.bits6 (fun HT_ HW_ => ?_)
         generalize wr.drew = w67 at HO_305000 HO_305001 HO_305002 BK283 BK304 HI0 HK HB hHeld ⊢
         refine pure_ (i := 0) (N := some 24) (v := ?_) (a' := ?_) #[true, false, false, false, false, false, false, false, false, false] rfl rfl (any_of HT_.out (by kernel_rfl)) (fun _ _ _ h => h) (Or.inl ⟨by rfl, ?_⟩) ?_ ?_
         rotate_left
         ·intro w'
          go_simp
          with_reducible rfl
         rotate_left
         ·simp only [Act.put, List.setIfInBounds_toArray, List.set_cons_zero, List.set_cons_succ, i64_w, i32_w]
          rfl
         refine pure_ (i := 2) (N := some 26) (v := ?_) (a' := ?_) #[true, false, true, false, false, false, false, false, false, false] rfl rfl (any_of HT_.out (by kernel_rfl)) (fun _ _ _ h => h) (Or.inl ⟨by rfl, ?_⟩) ?_ ?_
         rotate_left
         ·intro w'
          go_simp
          with_reducible rfl
         rotate_left
         ·simp only [Act.put, List.setIfInBounds_toArray, List.set_cons_zero, List.set_cons_succ, i64_w, i32_w]
          rfl
         refine pure_ (i := 3) (N := some 27) (v := ?_) (a' := ?_) #[true, false, true, true, false, false, false, false, false, false] rfl rfl (any_of HT_.out (by kernel_rfl)) (fun _ _ _ h => h) (Or.inl ⟨by rfl, ?_⟩) ?_ ?_
         rotate_left
         ·intro w'
          go_simp
          with_reducible rfl
         rotate_left
         ·simp only [Act.put, List.setIfInBounds_toArray, List.set_cons_zero, List.set_cons_succ, i64_w, i32_w]
          rfl
         refine pure_ (i := 4) (N := some 28) (v := ?_) (a' := ?_) #[true, false, true, true, true, false, false, false, false, false] rfl rfl (any_of HT_.out (by kernel_rfl)) (fun _ _ _ h => h) (Or.inl ⟨by rfl, ?_⟩) ?_ ?_
         rotate_left
         ·intro w'
          go_simp
          with_reducible rfl
         rotate_left
         ·simp only [Act.put, List.setIfInBounds_toArray, List.set_cons_zero, List.set_cons_succ, i64_w, i32_w]
          rfl
         refine pure_ (i := 5) (N := some 29) (v := ?_) (a' := ?_) #[true, false, true, true, true, true, false, false, false, false] rfl rfl (any_of HT_.out (by kernel_rfl)) (fun _ _ _ h => h) (Or.inl ⟨by rfl, ?_⟩) ?_ ?_
         rotate_left
         ·intro w'
          go_simp
          with_reducible rfl
         rotate_left
         ·simp only [Act.put, List.setIfInBounds_toArray, List.set_cons_zero, List.set_cons_succ, i64_w, i32_w]
          rfl
         refine take_ (i := 1) (N := some 25) (v := ?_) (a' := ?_) #[true, true, true, true, true, true, false, false, false, false] rfl rfl (take_ofW HT_.out HW_.out (by kernel_rfl)) (fun _ _ _ h => h) (Or.inl ⟨by rfl, ?_⟩) hHeld ?_ ?_
         rotate_left
         ·rintro w' ⟨s0, s1, s2⟩
          go_simp
          with_reducible rfl
         rotate_left
         ·simp only [Act.put, List.setIfInBounds_toArray, List.set_cons_zero, List.set_cons_succ, i64_w, i32_w]
          rfl
         refine one_ (i := 6) (N := some 30) #[true, true, true, true, true, true, true, false, false, false] rfl rfl (one_of HT_.out (by kernel_rfl)) (by decide) (fun K hK => ?_)
         refine goes_ Tryd.func34 (by kernel_rfl) rfl #[.pointer (some ⟨g, 0, none⟩), .int .i64 (wrap64 (t287 + 2))] (by rfl) rfl rfl (by (try simp only [List.map_toArray, List.map_cons, List.map_nil]); first | done | rfl | (simp only [List.length_drop, List.length_take]; rfl)) ?_
         with_reducible refine (spec_l13Rd_pick.calls k1 g s0_0 x1001_1 (wrap64 (t287 + 2)) t305 t306 w0 _ ?side1 ?side2 A23.out).mono ?_
         (case side1 => exact is63_2 NB0_283.out NB0_304.out HI0.out)
         (case side2 => exact bs3 (IsS63.ge HI0.out) GE283.out GE304.out HB.out)
         rintro e w68 ⟨rfl, hi, hb, hk⟩
         refine ⟨_, rfl, ?_⟩
         replace HO_305000 := am (Kd.R_mono (Kd.R_keep (IsS63.apart (show IsS63 w0 _ g s0_0 x1001_1 from by exact is63_2 NB0_283.out NB0_304.out HI0.out) (rl HO_305000.out) (by decide)) hk (fun _ h => h.2)) (fun _ h => h.1))
         replace HO_305001 := am (Kd.R_mono (Kd.R_keep (IsS63.apart (show IsS63 w0 _ g s0_0 x1001_1 from by exact is63_2 NB0_283.out NB0_304.out HI0.out) (rl HO_305001.out) (by decide)) hk (fun _ h => h.2)) (fun _ h => h.1))
         replace HO_305002 := am (Kd.R_mono (Kd.R_keep (IsS63.apart (show IsS63 w0 _ g s0_0 x1001_1 from by exact is63_2 NB0_283.out NB0_304.out HI0.out) (rl HO_305002.out) (by decide)) hk (fun _ h => h.2)) (fun _ h => h.1))
         replace BK283 := kb hk BK283 NB283_0
         replace BK304 := kb hk BK304 NB304_0
         replace HK := am (KeepBut.trans (ks2 GW283.out GW304.out HK.out) hk (.inl rfl))
         replace HB := am (hb)
         replace HI0 := am (hi)
         (try clear hb hk hi)
         have p26 : 0 ≤ (x6_1 : Int) := of_decide_eq_true (by first | (with_reducible assumption) | assumption)
         have q26 : (x6_1 : Int) < ((x305000_1.length : Int) : Int) := of_decide_eq_true (by first | (with_reducible assumption) | assumption)
         obtain ⟨go26, co26, eo26, gb26, gl26, cl26, HG26⟩ := Kd.R_form HO_305000.out (by first | omega | (have hz_ := (Kd.R_reads' HO_305000.out).1; omega))
         (first | cases eo26 | (injection eo26 with ea_ en_ ec_; (first | subst ea_ | (injection ea_ with ea_; subst ea_)); subst ec_; clear en_))
         have GB26 := am gb26
         have GG26 := am HG26
         clear gb26 gl26 HG26
         obtain ⟨hx26_0, hf26_0⟩ := Kd.R_celln 0 HO_305000.out (x6_1 : Int) p26 q26
         replace p26 := eq_true p26
         replace q26 := eq_true q26
         have HN0_go26 := am (show g ≠ go26 from by have h_ := IsS63.own_ne HI0.out HO_305000.out (by decide); intro e_; exact h_ (by rw [e_]; rfl))
         have HP69 := Kd.R_putn HO_305000.out (x6_1 : Int) (wrap64 (t305 - 1))
         rw [← Ny307.out] at HP69
         have HQ69 := am HP69
         clear HP69
         refine hK.out _ _ ⟨(blk_cell BK304.out 0).trans rfl, (blk_cell BK304.out 1).trans rfl, (blk_cell BK304.out 2).trans rfl⟩ (fun hHeld => ?_)
         clear hK K
         refine norm_ (a' := ?_) ?_ ?_
         rotate_left
         ·show Act.put _ (some 30) _ = _
          simp only [Act.put, List.setIfInBounds_toArray, List.set_cons_zero, List.set_cons_succ, i64_w, i32_w]
          rfl
         refine pure_ (i := 7) (N := some 31) (v := ?_) (a' := ?_) #[true, true, true, true, true, true, true, true, false, false] rfl rfl (any_of HT_.out (by kernel_rfl)) (fun _ _ _ h => h) (Or.inl ⟨by rfl, ?_⟩) ?_ ?_
         rotate_left
         ·intro w'
          go_simp
          with_reducible rfl
         rotate_left
         ·simp only [Act.put, List.setIfInBounds_toArray, List.set_cons_zero, List.set_cons_succ, i64_w, i32_w]
          rfl
         refine pure_ (i := 8) (N := some 32) (v := ?_) (a' := ?_) #[true, true, true, true, true, true, true, true, true, false] rfl rfl (any_of HT_.out (by kernel_rfl)) (fun _ _ _ h => h) (Or.inl ⟨by rfl, ?_⟩) ?_ ?_
         rotate_left
         ·intro w'
          go_simp
          with_reducible rfl
         rotate_left
         ·simp only [Act.put, List.setIfInBounds_toArray, List.set_cons_zero, List.set_cons_succ, i64_w, i32_w]
          rfl
         refine last_ (i := 9) (N := none) #[true, true, true, true, true, true, true, true, true, true] rfl rfl (one_of HT_.out (by kernel_rfl)) (by decide) (fun K hK => ?_)
         refine skip_ (w1 := ?_) (by rfl) rfl ?_ ?_
         rotate_left
         ·go_simp
          rfl
         refine hK.out _ _ ?_
         clear hK K
         refine done_ (done_of HT_.out (by kernel_rfl)) ?_
         try go_wp2
         have n0_ : Aside0 (Kd.R (Kd.int .i64) 3 (w68.setCell ⟨go26, (x6_1 : Int).toNat, none⟩ (.int .i64 (wrap64 (t305 - 1)))) w.heap.size (fun k_ => some k_ ≠ (u305001 : Value).ownBlock ∧ some k_ ≠ (u305002 : Value).ownBlock) (.slice (some ⟨go26, 0, none⟩) x305000_1.length co26) y307) := ⟨rl HQ69.out⟩
         have n1_ : Aside0 (Kd.R (Kd.int .i64) 3 (w68.setCell ⟨go26, (x6_1 : Int).toNat, none⟩ (.int .i64 (wrap64 (t305 - 1)))) w.heap.size (fun k_ => some k_ ≠ (.slice (some ⟨go26, 0, none⟩) x305000_1.length co26 : Value).ownBlock ∧ some k_ ≠ (u305002 : Value).ownBlock) u305001 x305001_1) := ⟨rl (Kd.R_mono (Kd.R_far (p := ⟨go26, (x6_1 : Int).toNat, none⟩) (Kd.R_mono HO_305001.out (fun k_ hk => (⟨hk, fun e_ => hk.1 (by rw [e_]; rfl)⟩ : _ ∧ k_ ≠ go26))) (fun _ hk => hk.2) (.int .i64 (wrap64 (t305 - 1)))) (fun _ hk => by first | exact ⟨hk.1.1, hk.1.2⟩ | (simp only [ne_eq] at hk ⊢; simp only [hk, not_false_eq_true, and_self])))⟩
         have n2_ : Aside0 (Kd.R (Kd.int .i64) 3 (w68.setCell ⟨go26, (x6_1 : Int).toNat, none⟩ (.int .i64 (wrap64 (t305 - 1)))) w.heap.size (fun k_ => some k_ ≠ (.slice (some ⟨go26, 0, none⟩) x305000_1.length co26 : Value).ownBlock ∧ some k_ ≠ (u305001 : Value).ownBlock) u305002 x305002_1) := ⟨rl (Kd.R_mono (Kd.R_far (p := ⟨go26, (x6_1 : Int).toNat, none⟩) (Kd.R_mono HO_305002.out (fun k_ hk => (⟨hk, fun e_ => hk.1 (by rw [e_]; rfl)⟩ : _ ∧ k_ ≠ go26))) (fun _ hk => hk.2) (.int .i64 (wrap64 (t305 - 1)))) (fun _ hk => by first | exact ⟨hk.1.1, hk.1.2⟩ | (simp only [ne_eq] at hk ⊢; simp only [hk, not_false_eq_true, and_self])))⟩
         have n3_ : Aside0 ((w68.setCell ⟨go26, (x6_1 : Int).toNat, none⟩ (.int .i64 (wrap64 (t305 - 1)))).heap[gb283]? = some (.cells #[.slice none 0 0, .slice none 0 0, .slice none 0 0] 24 (0, 0))) := ⟨by (with_reducible repeat (first | refine blk_drewN ?_ _ | refine blk_drew ?_ | refine blk_alloc ?_ _)); refine blk_far ?_ (by have h_ := Kd.R_ne HO_305000.out BK283.out (by decide); intro e_; exact h_ (by rw [e_]; rfl)) _; (with_reducible repeat (first | refine blk_drewN ?_ _ | refine blk_drew ?_ | refine blk_alloc ?_ _)); exact BK283.out⟩
         have n4_ : Aside0 ((w68.setCell ⟨go26, (x6_1 : Int).toNat, none⟩ (.int .i64 (wrap64 (t305 - 1)))).heap[gb304]? = some (.cells #[.slice (some ⟨go26, 0, none⟩) x305000_1.length co26, u305001, u305002] 24 (0, 0))) := ⟨by (with_reducible repeat (first | refine blk_drewN ?_ _ | refine blk_drew ?_ | refine blk_alloc ?_ _)); refine blk_far ?_ (by have h_ := Kd.R_ne HO_305000.out BK304.out (by decide); intro e_; exact h_ (by rw [e_]; rfl)) _; (with_reducible repeat (first | refine blk_drewN ?_ _ | refine blk_drew ?_ | refine blk_alloc ?_ _)); exact BK304.out⟩
         have n5_ : Aside0 (IsS63 w0 (w68.setCell ⟨go26, (x6_1 : Int).toNat, none⟩ (.int .i64 (wrap64 (t305 - 1)))) g s0_0 t306) := ⟨by exact is63_3 HN0_go26.out NB0_283.out NB0_304.out HI0.out⟩
         have n6_ : Aside0 (KeepBut w (w68.setCell ⟨go26, (x6_1 : Int).toNat, none⟩ (.int .i64 (wrap64 (t305 - 1)))) g none) := ⟨by exact ks3 GB26.out GW283.out GW304.out HK.out⟩
         have n7_ : Aside0 (Below w0.heap.size w0 (w68.setCell ⟨go26, (x6_1 : Int).toNat, none⟩ (.int .i64 (wrap64 (t305 - 1))))) := ⟨by repeat (first | (with_reducible first | exact HB.out | apply below_alloc | apply pw_below_drewN | apply below_drew1 | refine below_set ?_ (Nat.le_trans HL.out GB26.out) | refine below_set ?_ (IsS63.ge HI0.out) | refine below_set ?_ GE283.out | refine below_set ?_ GE304.out) | exact HB.out)⟩
         (try clear HO_305000)
         (try clear HO_305001)
         (try clear HO_305002)
         (try clear BK283)
         (try clear BK304)
         (try clear HI0)
         (try clear HK)
         (try clear HB)
         generalize (w68.setCell ⟨go26, (x6_1 : Int).toNat, none⟩ (.int .i64 (wrap64 (t305 - 1)))) = w70 at n0_ n1_ n2_ n3_ n4_ n5_ n6_ n7_ ⊢
         have HO_305000 := n0_
         have HO_305001 := n1_
         have HO_305002 := n2_
         have BK283 := n3_
         have BK304 := n4_
         have HI0 := n5_
         have HK := n6_
         have HB := n7_
         clear n0_ n1_ n2_ n3_ n4_ n5_ n6_ n7_
         replace HO_305000 := am (Kd.R_drew HO_305000.out)
         replace HO_305001 := am (Kd.R_drew HO_305001.out)
         replace HO_305002 := am (Kd.R_drew HO_305002.out)
         replace BK283 := am (blk_drew BK283.out)
         replace BK304 := am (blk_drew BK304.out)
         replace HI0 := am (IsS63.drew HI0.out)
         replace HK := am (keep_drew HK.out)
         replace HB := am (below_drew1 HB.out)
         refine start_ (n := 10) (S := fun w' => w'.cell? ⟨gb304, 0, none⟩ = some (.slice (some ⟨go26, 0, none⟩) x305000_1.length co26) ∧ w'.cell? ⟨gb304, 1, none⟩ = some (u305001) ∧ w'.cell? ⟨gb304, 2, none⟩ = some (u305002)) (ds := [9]) #[false, false, false, false, false, false, false, false, false, false] (by kernel_rfl) rfl rfl ⟨(blk_cell BK304.out 0).trans rfl, (blk_cell BK304.out 1).trans rfl, (blk_cell BK304.out 2).trans rfl⟩ (fun hHeld => ?_); refine with_tabW spec_l1Draw.tab7 spec_l1Draw.bits7 (fun HT_ HW_ => ?_)
         generalize w70.drew = w71 at HO_305000 HO_305001 HO_305002 BK283 BK304 HI0 HK HB HQ69 hHeld ⊢
         refine pure_ (i := 0) (N := some 33) (v := ?_) (a' := ?_) #[true, false, false, false, false, false, false, false, false, false] rfl rfl (any_of HT_.out (by kernel_rfl)) (fun _ _ _ h => h) (Or.inl ⟨by rfl, ?_⟩) ?_ ?_
         rotate_left
         ·intro w'
          go_simp
          with_reducible rfl
         rotate_left
         ·simp only [Act.put, List.setIfInBounds_toArray, List.set_cons_zero, List.set_cons_succ, i64_w, i32_w]
          rfl
         refine pure_ (i := 2) (N := some 35) (v := ?_) (a' := ?_) #[true, false, true, false, false, false, false, false, false, false] rfl rfl (any_of HT_.out (by kernel_rfl)) (fun _ _ _ h => h) (Or.inl ⟨by rfl, ?_⟩) ?_ ?_
         rotate_left
         ·intro w'
          go_simp
          with_reducible rfl
         rotate_left
         ·simp only [Act.put, List.setIfInBounds_toArray, List.set_cons_zero, List.set_cons_succ, i64_w, i32_w]
          rfl
         refine pure_ (i := 3) (N := some 36) (v := ?_) (a' := ?_) #[true, false, true, true, false, false, false, false, false, false] rfl rfl (any_of HT_.out (by kernel_rfl)) (fun _ _ _ h => h) (Or.inl ⟨by rfl, ?_⟩) ?_ ?_
         rotate_left
         ·intro w'
          go_simp
          with_reducible rfl
         rotate_left
         ·simp only [Act.put, List.setIfInBounds_toArray, List.set_cons_zero, List.set_cons_succ, i64_w, i32_w]
          rfl
         refine pure_ (i := 4) (N := some 37) (v := ?_) (a' := ?_) #[true, false, true, true, true, false, false, false, false, false] rfl rfl (any_of HT_.out (by kernel_rfl)) (fun _ _ _ h => h) (Or.inl ⟨by rfl, ?_⟩) ?_ ?_
         rotate_left
         ·intro w'
          go_simp
          with_reducible rfl
         rotate_left
         ·simp only [Act.put, List.setIfInBounds_toArray, List.set_cons_zero, List.set_cons_succ, i64_w, i32_w]
          rfl
         refine pure_ (i := 5) (N := some 38) (v := ?_) (a' := ?_) #[true, false, true, true, true, true, false, false, false, false] rfl rfl (any_of HT_.out (by kernel_rfl)) (fun _ _ _ h => h) (Or.inl ⟨by rfl, ?_⟩) ?_ ?_
         rotate_left
         ·intro w'
          go_simp
          with_reducible rfl
         rotate_left
         ·simp only [Act.put, List.setIfInBounds_toArray, List.set_cons_zero, List.set_cons_succ, i64_w, i32_w]
          rfl
         refine take_ (i := 1) (N := some 34) (v := ?_) (a' := ?_) #[true, true, true, true, true, true, false, false, false, false] rfl rfl (take_ofW HT_.out HW_.out (by kernel_rfl)) (fun _ _ _ h => h) (Or.inl ⟨by rfl, ?_⟩) hHeld ?_ ?_
         rotate_left
         ·rintro w' ⟨s0, s1, s2⟩
          go_simp
          with_reducible rfl
         rotate_left
         ·simp only [Act.put, List.setIfInBounds_toArray, List.set_cons_zero, List.set_cons_succ, i64_w, i32_w]
          rfl
         refine one_ (i := 6) (N := some 39) #[true, true, true, true, true, true, true, false, false, false] rfl rfl (one_of HT_.out (by kernel_rfl)) (by decide) (fun K hK => ?_)
         refine goes_ Tryd.func34 (by kernel_rfl) rfl #[.pointer (some ⟨g, 0, none⟩), .int .i64 (wrap64 (t287 + 2))] (by rfl) rfl rfl (by (try simp only [List.map_toArray, List.map_cons, List.map_nil]); first | done | rfl | (simp only [List.length_drop, List.length_take]; rfl)) ?_
         with_reducible refine (spec_l13Rd_pick.calls k1 g s0_0 t306 (wrap64 (t287 + 2)) t308 t309 w0 _ ?side1 ?side2 A27.out).mono ?_
         (case side1 => exact is63_2 NB0_283.out NB0_304.out HI0.out)
         (case side2 => exact bs3 (IsS63.ge HI0.out) GE283.out GE304.out HB.out)
         rintro e w72 ⟨rfl, hi, hb, hk⟩
         refine ⟨_, rfl, ?_⟩
         replace HO_305000 := am (Kd.R_mono (Kd.R_keep (IsS63.apart (show IsS63 w0 _ g s0_0 t306 from by exact is63_2 NB0_283.out NB0_304.out HI0.out) (rl HO_305000.out) (by decide)) hk (fun _ h => h.2)) (fun _ h => h.1))
         replace HO_305001 := am (Kd.R_mono (Kd.R_keep (IsS63.apart (show IsS63 w0 _ g s0_0 t306 from by exact is63_2 NB0_283.out NB0_304.out HI0.out) (rl HO_305001.out) (by decide)) hk (fun _ h => h.2)) (fun _ h => h.1))
         replace HO_305002 := am (Kd.R_mono (Kd.R_keep (IsS63.apart (show IsS63 w0 _ g s0_0 t306 from by exact is63_2 NB0_283.out NB0_304.out HI0.out) (rl HO_305002.out) (by decide)) hk (fun _ h => h.2)) (fun _ h => h.1))
         replace BK283 := kb hk BK283 NB283_0
         replace BK304 := kb hk BK304 NB304_0
         replace HK := am (KeepBut.trans (ks2 GW283.out GW304.out HK.out) hk (.inl rfl))
         replace HB := am (hb)
         replace HI0 := am (hi)
         (try clear hb hk hi)
         have p29 : 0 ≤ (x6_1 : Int) := of_decide_eq_true (by first | (with_reducible assumption) | assumption)
         have q29 : (x6_1 : Int) < ((x305001_1.length : Int) : Int) := of_decide_eq_true (by first | (with_reducible assumption) | assumption)
         obtain ⟨go29, co29, eo29, gb29, gl29, cl29, HG29⟩ := Kd.R_form HO_305001.out (by first | omega | (have hz_ := (Kd.R_reads' HO_305001.out).1; omega))
         (first | cases eo29 | (injection eo29 with ea_ en_ ec_; (first | subst ea_ | (injection ea_ with ea_; subst ea_)); subst ec_; clear en_))
         have GB29 := am gb29
         have GG29 := am HG29
         clear gb29 gl29 HG29
         obtain ⟨hx29_0, hf29_0⟩ := Kd.R_celln 0 HO_305001.out (x6_1 : Int) p29 q29
         replace p29 := eq_true p29
         replace q29 := eq_true q29
         have HN0_go29 := am (show g ≠ go29 from by have h_ := IsS63.own_ne HI0.out HO_305001.out (by decide); intro e_; exact h_ (by rw [e_]; rfl))
         have HP73 := Kd.R_putn HO_305001.out (x6_1 : Int) (wrap64 (t308 - 2))
         rw [← Ny310.out] at HP73
         have HQ73 := am HP73
         clear HP73
         refine hK.out _ _ ⟨(blk_cell BK304.out 0).trans rfl, (blk_cell BK304.out 1).trans rfl, (blk_cell BK304.out 2).trans rfl⟩ (fun hHeld => ?_)
         clear hK K
         refine norm_ (a' := ?_) ?_ ?_
         rotate_left
         ·show Act.put _ (some 39) _ = _
          simp only [Act.put, List.setIfInBounds_toArray, List.set_cons_zero, List.set_cons_succ, i64_w, i32_w]
          rfl
         refine pure_ (i := 7) (N := some 40) (v := ?_) (a' := ?_) #[true, true, true, true, true, true, true, true, false, false] rfl rfl (any_of HT_.out (by kernel_rfl)) (fun _ _ _ h => h) (Or.inl ⟨by rfl, ?_⟩) ?_ ?_
         rotate_left
         ·intro w'
          go_simp
          with_reducible rfl
         rotate_left
         ·simp only [Act.put, List.setIfInBounds_toArray, List.set_cons_zero, List.set_cons_succ, i64_w, i32_w]
          rfl
         refine pure_ (i := 8) (N := some 41) (v := ?_) (a' := ?_) #[true, true, true, true, true, true, true, true, true, false] rfl rfl (any_of HT_.out (by kernel_rfl)) (fun _ _ _ h => h) (Or.inl ⟨by rfl, ?_⟩) ?_ ?_
         rotate_left
         ·intro w'
          go_simp
          with_reducible rfl
         rotate_left
         ·simp only [Act.put, List.setIfInBounds_toArray, List.set_cons_zero, List.set_cons_succ, i64_w, i32_w]
          rfl
         refine last_ (i := 9) (N := none) #[true, true, true, true, true, true, true, true, true, true] rfl rfl (one_of HT_.out (by kernel_rfl)) (by decide) (fun K hK => ?_)
         refine skip_ (w1 := ?_) (by rfl) rfl ?_ ?_
         rotate_left
         ·go_simp
          rfl
         refine hK.out _ _ ?_
         clear hK K
         refine done_ (done_of HT_.out (by kernel_rfl)) ?_
         have n0_ : Aside0 (Kd.R (Kd.int .i64) 3 (w72.setCell ⟨go29, (x6_1 : Int).toNat, none⟩ (.int .i64 (wrap64 (t308 - 2)))) w.heap.size (fun k_ => some k_ ≠ (.slice (some ⟨go29, 0, none⟩) x305001_1.length co29 : Value).ownBlock ∧ some k_ ≠ (u305002 : Value).ownBlock) (.slice (some ⟨go26, 0, none⟩) x305000_1.length co26) y307) := ⟨rl (Kd.R_mono (Kd.R_far (p := ⟨go29, (x6_1 : Int).toNat, none⟩) (Kd.R_mono HO_305000.out (fun k_ hk => (⟨hk, fun e_ => hk.1 (by rw [e_]; rfl)⟩ : _ ∧ k_ ≠ go29))) (fun _ hk => hk.2) (.int .i64 (wrap64 (t308 - 2)))) (fun _ hk => by first | exact ⟨hk.1.1, hk.1.2⟩ | (simp only [ne_eq] at hk ⊢; simp only [hk, not_false_eq_true, and_self])))⟩
         have n1_ : Aside0 (Kd.R (Kd.int .i64) 3 (w72.setCell ⟨go29, (x6_1 : Int).toNat, none⟩ (.int .i64 (wrap64 (t308 - 2)))) w.heap.size (fun k_ => some k_ ≠ (.slice (some ⟨go26, 0, none⟩) x305000_1.length co26 : Value).ownBlock ∧ some k_ ≠ (u305002 : Value).ownBlock) (.slice (some ⟨go29, 0, none⟩) x305001_1.length co29) y310) := ⟨rl HQ73.out⟩
         have n2_ : Aside0 (Kd.R (Kd.int .i64) 3 (w72.setCell ⟨go29, (x6_1 : Int).toNat, none⟩ (.int .i64 (wrap64 (t308 - 2)))) w.heap.size (fun k_ => some k_ ≠ (.slice (some ⟨go26, 0, none⟩) x305000_1.length co26 : Value).ownBlock ∧ some k_ ≠ (.slice (some ⟨go29, 0, none⟩) x305001_1.length co29 : Value).ownBlock) u305002 x305002_1) := ⟨rl (Kd.R_mono (Kd.R_far (p := ⟨go29, (x6_1 : Int).toNat, none⟩) (Kd.R_mono HO_305002.out (fun k_ hk => (⟨hk, fun e_ => hk.2 (by rw [e_]; rfl)⟩ : _ ∧ k_ ≠ go29))) (fun _ hk => hk.2) (.int .i64 (wrap64 (t308 - 2)))) (fun _ hk => by first | exact ⟨hk.1.1, hk.1.2⟩ | (simp only [ne_eq] at hk ⊢; simp only [hk, not_false_eq_true, and_self])))⟩
         have n3_ : Aside0 ((w72.setCell ⟨go29, (x6_1 : Int).toNat, none⟩ (.int .i64 (wrap64 (t308 - 2)))).heap[gb283]? = some (.cells #[.slice none 0 0, .slice none 0 0, .slice none 0 0] 24 (0, 0))) := ⟨by (with_reducible repeat (first | refine blk_drewN ?_ _ | refine blk_drew ?_ | refine blk_alloc ?_ _)); refine blk_far ?_ (by have h_ := Kd.R_ne HO_305001.out BK283.out (by decide); intro e_; exact h_ (by rw [e_]; rfl)) _; (with_reducible repeat (first | refine blk_drewN ?_ _ | refine blk_drew ?_ | refine blk_alloc ?_ _)); exact BK283.out⟩
         have n4_ : Aside0 ((w72.setCell ⟨go29, (x6_1 : Int).toNat, none⟩ (.int .i64 (wrap64 (t308 - 2)))).heap[gb304]? = some (.cells #[.slice (some ⟨go26, 0, none⟩) x305000_1.length co26, .slice (some ⟨go29, 0, none⟩) x305001_1.length co29, u305002] 24 (0, 0))) := ⟨by (with_reducible repeat (first | refine blk_drewN ?_ _ | refine blk_drew ?_ | refine blk_alloc ?_ _)); refine blk_far ?_ (by have h_ := Kd.R_ne HO_305001.out BK304.out (by decide); intro e_; exact h_ (by rw [e_]; rfl)) _; (with_reducible repeat (first | refine blk_drewN ?_ _ | refine blk_drew ?_ | refine blk_alloc ?_ _)); exact BK304.out⟩
         have n5_ : Aside0 (IsS63 w0 (w72.setCell ⟨go29, (x6_1 : Int).toNat, none⟩ (.int .i64 (wrap64 (t308 - 2)))) g s0_0 t309) := ⟨by exact is63_3 HN0_go29.out NB0_283.out NB0_304.out HI0.out⟩
         have n6_ : Aside0 (KeepBut w (w72.setCell ⟨go29, (x6_1 : Int).toNat, none⟩ (.int .i64 (wrap64 (t308 - 2)))) g none) := ⟨by exact ks3 GB29.out GW283.out GW304.out HK.out⟩
         have n7_ : Aside0 (Below w0.heap.size w0 (w72.setCell ⟨go29, (x6_1 : Int).toNat, none⟩ (.int .i64 (wrap64 (t308 - 2))))) := ⟨by repeat (first | (with_reducible first | exact HB.out | apply below_alloc | apply pw_below_drewN | apply below_drew1 | refine below_set ?_ (Nat.le_trans HL.out GB29.out) | refine below_set ?_ (IsS63.ge HI0.out) | refine below_set ?_ GE283.out | refine below_set ?_ GE304.out) | exact HB.out)⟩
         (try clear HO_305000)
         (try clear HO_305001)
         (try clear HO_305002)
         (try clear BK283)
         (try clear BK304)
         (try clear HI0)
         (try clear HK)
         (try clear HB)
         generalize (w72.setCell ⟨go29, (x6_1 : Int).toNat, none⟩ (.int .i64 (wrap64 (t308 - 2)))) = w74 at n0_ n1_ n2_ n3_ n4_ n5_ n6_ n7_ ⊢
         have HO_305000 := n0_
         have HO_305001 := n1_
         have HO_305002 := n2_
         have BK283 := n3_
         have BK304 := n4_
         have HI0 := n5_
         have HK := n6_
         have HB := n7_
         clear n0_ n1_ n2_ n3_ n4_ n5_ n6_ n7_
         have hnb75 := NB304_283.out
         have hnc75 := NB283_304.out
         have hnb76 := NB304_0.out
         have hnc76 := NB0_304.out
         obtain ⟨hcz77_0, hcz77_1, hcz77_2, hfz77_0, hfz77_1, hfz77_2⟩ := cf3 BK304
         have p311 : 0 ≤ (x6_1 : Int) := of_decide_eq_true (by first | (with_reducible assumption) | assumption)
         have q311 : x6_1 < (y307.length : Int) := (by have h_ : (x6_1 : Int) < ((x305000_1.length : Int) : Int) := of_decide_eq_true (by first | (with_reducible assumption) | assumption); first | (have e_ := (Kd.R_reads' HO_305000.out).1; omega) | simpa only [Ny307.out, List.length_set] using h_)
         have ql311 : ((x6_1 : Int) < ((x305000_1.length : Int) : Int)) = True := eq_true (of_decide_eq_true (by first | (with_reducible assumption) | assumption))
         obtain ⟨ad311, e311, hx311_0⟩ := Kd.at_int (Kd.R_reads' HO_305000.out).2.2 x6_1 p311 q311
         obtain rfl : (⟨go26, 0, none⟩ : Addr) = ad311 := (by injection e311)
         (first | simp only [add_plain] at hx311_0 | simp only [add_at] at hx311_0 | simp only [Addr.add, Nat.zero_add] at hx311_0 | skip)
         replace p311 := eq_true p311
         replace q311 := eq_true q311
         have p64 : 0 ≤ (x6_1 : Int) := of_decide_eq_true (by first | (with_reducible assumption) | assumption)
         have q64 : (x6_1 : Int) < ((x305001_1.length : Int) : Int) := of_decide_eq_true (by first | (with_reducible assumption) | assumption)
         replace p64 := eq_true p64
         replace q64 := eq_true q64
         have p66 : 0 ≤ (x6_1 : Int) := of_decide_eq_true (by first | (with_reducible assumption) | assumption)
         have q66 : (x6_1 : Int) < ((x305001_1.length : Int) : Int) := of_decide_eq_true (by first | (with_reducible assumption) | assumption)
         replace p66 := eq_true p66
         replace q66 := eq_true q66
         obtain ⟨hy78_, hz78_⟩ := Kd.R_celln 0 HO_305001.out (x6_1 : Int) (of_decide_eq_true (by first | (with_reducible assumption) | assumption)) (of_decide_eq_true (by first | (with_reducible assumption) | assumption))
         replace hy78_ := hy78_.trans (congrArg (fun z_ => some (Value.int .i64 z_)) (show rdOf 0 y310 x6_1 = (wrap64 (t308 - 2)) from by rw [Ny310.out]; exact rd_set_eq x305001_1 x6_1 (wrap64 (t308 - 2)) (of_eq_true (by assumption)) (of_eq_true (by assumption))))
         have HP78 := Kd.R_putg HO_305001.out (x6_1 : Int) (-1)
         try go_wp2_with (first | ((with_reducible refine gate_store (t := 3) (p := 62) rfl ?_); refine store_event (t := 3) (p := 62) (v := ?vo_w79) (w1 := (w74.setCell ⟨go29, (x6_1 : Int).toNat, none⟩ (.int .i64 (-1)))) ?hg ?ho ?hn ?hr ?_; (case ho => rfl); (case hg => rfl); (case hn => rfl); (case hr => first | (go_simp; done) | (go_simp; rfl)); intro w79 hw; have hg : w74.grownBy w79 (some go29) := (by rw [hw]; exact HP78.2); have hp_ : Kd.R (Kd.int .i64) 3 w79 w.heap.size (fun k_ => some k_ ≠ (.slice (some ⟨go26, 0, none⟩) x305000_1.length co26 : Value).ownBlock ∧ some k_ ≠ (u305002 : Value).ownBlock) (.slice (some ⟨go29, 0, none⟩) x305001_1.length co29) y316 := (by rw [hw, Ny316.out]; exact HP78.1); clear HP78; replace HO_305000 := am (Kd.R_after (v := (.slice (some ⟨go29, 0, none⟩) x305001_1.length co29)) (v1 := (.slice (some ⟨go29, 0, none⟩) x305001_1.length co29)) (ok := (fun k_ => some k_ ≠ (u305002 : Value).ownBlock)) (rl (Kd.R_mono HO_305000.out (fun _ hk => by first | exact ⟨hk.2, hk.1⟩ | (simp only [ne_eq] at hk ⊢; simp only [hk, not_false_eq_true, and_self])))) hg (.inl rfl)); replace HO_305002 := am (Kd.R_after (v := (.slice (some ⟨go29, 0, none⟩) x305001_1.length co29)) (v1 := (.slice (some ⟨go29, 0, none⟩) x305001_1.length co29)) (ok := (fun k_ => some k_ ≠ (.slice (some ⟨go26, 0, none⟩) x305000_1.length co26 : Value).ownBlock)) (rl HO_305002.out) hg (.inl rfl)); replace BK283 := am (blk_grown (g := gb283) (o := .cells #[.slice none 0 0, .slice none 0 0, .slice none 0 0] 24 (0, 0)) (kl BK283.out) hg (Kd.R_ne HO_305001.out BK283.out (by decide))); replace BK304 := am (blk_grown (g := gb304) (o := .cells #[.slice (some ⟨go26, 0, none⟩) x305000_1.length co26, .slice (some ⟨go29, 0, none⟩) x305001_1.length co29, u305002] 24 (0, 0)) (kl BK304.out) hg (Kd.R_ne HO_305001.out BK304.out (by decide))); replace HI0 := am (IsS63.grown (is63_2 NB0_283.out NB0_304.out HI0.out) hg (IsS63.own_ne HI0.out HO_305001.out (by decide))); replace HB := am ((by rw [hw]; exact below_set (HB.out) (Nat.le_trans HL.out GB29.out) : Below w0.heap.size w0 w79)); replace HK := am (KeepBut.trans (ks2 GW283.out GW304.out HK.out) (KeepBut.of_grown hg g) (Kd.R_base2 HO_305001.out)); replace HO_305001 := am (hp_); clear hg hw hp_))
         go_roundg k1
         case measure => have := HK1.out; omega
         case rel => exact ⟨(wrap64 (x6_1 + 1)), (t309), (y307), (y316), (x305002_1), (.slice (some ⟨go26, 0, none⟩) x305000_1.length co26), (.slice (some ⟨go29, 0, none⟩) x305001_1.length co29), (u305002), (by first | rfl | (simp; done) | (simp [*]; done)), H', ⟨by have := HK1.out; omega⟩, ⟨rl (Kd.R_mono HO_305000.out (fun _ hk => by first | exact ⟨hk.2, hk.1⟩ | (simp only [ne_eq] at hk ⊢; simp only [hk, not_false_eq_true, and_self])))⟩, ⟨rl HO_305001.out⟩, ⟨rl HO_305002.out⟩, ⟨kl BK283.out⟩, ⟨kl BK304.out⟩, ⟨by exact is63_2 NB0_283.out NB0_304.out HI0.out⟩, ⟨by exact ks2 GW283.out GW304.out HK.out⟩, ⟨by exact bs3 (IsS63.ge HI0.out) GE283.out GE304.out HB.out⟩⟩
        ·rw [if_neg c65] at H
         have c65b0 : decide ((wrap64 (t308 - 2)) < (-1)) = false := decide_eq_false c65
         clear c65
         have H' := am H
         clear H
         try go_wp2
         replace HO_305000 := am (Kd.R_drew HO_305000.out)
         replace HO_305001 := am (Kd.R_drew HO_305001.out)
         replace HO_305002 := am (Kd.R_drew HO_305002.out)
         replace BK283 := am (blk_drew BK283.out)
         replace BK304 := am (blk_drew BK304.out)
         replace HI0 := am (IsS63.drew HI0.out)
         replace HK := am (keep_drew HK.out)
         replace HB := am (below_drew1 HB.out)
         refine start_ (n := 10) (S := fun w' => w'.cell? ⟨gb304, 0, none⟩ = some (u305000) ∧ w'.cell? ⟨gb304, 1, none⟩ = some (u305001) ∧ w'.cell? ⟨gb304, 2, none⟩ = some (u305002)) (ds := [9]) #[false, false, false, false, false, false, false, false, false, false] (by kernel_rfl) rfl rfl ⟨(blk_cell BK304.out 0).trans rfl, (blk_cell BK304.out 1).trans rfl, (blk_cell BK304.out 2).trans rfl⟩ (fun hHeld => ?_); refine with_tabW spec_l1Draw.tab6 spec_l1Draw.bits6 (fun HT_ HW_ => ?_)
         generalize wr.drew = w80 at HO_305000 HO_305001 HO_305002 BK283 BK304 HI0 HK HB hHeld ⊢
         refine pure_ (i := 0) (N := some 24) (v := ?_) (a' := ?_) #[true, false, false, false, false, false, false, false, false, false] rfl rfl (any_of HT_.out (by kernel_rfl)) (fun _ _ _ h => h) (Or.inl ⟨by rfl, ?_⟩) ?_ ?_
         rotate_left
         ·intro w'
          go_simp
          with_reducible rfl
         rotate_left
         ·simp only [Act.put, List.setIfInBounds_toArray, List.set_cons_zero, List.set_cons_succ, i64_w, i32_w]
          rfl
         refine pure_ (i := 2) (N := some 26) (v := ?_) (a' := ?_) #[true, false, true, false, false, false, false, false, false, false] rfl rfl (any_of HT_.out (by kernel_rfl)) (fun _ _ _ h => h) (Or.inl ⟨by rfl, ?_⟩) ?_ ?_
         rotate_left
         ·intro w'
          go_simp
          with_reducible rfl
         rotate_left
         ·simp only [Act.put, List.setIfInBounds_toArray, List.set_cons_zero, List.set_cons_succ, i64_w, i32_w]
          rfl
         refine pure_ (i := 3) (N := some 27) (v := ?_) (a' := ?_) #[true, false, true, true, false, false, false, false, false, false] rfl rfl (any_of HT_.out (by kernel_rfl)) (fun _ _ _ h => h) (Or.inl ⟨by rfl, ?_⟩) ?_ ?_
         rotate_left
         ·intro w'
          go_simp
          with_reducible rfl
         rotate_left
         ·simp only [Act.put, List.setIfInBounds_toArray, List.set_cons_zero, List.set_cons_succ, i64_w, i32_w]
          rfl
         refine pure_ (i := 4) (N := some 28) (v := ?_) (a' := ?_) #[true, false, true, true, true, false, false, false, false, false] rfl rfl (any_of HT_.out (by kernel_rfl)) (fun _ _ _ h => h) (Or.inl ⟨by rfl, ?_⟩) ?_ ?_
         rotate_left
         ·intro w'
          go_simp
          with_reducible rfl
         rotate_left
         ·simp only [Act.put, List.setIfInBounds_toArray, List.set_cons_zero, List.set_cons_succ, i64_w, i32_w]
          rfl
         refine pure_ (i := 5) (N := some 29) (v := ?_) (a' := ?_) #[true, false, true, true, true, true, false, false, false, false] rfl rfl (any_of HT_.out (by kernel_rfl)) (fun _ _ _ h => h) (Or.inl ⟨by rfl, ?_⟩) ?_ ?_
         rotate_left
         ·intro w'
          go_simp
          with_reducible rfl
         rotate_left
         ·simp only [Act.put, List.setIfInBounds_toArray, List.set_cons_zero, List.set_cons_succ, i64_w, i32_w]
          rfl
         refine take_ (i := 1) (N := some 25) (v := ?_) (a' := ?_) #[true, true, true, true, true, true, false, false, false, false] rfl rfl (take_ofW HT_.out HW_.out (by kernel_rfl)) (fun _ _ _ h => h) (Or.inl ⟨by rfl, ?_⟩) hHeld ?_ ?_
         rotate_left
         ·rintro w' ⟨s0, s1, s2⟩
          go_simp
          with_reducible rfl
         rotate_left
         ·simp only [Act.put, List.setIfInBounds_toArray, List.set_cons_zero, List.set_cons_succ, i64_w, i32_w]
          rfl
         refine one_ (i := 6) (N := some 30) #[true, true, true, true, true, true, true, false, false, false] rfl rfl (one_of HT_.out (by kernel_rfl)) (by decide) (fun K hK => ?_)
         refine goes_ Tryd.func34 (by kernel_rfl) rfl #[.pointer (some ⟨g, 0, none⟩), .int .i64 (wrap64 (t287 + 2))] (by rfl) rfl rfl (by (try simp only [List.map_toArray, List.map_cons, List.map_nil]); first | done | rfl | (simp only [List.length_drop, List.length_take]; rfl)) ?_
         with_reducible refine (spec_l13Rd_pick.calls k1 g s0_0 x1001_1 (wrap64 (t287 + 2)) t305 t306 w0 _ ?side1 ?side2 A23.out).mono ?_
         (case side1 => exact is63_2 NB0_283.out NB0_304.out HI0.out)
         (case side2 => exact bs3 (IsS63.ge HI0.out) GE283.out GE304.out HB.out)
         rintro e w81 ⟨rfl, hi, hb, hk⟩
         refine ⟨_, rfl, ?_⟩
         replace HO_305000 := am (Kd.R_mono (Kd.R_keep (IsS63.apart (show IsS63 w0 _ g s0_0 x1001_1 from by exact is63_2 NB0_283.out NB0_304.out HI0.out) (rl HO_305000.out) (by decide)) hk (fun _ h => h.2)) (fun _ h => h.1))
         replace HO_305001 := am (Kd.R_mono (Kd.R_keep (IsS63.apart (show IsS63 w0 _ g s0_0 x1001_1 from by exact is63_2 NB0_283.out NB0_304.out HI0.out) (rl HO_305001.out) (by decide)) hk (fun _ h => h.2)) (fun _ h => h.1))
         replace HO_305002 := am (Kd.R_mono (Kd.R_keep (IsS63.apart (show IsS63 w0 _ g s0_0 x1001_1 from by exact is63_2 NB0_283.out NB0_304.out HI0.out) (rl HO_305002.out) (by decide)) hk (fun _ h => h.2)) (fun _ h => h.1))
         replace BK283 := kb hk BK283 NB283_0
         replace BK304 := kb hk BK304 NB304_0
         replace HK := am (KeepBut.trans (ks2 GW283.out GW304.out HK.out) hk (.inl rfl))
         replace HB := am (hb)
         replace HI0 := am (hi)
         (try clear hb hk hi)
         have p26 : 0 ≤ (x6_1 : Int) := of_decide_eq_true (by first | (with_reducible assumption) | assumption)
         have q26 : (x6_1 : Int) < ((x305000_1.length : Int) : Int) := of_decide_eq_true (by first | (with_reducible assumption) | assumption)
         obtain ⟨go26, co26, eo26, gb26, gl26, cl26, HG26⟩ := Kd.R_form HO_305000.out (by first | omega | (have hz_ := (Kd.R_reads' HO_305000.out).1; omega))
         (first | cases eo26 | (injection eo26 with ea_ en_ ec_; (first | subst ea_ | (injection ea_ with ea_; subst ea_)); subst ec_; clear en_))
         have GB26 := am gb26
         have GG26 := am HG26
         clear gb26 gl26 HG26
         obtain ⟨hx26_0, hf26_0⟩ := Kd.R_celln 0 HO_305000.out (x6_1 : Int) p26 q26
         replace p26 := eq_true p26
         replace q26 := eq_true q26
         have HN0_go26 := am (show g ≠ go26 from by have h_ := IsS63.own_ne HI0.out HO_305000.out (by decide); intro e_; exact h_ (by rw [e_]; rfl))
         have HP82 := Kd.R_putn HO_305000.out (x6_1 : Int) (wrap64 (t305 - 1))
         rw [← Ny307.out] at HP82
         have HQ82 := am HP82
         clear HP82
         refine hK.out _ _ ⟨(blk_cell BK304.out 0).trans rfl, (blk_cell BK304.out 1).trans rfl, (blk_cell BK304.out 2).trans rfl⟩ (fun hHeld => ?_)
         clear hK K
         refine norm_ (a' := ?_) ?_ ?_
         rotate_left
         ·show Act.put _ (some 30) _ = _
          simp only [Act.put, List.setIfInBounds_toArray, List.set_cons_zero, List.set_cons_succ, i64_w, i32_w]
          rfl
         refine pure_ (i := 7) (N := some 31) (v := ?_) (a' := ?_) #[true, true, true, true, true, true, true, true, false, false] rfl rfl (any_of HT_.out (by kernel_rfl)) (fun _ _ _ h => h) (Or.inl ⟨by rfl, ?_⟩) ?_ ?_
         rotate_left
         ·intro w'
          go_simp
          with_reducible rfl
         rotate_left
         ·simp only [Act.put, List.setIfInBounds_toArray, List.set_cons_zero, List.set_cons_succ, i64_w, i32_w]
          rfl
         refine pure_ (i := 8) (N := some 32) (v := ?_) (a' := ?_) #[true, true, true, true, true, true, true, true, true, false] rfl rfl (any_of HT_.out (by kernel_rfl)) (fun _ _ _ h => h) (Or.inl ⟨by rfl, ?_⟩) ?_ ?_
         rotate_left
         ·intro w'
          go_simp
          with_reducible rfl
         rotate_left
         ·simp only [Act.put, List.setIfInBounds_toArray, List.set_cons_zero, List.set_cons_succ, i64_w, i32_w]
          rfl
         refine last_ (i := 9) (N := none) #[true, true, true, true, true, true, true, true, true, true] rfl rfl (one_of HT_.out (by kernel_rfl)) (by decide) (fun K hK => ?_)
         refine skip_ (w1 := ?_) (by rfl) rfl ?_ ?_
         rotate_left
         ·go_simp
          rfl
         refine hK.out _ _ ?_
         clear hK K
         refine done_ (done_of HT_.out (by kernel_rfl)) ?_
         try go_wp2
         have n0_ : Aside0 (Kd.R (Kd.int .i64) 3 (w81.setCell ⟨go26, (x6_1 : Int).toNat, none⟩ (.int .i64 (wrap64 (t305 - 1)))) w.heap.size (fun k_ => some k_ ≠ (u305001 : Value).ownBlock ∧ some k_ ≠ (u305002 : Value).ownBlock) (.slice (some ⟨go26, 0, none⟩) x305000_1.length co26) y307) := ⟨rl HQ82.out⟩
         have n1_ : Aside0 (Kd.R (Kd.int .i64) 3 (w81.setCell ⟨go26, (x6_1 : Int).toNat, none⟩ (.int .i64 (wrap64 (t305 - 1)))) w.heap.size (fun k_ => some k_ ≠ (.slice (some ⟨go26, 0, none⟩) x305000_1.length co26 : Value).ownBlock ∧ some k_ ≠ (u305002 : Value).ownBlock) u305001 x305001_1) := ⟨rl (Kd.R_mono (Kd.R_far (p := ⟨go26, (x6_1 : Int).toNat, none⟩) (Kd.R_mono HO_305001.out (fun k_ hk => (⟨hk, fun e_ => hk.1 (by rw [e_]; rfl)⟩ : _ ∧ k_ ≠ go26))) (fun _ hk => hk.2) (.int .i64 (wrap64 (t305 - 1)))) (fun _ hk => by first | exact ⟨hk.1.1, hk.1.2⟩ | (simp only [ne_eq] at hk ⊢; simp only [hk, not_false_eq_true, and_self])))⟩
         have n2_ : Aside0 (Kd.R (Kd.int .i64) 3 (w81.setCell ⟨go26, (x6_1 : Int).toNat, none⟩ (.int .i64 (wrap64 (t305 - 1)))) w.heap.size (fun k_ => some k_ ≠ (.slice (some ⟨go26, 0, none⟩) x305000_1.length co26 : Value).ownBlock ∧ some k_ ≠ (u305001 : Value).ownBlock) u305002 x305002_1) := ⟨rl (Kd.R_mono (Kd.R_far (p := ⟨go26, (x6_1 : Int).toNat, none⟩) (Kd.R_mono HO_305002.out (fun k_ hk => (⟨hk, fun e_ => hk.1 (by rw [e_]; rfl)⟩ : _ ∧ k_ ≠ go26))) (fun _ hk => hk.2) (.int .i64 (wrap64 (t305 - 1)))) (fun _ hk => by first | exact ⟨hk.1.1, hk.1.2⟩ | (simp only [ne_eq] at hk ⊢; simp only [hk, not_false_eq_true, and_self])))⟩
         have n3_ : Aside0 ((w81.setCell ⟨go26, (x6_1 : Int).toNat, none⟩ (.int .i64 (wrap64 (t305 - 1)))).heap[gb283]? = some (.cells #[.slice none 0 0, .slice none 0 0, .slice none 0 0] 24 (0, 0))) := ⟨by (with_reducible repeat (first | refine blk_drewN ?_ _ | refine blk_drew ?_ | refine blk_alloc ?_ _)); refine blk_far ?_ (by have h_ := Kd.R_ne HO_305000.out BK283.out (by decide); intro e_; exact h_ (by rw [e_]; rfl)) _; (with_reducible repeat (first | refine blk_drewN ?_ _ | refine blk_drew ?_ | refine blk_alloc ?_ _)); exact BK283.out⟩
         have n4_ : Aside0 ((w81.setCell ⟨go26, (x6_1 : Int).toNat, none⟩ (.int .i64 (wrap64 (t305 - 1)))).heap[gb304]? = some (.cells #[.slice (some ⟨go26, 0, none⟩) x305000_1.length co26, u305001, u305002] 24 (0, 0))) := ⟨by (with_reducible repeat (first | refine blk_drewN ?_ _ | refine blk_drew ?_ | refine blk_alloc ?_ _)); refine blk_far ?_ (by have h_ := Kd.R_ne HO_305000.out BK304.out (by decide); intro e_; exact h_ (by rw [e_]; rfl)) _; (with_reducible repeat (first | refine blk_drewN ?_ _ | refine blk_drew ?_ | refine blk_alloc ?_ _)); exact BK304.out⟩
         have n5_ : Aside0 (IsS63 w0 (w81.setCell ⟨go26, (x6_1 : Int).toNat, none⟩ (.int .i64 (wrap64 (t305 - 1)))) g s0_0 t306) := ⟨by exact is63_3 HN0_go26.out NB0_283.out NB0_304.out HI0.out⟩
         have n6_ : Aside0 (KeepBut w (w81.setCell ⟨go26, (x6_1 : Int).toNat, none⟩ (.int .i64 (wrap64 (t305 - 1)))) g none) := ⟨by exact ks3 GB26.out GW283.out GW304.out HK.out⟩
         have n7_ : Aside0 (Below w0.heap.size w0 (w81.setCell ⟨go26, (x6_1 : Int).toNat, none⟩ (.int .i64 (wrap64 (t305 - 1))))) := ⟨by repeat (first | (with_reducible first | exact HB.out | apply below_alloc | apply pw_below_drewN | apply below_drew1 | refine below_set ?_ (Nat.le_trans HL.out GB26.out) | refine below_set ?_ (IsS63.ge HI0.out) | refine below_set ?_ GE283.out | refine below_set ?_ GE304.out) | exact HB.out)⟩
         (try clear HO_305000)
         (try clear HO_305001)
         (try clear HO_305002)
         (try clear BK283)
         (try clear BK304)
         (try clear HI0)
         (try clear HK)
         (try clear HB)
         generalize (w81.setCell ⟨go26, (x6_1 : Int).toNat, none⟩ (.int .i64 (wrap64 (t305 - 1)))) = w83 at n0_ n1_ n2_ n3_ n4_ n5_ n6_ n7_ ⊢
         have HO_305000 := n0_
         have HO_305001 := n1_
         have HO_305002 := n2_
         have BK283 := n3_
         have BK304 := n4_
         have HI0 := n5_
         have HK := n6_
         have HB := n7_
         clear n0_ n1_ n2_ n3_ n4_ n5_ n6_ n7_
         replace HO_305000 := am (Kd.R_drew HO_305000.out)
         replace HO_305001 := am (Kd.R_drew HO_305001.out)
         replace HO_305002 := am (Kd.R_drew HO_305002.out)
         replace BK283 := am (blk_drew BK283.out)
         replace BK304 := am (blk_drew BK304.out)
         replace HI0 := am (IsS63.drew HI0.out)
         replace HK := am (keep_drew HK.out)
         replace HB := am (below_drew1 HB.out)
         refine start_ (n := 10) (S := fun w' => w'.cell? ⟨gb304, 0, none⟩ = some (.slice (some ⟨go26, 0, none⟩) x305000_1.length co26) ∧ w'.cell? ⟨gb304, 1, none⟩ = some (u305001) ∧ w'.cell? ⟨gb304, 2, none⟩ = some (u305002)) (ds := [9]) #[false, false, false, false, false, false, false, false, false, false] (by kernel_rfl) rfl rfl ⟨(blk_cell BK304.out 0).trans rfl, (blk_cell BK304.out 1).trans rfl, (blk_cell BK304.out 2).trans rfl⟩ (fun hHeld => ?_); refine with_tabW spec_l1Draw.tab7 spec_l1Draw.bits7 (fun HT_ HW_ => ?_)
         generalize w83.drew = w84 at HO_305000 HO_305001 HO_305002 BK283 BK304 HI0 HK HB HQ82 hHeld ⊢
         refine pure_ (i := 0) (N := some 33) (v := ?_) (a' := ?_) #[true, false, false, false, false, false, false, false, false, false] rfl rfl (any_of HT_.out (by kernel_rfl)) (fun _ _ _ h => h) (Or.inl ⟨by rfl, ?_⟩) ?_ ?_
         rotate_left
         ·intro w'
          go_simp
          with_reducible rfl
         rotate_left
         ·simp only [Act.put, List.setIfInBounds_toArray, List.set_cons_zero, List.set_cons_succ, i64_w, i32_w]
          rfl
         refine pure_ (i := 2) (N := some 35) (v := ?_) (a' := ?_) #[true, false, true, false, false, false, false, false, false, false] rfl rfl (any_of HT_.out (by kernel_rfl)) (fun _ _ _ h => h) (Or.inl ⟨by rfl, ?_⟩) ?_ ?_
         rotate_left
         ·intro w'
          go_simp
          with_reducible rfl
         rotate_left
         ·simp only [Act.put, List.setIfInBounds_toArray, List.set_cons_zero, List.set_cons_succ, i64_w, i32_w]
          rfl
         refine pure_ (i := 3) (N := some 36) (v := ?_) (a' := ?_) #[true, false, true, true, false, false, false, false, false, false] rfl rfl (any_of HT_.out (by kernel_rfl)) (fun _ _ _ h => h) (Or.inl ⟨by rfl, ?_⟩) ?_ ?_
         rotate_left
         ·intro w'
          go_simp
          with_reducible rfl
         rotate_left
         ·simp only [Act.put, List.setIfInBounds_toArray, List.set_cons_zero, List.set_cons_succ, i64_w, i32_w]
          rfl
         refine pure_ (i := 4) (N := some 37) (v := ?_) (a' := ?_) #[true, false, true, true, true, false, false, false, false, false] rfl rfl (any_of HT_.out (by kernel_rfl)) (fun _ _ _ h => h) (Or.inl ⟨by rfl, ?_⟩) ?_ ?_
         rotate_left
         ·intro w'
          go_simp
          with_reducible rfl
         rotate_left
         ·simp only [Act.put, List.setIfInBounds_toArray, List.set_cons_zero, List.set_cons_succ, i64_w, i32_w]
          rfl
         refine pure_ (i := 5) (N := some 38) (v := ?_) (a' := ?_) #[true, false, true, true, true, true, false, false, false, false] rfl rfl (any_of HT_.out (by kernel_rfl)) (fun _ _ _ h => h) (Or.inl ⟨by rfl, ?_⟩) ?_ ?_
         rotate_left
         ·intro w'
          go_simp
          with_reducible rfl
         rotate_left
         ·simp only [Act.put, List.setIfInBounds_toArray, List.set_cons_zero, List.set_cons_succ, i64_w, i32_w]
          rfl
         refine take_ (i := 1) (N := some 34) (v := ?_) (a' := ?_) #[true, true, true, true, true, true, false, false, false, false] rfl rfl (take_ofW HT_.out HW_.out (by kernel_rfl)) (fun _ _ _ h => h) (Or.inl ⟨by rfl, ?_⟩) hHeld ?_ ?_
         rotate_left
         ·rintro w' ⟨s0, s1, s2⟩
          go_simp
          with_reducible rfl
         rotate_left
         ·simp only [Act.put, List.setIfInBounds_toArray, List.set_cons_zero, List.set_cons_succ, i64_w, i32_w]
          rfl
         refine one_ (i := 6) (N := some 39) #[true, true, true, true, true, true, true, false, false, false] rfl rfl (one_of HT_.out (by kernel_rfl)) (by decide) (fun K hK => ?_)
         refine goes_ Tryd.func34 (by kernel_rfl) rfl #[.pointer (some ⟨g, 0, none⟩), .int .i64 (wrap64 (t287 + 2))] (by rfl) rfl rfl (by (try simp only [List.map_toArray, List.map_cons, List.map_nil]); first | done | rfl | (simp only [List.length_drop, List.length_take]; rfl)) ?_
         with_reducible refine (spec_l13Rd_pick.calls k1 g s0_0 t306 (wrap64 (t287 + 2)) t308 t309 w0 _ ?side1 ?side2 A27.out).mono ?_
         (case side1 => exact is63_2 NB0_283.out NB0_304.out HI0.out)
         (case side2 => exact bs3 (IsS63.ge HI0.out) GE283.out GE304.out HB.out)
         rintro e w85 ⟨rfl, hi, hb, hk⟩
         refine ⟨_, rfl, ?_⟩
         replace HO_305000 := am (Kd.R_mono (Kd.R_keep (IsS63.apart (show IsS63 w0 _ g s0_0 t306 from by exact is63_2 NB0_283.out NB0_304.out HI0.out) (rl HO_305000.out) (by decide)) hk (fun _ h => h.2)) (fun _ h => h.1))
         replace HO_305001 := am (Kd.R_mono (Kd.R_keep (IsS63.apart (show IsS63 w0 _ g s0_0 t306 from by exact is63_2 NB0_283.out NB0_304.out HI0.out) (rl HO_305001.out) (by decide)) hk (fun _ h => h.2)) (fun _ h => h.1))
         replace HO_305002 := am (Kd.R_mono (Kd.R_keep (IsS63.apart (show IsS63 w0 _ g s0_0 t306 from by exact is63_2 NB0_283.out NB0_304.out HI0.out) (rl HO_305002.out) (by decide)) hk (fun _ h => h.2)) (fun _ h => h.1))
         replace BK283 := kb hk BK283 NB283_0
         replace BK304 := kb hk BK304 NB304_0
         replace HK := am (KeepBut.trans (ks2 GW283.out GW304.out HK.out) hk (.inl rfl))
         replace HB := am (hb)
         replace HI0 := am (hi)
         (try clear hb hk hi)
         have p29 : 0 ≤ (x6_1 : Int) := of_decide_eq_true (by first | (with_reducible assumption) | assumption)
         have q29 : (x6_1 : Int) < ((x305001_1.length : Int) : Int) := of_decide_eq_true (by first | (with_reducible assumption) | assumption)
         obtain ⟨go29, co29, eo29, gb29, gl29, cl29, HG29⟩ := Kd.R_form HO_305001.out (by first | omega | (have hz_ := (Kd.R_reads' HO_305001.out).1; omega))
         (first | cases eo29 | (injection eo29 with ea_ en_ ec_; (first | subst ea_ | (injection ea_ with ea_; subst ea_)); subst ec_; clear en_))
         have GB29 := am gb29
         have GG29 := am HG29
         clear gb29 gl29 HG29
         obtain ⟨hx29_0, hf29_0⟩ := Kd.R_celln 0 HO_305001.out (x6_1 : Int) p29 q29
         replace p29 := eq_true p29
         replace q29 := eq_true q29
         have HN0_go29 := am (show g ≠ go29 from by have h_ := IsS63.own_ne HI0.out HO_305001.out (by decide); intro e_; exact h_ (by rw [e_]; rfl))
         have HP86 := Kd.R_putn HO_305001.out (x6_1 : Int) (wrap64 (t308 - 2))
         rw [← Ny310.out] at HP86
         have HQ86 := am HP86
         clear HP86
         refine hK.out _ _ ⟨(blk_cell BK304.out 0).trans rfl, (blk_cell BK304.out 1).trans rfl, (blk_cell BK304.out 2).trans rfl⟩ (fun hHeld => ?_)
         clear hK K
         refine norm_ (a' := ?_) ?_ ?_
         rotate_left
         ·show Act.put _ (some 39) _ = _
          simp only [Act.put, List.setIfInBounds_toArray, List.set_cons_zero, List.set_cons_succ, i64_w, i32_w]
          rfl
         refine pure_ (i := 7) (N := some 40) (v := ?_) (a' := ?_) #[true, true, true, true, true, true, true, true, false, false] rfl rfl (any_of HT_.out (by kernel_rfl)) (fun _ _ _ h => h) (Or.inl ⟨by rfl, ?_⟩) ?_ ?_
         rotate_left
         ·intro w'
          go_simp
          with_reducible rfl
         rotate_left
         ·simp only [Act.put, List.setIfInBounds_toArray, List.set_cons_zero, List.set_cons_succ, i64_w, i32_w]
          rfl
         refine pure_ (i := 8) (N := some 41) (v := ?_) (a' := ?_) #[true, true, true, true, true, true, true, true, true, false] rfl rfl (any_of HT_.out (by kernel_rfl)) (fun _ _ _ h => h) (Or.inl ⟨by rfl, ?_⟩) ?_ ?_
         rotate_left
         ·intro w'
          go_simp
          with_reducible rfl
         rotate_left
         ·simp only [Act.put, List.setIfInBounds_toArray, List.set_cons_zero, List.set_cons_succ, i64_w, i32_w]
          rfl
         refine last_ (i := 9) (N := none) #[true, true, true, true, true, true, true, true, true, true] rfl rfl (one_of HT_.out (by kernel_rfl)) (by decide) (fun K hK => ?_)
         refine skip_ (w1 := ?_) (by rfl) rfl ?_ ?_
         rotate_left
         ·go_simp
          rfl
         refine hK.out _ _ ?_
         clear hK K
         refine done_ (done_of HT_.out (by kernel_rfl)) ?_
         have hnb87 := NB304_283.out
         have hnc87 := NB283_304.out
         have hnb88 := NB304_0.out
         have hnc88 := NB0_304.out
         obtain ⟨hcz89_0, hcz89_1, hcz89_2, hfz89_0, hfz89_1, hfz89_2⟩ := cf3 BK304
         have p311 : 0 ≤ (x6_1 : Int) := of_decide_eq_true (by first | (with_reducible assumption) | assumption)
         have q311 : x6_1 < (y307.length : Int) := (by have h_ : (x6_1 : Int) < ((x305000_1.length : Int) : Int) := of_decide_eq_true (by first | (with_reducible assumption) | assumption); first | (have e_ := (Kd.R_reads' HO_305000.out).1; omega) | simpa only [Ny307.out, List.length_set] using h_)
         have ql311 : ((x6_1 : Int) < ((x305000_1.length : Int) : Int)) = True := eq_true (of_decide_eq_true (by first | (with_reducible assumption) | assumption))
         obtain ⟨ad311, e311, hx311_0⟩ := Kd.at_int (Kd.R_reads' HO_305000.out).2.2 x6_1 p311 q311
         obtain rfl : (⟨go26, 0, none⟩ : Addr) = ad311 := (by injection e311)
         (first | simp only [add_plain] at hx311_0 | simp only [add_at] at hx311_0 | simp only [Addr.add, Nat.zero_add] at hx311_0 | skip)
         have hn311_0 : (⟨go26, 0, none⟩ : Addr).block ≠ go29 := Kd.own_blk (by have z_ := HO_305001.out.1 _ rfl; first | exact z_ | exact z_.2 | exact z_.2.1 | exact z_.2.2 | exact z_.2.2.1 | exact z_.2.2.2 | exact z_.1 | exact z_.1.2 | exact z_.1.2.1 | exact z_.1.2.2 | exact z_.1.2.2.1 | exact z_.1.2.2.2 | exact z_.1.1 | exact z_.1.1.2 | exact z_.1.1.2.1 | exact z_.1.1.2.2 | exact z_.1.1.2.2.1 | exact z_.1.1.2.2.2 | exact z_.1.1.1 | exact z_.1.1.1.2 | exact z_.1.1.1.2.1 | exact z_.1.1.1.2.2 | exact z_.1.1.1.2.2.1 | exact z_.1.1.1.2.2.2 | exact z_.1.1.1.1 | exact z_.1.1.1.1.2 | exact z_.1.1.1.1.2.1 | exact z_.1.1.1.1.2.2 | exact z_.1.1.1.1.2.2.1 | exact z_.1.1.1.1.2.2.2 | exact z_.1.1.1.1.1 | exact z_.1.1.1.1.1.2 | exact z_.1.1.1.1.1.2.1 | exact z_.1.1.1.1.1.2.2 | exact z_.1.1.1.1.1.2.2.1 | exact z_.1.1.1.1.1.2.2.2 | exact z_.1.1.1.1.1.1 | exact z_.1.1.1.1.1.1.2 | exact z_.1.1.1.1.1.1.2.1 | exact z_.1.1.1.1.1.1.2.2 | exact z_.1.1.1.1.1.1.2.2.1 | exact z_.1.1.1.1.1.1.2.2.2 | exact z_.1.1.1.1.1.1.1 | exact z_.1.1.1.1.1.1.1.2 | exact z_.1.1.1.1.1.1.1.2.1 | exact z_.1.1.1.1.1.1.1.2.2 | exact z_.1.1.1.1.1.1.1.2.2.1 | exact z_.1.1.1.1.1.1.1.2.2.2)
         replace hx311_0 := (cell_far (p := ⟨go29, (x6_1 : Int).toNat, none⟩) (by first | (rw [add_block]; exact hn311_0) | (show (Addr.add _ _).block ≠ _; rw [add_block]; exact hn311_0) | exact hn311_0) (.int .i64 (wrap64 (t308 - 2)))).trans hx311_0
         clear hn311_0
         replace p311 := eq_true p311
         replace q311 := eq_true q311
         have p64 : 0 ≤ (x6_1 : Int) := of_decide_eq_true (by first | (with_reducible assumption) | assumption)
         have q64 : (x6_1 : Int) < ((x305001_1.length : Int) : Int) := of_decide_eq_true (by first | (with_reducible assumption) | assumption)
         replace p64 := eq_true p64
         replace q64 := eq_true q64
         have hgq_ := blk_far (p := ⟨go29, (x6_1 : Int).toNat, none⟩) BK304.out (fun e_ => Kd.R_ne HO_305001.out BK304.out (by decide) (by rw [e_]; rfl)) (.int .i64 (wrap64 (t308 - 2)))
         have hcq_0 : (w85.setCell ⟨go29, (x6_1 : Int).toNat, none⟩ (.int .i64 (wrap64 (t308 - 2)))).cell? ⟨gb304, 0, none⟩ = some (.slice (some ⟨go26, 0, none⟩) x305000_1.length co26) := (blk_cell hgq_ 0).trans rfl
         have hcq_1 : (w85.setCell ⟨go29, (x6_1 : Int).toNat, none⟩ (.int .i64 (wrap64 (t308 - 2)))).cell? ⟨gb304, 1, none⟩ = some (.slice (some ⟨go29, 0, none⟩) x305001_1.length co29) := (blk_cell hgq_ 1).trans rfl
         have hcq_2 : (w85.setCell ⟨go29, (x6_1 : Int).toNat, none⟩ (.int .i64 (wrap64 (t308 - 2)))).cell? ⟨gb304, 2, none⟩ = some (u305002) := (blk_cell hgq_ 2).trans rfl
         try go_wp2
         go_roundg k1
         case measure => have := HK1.out; omega
         case rel => exact ⟨(wrap64 (x6_1 + 1)), (t309), (y307), (y310), (x305002_1), (.slice (some ⟨go26, 0, none⟩) x305000_1.length co26), (.slice (some ⟨go29, 0, none⟩) x305001_1.length co29), (u305002), (by first | rfl | (simp; done) | (simp [*]; done)), H', ⟨by have := HK1.out; omega⟩, ⟨rl (Kd.R_mono (Kd.R_far (p := ⟨go29, (x6_1 : Int).toNat, none⟩) (Kd.R_mono HO_305000.out (fun k_ hk => (⟨hk, fun e_ => hk.1 (by rw [e_]; rfl)⟩ : _ ∧ k_ ≠ go29))) (fun _ hk => hk.2) (.int .i64 (wrap64 (t308 - 2)))) (fun _ hk => by first | exact ⟨hk.1.1, hk.1.2⟩ | (simp only [ne_eq] at hk ⊢; simp only [hk, not_false_eq_true, and_self])))⟩, ⟨rl HQ86.out⟩, ⟨rl (Kd.R_mono (Kd.R_far (p := ⟨go29, (x6_1 : Int).toNat, none⟩) (Kd.R_mono HO_305002.out (fun k_ hk => (⟨hk, fun e_ => hk.2 (by rw [e_]; rfl)⟩ : _ ∧ k_ ≠ go29))) (fun _ hk => hk.2) (.int .i64 (wrap64 (t308 - 2)))) (fun _ hk => by first | exact ⟨hk.1.1, hk.1.2⟩ | (simp only [ne_eq] at hk ⊢; simp only [hk, not_false_eq_true, and_self])))⟩, ⟨by (with_reducible repeat (first | refine blk_drewN ?_ _ | refine blk_drew ?_ | refine blk_alloc ?_ _)); refine blk_far ?_ (by have h_ := Kd.R_ne HO_305001.out BK283.out (by decide); intro e_; exact h_ (by rw [e_]; rfl)) _; (with_reducible repeat (first | refine blk_drewN ?_ _ | refine blk_drew ?_ | refine blk_alloc ?_ _)); exact BK283.out⟩, ⟨by (with_reducible repeat (first | refine blk_drewN ?_ _ | refine blk_drew ?_ | refine blk_alloc ?_ _)); refine blk_far ?_ (by have h_ := Kd.R_ne HO_305001.out BK304.out (by decide); intro e_; exact h_ (by rw [e_]; rfl)) _; (with_reducible repeat (first | refine blk_drewN ?_ _ | refine blk_drew ?_ | refine blk_alloc ?_ _)); exact BK304.out⟩, ⟨by exact is63_3 HN0_go29.out NB0_283.out NB0_304.out HI0.out⟩, ⟨by exact ks3 GB29.out GW283.out GW304.out HK.out⟩, ⟨by repeat (first | (with_reducible first | exact HB.out | apply below_alloc | apply pw_below_drewN | apply below_drew1 | refine below_set ?_ (Nat.le_trans HL.out GB29.out) | refine below_set ?_ (IsS63.ge HI0.out) | refine below_set ?_ GE283.out | refine below_set ?_ GE304.out) | exact HB.out)⟩⟩
      ·rw [if_neg c28] at H
       exact absurd H (by simp)
     ·rw [if_neg c25] at H
      exact absurd H (by simp)
    ·rw [if_neg c24] at H
     exact absurd H (by simp)
   ·rw [if_neg c22] at H
    have c22b0 : decide (x6_1 < t287) = false := decide_eq_false c22
    clear c22
    have H' := am H
    clear H
    go_wp2
    go_loopg [7] k1 (fun kq v7 w' => ∃ (x7_2 : Int) (x1001_2 : Int) (x305000_2 : List Int) (x305001_2 : List Int) (x305002_2 : List Int) (u305000 : Value) (u305001 : Value) (u305002 : Value), v7 = .int .i64 x7_2 ∧ Aside0 (spec_l1Draw.l1 kq t287 x7_2 s0_0 x1001_2 x305000_2 x305001_2 x305002_2 = some (r1, r2, r3, r4)) ∧ Aside0 (kq ≤ k1) ∧ Aside0 (Kd.R (Kd.int .i64) 3 w' w.heap.size (fun k_ => some k_ ≠ (u305001 : Value).ownBlock ∧ some k_ ≠ (u305002 : Value).ownBlock) u305000 x305000_2) ∧ Aside0 (Kd.R (Kd.int .i64) 3 w' w.heap.size (fun k_ => some k_ ≠ (u305000 : Value).ownBlock ∧ some k_ ≠ (u305002 : Value).ownBlock) u305001 x305001_2) ∧ Aside0 (Kd.R (Kd.int .i64) 3 w' w.heap.size (fun k_ => some k_ ≠ (u305000 : Value).ownBlock ∧ some k_ ≠ (u305001 : Value).ownBlock) u305002 x305002_2) ∧ Aside0 (w'.heap[gb283]? = some (.cells #[(.slice none 0 0), (.slice none 0 0), (.slice none 0 0)] 24 (0, 0))) ∧ Aside0 (w'.heap[gb304]? = some (.cells #[u305000, u305001, u305002] 24 (0, 0))) ∧ Aside0 (IsS63 w0 w' g s0_0 x1001_2) ∧ Aside0 (KeepBut w w' g none) ∧ Aside0 (Below w0.heap.size w0 w'))
    case atStart => exact ⟨(0), (x1001_1), (x305000_1), (x305001_1), (x305002_1), (u305000), (u305001), (u305002), (by first | rfl | (simp; done) | (simp [*]; done)), H', ⟨Nat.le_refl _⟩, ⟨rl HO_305000.out⟩, ⟨rl HO_305001.out⟩, ⟨rl HO_305002.out⟩, ⟨kl BK283.out⟩, ⟨kl BK304.out⟩, ⟨by exact is63_2 NB0_283.out NB0_304.out HI0.out⟩, ⟨by exact ks2 GW283.out GW304.out HK.out⟩, ⟨by exact bs3 (IsS63.ge HI0.out) GE283.out GE304.out HB.out⟩⟩
    case round =>
     clear H'
     try clear c2
     try clear p2
     try clear q2
     try clear hx2
     try clear hf2
     try clear c3
     try clear p3
     try clear q3
     try clear hx3
     try clear c6
     try clear p6
     try clear q6
     try clear c7
     try clear c8
     try clear c22
     try clear c22b0
     try clear c24
     try clear c25
     try clear p26
     try clear q26
     try clear hx26
     try clear hf26
     try clear c28
     try clear p29
     try clear q29
     try clear hx29
     try clear hf29
     try clear p31
     try clear q31
     try clear hx31
     try clear c34
     try clear p64
     try clear q64
     try clear c65
     try clear c65b0
     try clear p66
     try clear q66
     try clear c75
     try clear c76
     try clear c87
     try clear c88
     try clear hx26_0
     try clear hx29_0
     try clear hx311_0
     try clear p26
     try clear p29
     try clear p311
     try clear p64
     try clear p66
     try clear q26
     try clear q29
     try clear q311
     try clear q64
     try clear q66
     obtain ⟨x7_2, x1001_2, x305000_2, x305001_2, x305002_2, u305000, u305001, u305002, rfl, HA, HK2, HO_305000, HO_305001, HO_305002, BK283, BK304, HI0, HK, HB⟩ := hrel
     cases gk with
     | zero => exact absurd HA.out (by simp [spec_l1Draw.l1])
     | succ k2 =>
      have H := HA.out
      clear HA
      simp only [spec_l1Draw.l1] at H
      by_cases c90 : x7_2 < (x305002_2.length : Int)
      ·rw [if_pos c90] at H
       have c90b0 : decide (x7_2 < (x305002_2.length : Int)) = true := decide_eq_true c90
       clear c90
       replace H := Option.bind_eq_some_iff.mp H
       obtain ⟨⟨t317, t318⟩, A910, H⟩ := H
       replace H : (if 0 ≤ x7_2 then (spec_l1Draw.l1 k2 t287 (wrap64 (x7_2 + 1)) s0_0 t318 x305000_2 x305001_2 (x305002_2.set (x7_2 : Int).toNat (wrap64 (t317 - 1)))) else (none)) = some (r1, r2, r3, r4) := H
       have A91 := am A910
       clear A910
       by_cases c92 : 0 ≤ x7_2
       ·rw [if_pos c92] at H
        have c92b0 : decide (0 ≤ x7_2) = true := decide_eq_true c92
        clear c92
        obtain ⟨y319, hy319⟩ : ∃ y_ : List Int, y_ = (x305002_2.set (x7_2 : Int).toNat (wrap64 (t317 - 1))) := ⟨_, rfl⟩
        replace H : (spec_l1Draw.l1 k2 t287 (wrap64 (x7_2 + 1)) s0_0 t318 x305000_2 x305001_2 y319) = some (r1, r2, r3, r4) := by first | (rw [hy319]; with_reducible exact H) | (have H2_ := (Option.bind_some _ _).symm.trans H; rw [hy319]; with_reducible exact H2_) | (have H2_ := (Option.bind_some _ _).symm.trans H; with_reducible exact H2_) | with_reducible exact H | (rw [hy319]; exact H) | exact H
        have Ny319 := am hy319
        clear hy319
        have H' := am H
        clear H
        have hnb94 := NB304_283.out
        have hnc94 := NB283_304.out
        have hnb95 := NB304_0.out
        have hnc95 := NB0_304.out
        obtain ⟨hcz96_0, hcz96_1, hcz96_2, hfz96_0, hfz96_1, hfz96_2⟩ := cf3 BK304
        obtain ⟨Ao97, co97, eo97⟩ := Kd.R_slice HO_305002.out
        subst eo97
        try go_wp2
        replace HO_305000 := am (Kd.R_drew HO_305000.out)
        replace HO_305001 := am (Kd.R_drew HO_305001.out)
        replace HO_305002 := am (Kd.R_drew HO_305002.out)
        replace BK283 := am (blk_drew BK283.out)
        replace BK304 := am (blk_drew BK304.out)
        replace HI0 := am (IsS63.drew HI0.out)
        replace HK := am (keep_drew HK.out)
        replace HB := am (below_drew1 HB.out)
        refine start_ (n := 10) (S := fun w' => w'.cell? ⟨gb304, 0, none⟩ = some (u305000) ∧ w'.cell? ⟨gb304, 1, none⟩ = some (u305001) ∧ w'.cell? ⟨gb304, 2, none⟩ = some (.slice Ao97 x305002_2.length co97)) (ds := [9]) #[false, false, false, false, false, false, false, false, false, false] (by kernel_rfl) rfl rfl ⟨(blk_cell BK304.out 0).trans rfl, (blk_cell BK304.out 1).trans rfl, (blk_cell BK304.out 2).trans rfl⟩ (fun hHeld => ?_); refine with_tabW spec_l1Draw.tab15 spec_l1Draw.bits15 (fun HT_ HW_ => ?_)
        generalize wr.drew = w98 at HO_305000 HO_305001 HO_305002 BK283 BK304 HI0 HK HB hHeld ⊢
        refine pure_ (i := 0) (N := some 70) (v := ?_) (a' := ?_) #[true, false, false, false, false, false, false, false, false, false] rfl rfl (any_of HT_.out (by kernel_rfl)) (fun _ _ _ h => h) (Or.inl ⟨by rfl, ?_⟩) ?_ ?_
        rotate_left
        ·intro w'
         go_simp
         with_reducible rfl
        rotate_left
        ·simp only [Act.put, List.setIfInBounds_toArray, List.set_cons_zero, List.set_cons_succ, i64_w, i32_w]
         rfl
        refine pure_ (i := 2) (N := some 72) (v := ?_) (a' := ?_) #[true, false, true, false, false, false, false, false, false, false] rfl rfl (any_of HT_.out (by kernel_rfl)) (fun _ _ _ h => h) (Or.inl ⟨by rfl, ?_⟩) ?_ ?_
        rotate_left
        ·intro w'
         go_simp
         with_reducible rfl
        rotate_left
        ·simp only [Act.put, List.setIfInBounds_toArray, List.set_cons_zero, List.set_cons_succ, i64_w, i32_w]
         rfl
        refine pure_ (i := 3) (N := some 73) (v := ?_) (a' := ?_) #[true, false, true, true, false, false, false, false, false, false] rfl rfl (any_of HT_.out (by kernel_rfl)) (fun _ _ _ h => h) (Or.inl ⟨by rfl, ?_⟩) ?_ ?_
        rotate_left
        ·intro w'
         go_simp
         with_reducible rfl
        rotate_left
        ·simp only [Act.put, List.setIfInBounds_toArray, List.set_cons_zero, List.set_cons_succ, i64_w, i32_w]
         rfl
        refine pure_ (i := 4) (N := some 74) (v := ?_) (a' := ?_) #[true, false, true, true, true, false, false, false, false, false] rfl rfl (any_of HT_.out (by kernel_rfl)) (fun _ _ _ h => h) (Or.inl ⟨by rfl, ?_⟩) ?_ ?_
        rotate_left
        ·intro w'
         go_simp
         with_reducible rfl
        rotate_left
        ·simp only [Act.put, List.setIfInBounds_toArray, List.set_cons_zero, List.set_cons_succ, i64_w, i32_w]
         rfl
        refine pure_ (i := 5) (N := some 75) (v := ?_) (a' := ?_) #[true, false, true, true, true, true, false, false, false, false] rfl rfl (any_of HT_.out (by kernel_rfl)) (fun _ _ _ h => h) (Or.inl ⟨by rfl, ?_⟩) ?_ ?_
        rotate_left
        ·intro w'
         go_simp
         with_reducible rfl
        rotate_left
        ·simp only [Act.put, List.setIfInBounds_toArray, List.set_cons_zero, List.set_cons_succ, i64_w, i32_w]
         rfl
        refine take_ (i := 1) (N := some 71) (v := ?_) (a' := ?_) #[true, true, true, true, true, true, false, false, false, false] rfl rfl (take_ofW HT_.out HW_.out (by kernel_rfl)) (fun _ _ _ h => h) (Or.inl ⟨by rfl, ?_⟩) hHeld ?_ ?_
        rotate_left
        ·rintro w' ⟨s0, s1, s2⟩
         go_simp
         with_reducible rfl
        rotate_left
        ·simp only [Act.put, List.setIfInBounds_toArray, List.set_cons_zero, List.set_cons_succ, i64_w, i32_w]
         rfl
        refine one_ (i := 6) (N := some 76) #[true, true, true, true, true, true, true, false, false, false] rfl rfl (one_of HT_.out (by kernel_rfl)) (by decide) (fun K hK => ?_)
        refine goes_ Tryd.func34 (by kernel_rfl) rfl #[.pointer (some ⟨g, 0, none⟩), .int .i64 (wrap64 (t287 + 1))] (by rfl) rfl rfl (by (try simp only [List.map_toArray, List.map_cons, List.map_nil]); first | done | rfl | (simp only [List.length_drop, List.length_take]; rfl)) ?_
        with_reducible refine (spec_l13Rd_pick.calls k2 g s0_0 x1001_2 (wrap64 (t287 + 1)) t317 t318 w0 _ ?side1 ?side2 A91.out).mono ?_
        (case side1 => exact is63_2 NB0_283.out NB0_304.out HI0.out)
        (case side2 => exact bs3 (IsS63.ge HI0.out) GE283.out GE304.out HB.out)
        rintro e w99 ⟨rfl, hi, hb, hk⟩
        refine ⟨_, rfl, ?_⟩
        replace HO_305000 := am (Kd.R_mono (Kd.R_keep (IsS63.apart (show IsS63 w0 _ g s0_0 x1001_2 from by exact is63_2 NB0_283.out NB0_304.out HI0.out) (rl HO_305000.out) (by decide)) hk (fun _ h => h.2)) (fun _ h => h.1))
        replace HO_305001 := am (Kd.R_mono (Kd.R_keep (IsS63.apart (show IsS63 w0 _ g s0_0 x1001_2 from by exact is63_2 NB0_283.out NB0_304.out HI0.out) (rl HO_305001.out) (by decide)) hk (fun _ h => h.2)) (fun _ h => h.1))
        replace HO_305002 := am (Kd.R_mono (Kd.R_keep (IsS63.apart (show IsS63 w0 _ g s0_0 x1001_2 from by exact is63_2 NB0_283.out NB0_304.out HI0.out) (rl HO_305002.out) (by decide)) hk (fun _ h => h.2)) (fun _ h => h.1))
        replace BK283 := kb hk BK283 NB283_0
        replace BK304 := kb hk BK304 NB304_0
        replace HK := am (KeepBut.trans (ks2 GW283.out GW304.out HK.out) hk (.inl rfl))
        replace HB := am (hb)
        replace HI0 := am (hi)
        (try clear hb hk hi)
        have p93 : 0 ≤ (x7_2 : Int) := of_decide_eq_true (by first | (with_reducible assumption) | assumption)
        have q93 : (x7_2 : Int) < ((x305002_2.length : Int) : Int) := of_decide_eq_true (by first | (with_reducible assumption) | assumption)
        obtain ⟨go93, co93, eo93, gb93, gl93, cl93, HG93⟩ := Kd.R_form HO_305002.out (by first | omega | (have hz_ := (Kd.R_reads' HO_305002.out).1; omega))
        (first | cases eo93 | (injection eo93 with ea_ en_ ec_; (first | subst ea_ | (injection ea_ with ea_; subst ea_)); subst ec_; clear en_))
        have GB93 := am gb93
        have GG93 := am HG93
        clear gb93 gl93 HG93
        obtain ⟨hx93_0, hf93_0⟩ := Kd.R_celln 0 HO_305002.out (x7_2 : Int) p93 q93
        replace p93 := eq_true p93
        replace q93 := eq_true q93
        have HN0_go93 := am (show g ≠ go93 from by have h_ := IsS63.own_ne HI0.out HO_305002.out (by decide); intro e_; exact h_ (by rw [e_]; rfl))
        have HP100 := Kd.R_putn HO_305002.out (x7_2 : Int) (wrap64 (t317 - 1))
        rw [← Ny319.out] at HP100
        have HQ100 := am HP100
        clear HP100
        refine hK.out _ _ ⟨(blk_cell BK304.out 0).trans rfl, (blk_cell BK304.out 1).trans rfl, (blk_cell BK304.out 2).trans rfl⟩ (fun hHeld => ?_)
        clear hK K
        refine norm_ (a' := ?_) ?_ ?_
        rotate_left
        ·show Act.put _ (some 76) _ = _
         simp only [Act.put, List.setIfInBounds_toArray, List.set_cons_zero, List.set_cons_succ, i64_w, i32_w]
         rfl
        refine pure_ (i := 7) (N := some 77) (v := ?_) (a' := ?_) #[true, true, true, true, true, true, true, true, false, false] rfl rfl (any_of HT_.out (by kernel_rfl)) (fun _ _ _ h => h) (Or.inl ⟨by rfl, ?_⟩) ?_ ?_
        rotate_left
        ·intro w'
         go_simp
         with_reducible rfl
        rotate_left
        ·simp only [Act.put, List.setIfInBounds_toArray, List.set_cons_zero, List.set_cons_succ, i64_w, i32_w]
         rfl
        refine pure_ (i := 8) (N := some 78) (v := ?_) (a' := ?_) #[true, true, true, true, true, true, true, true, true, false] rfl rfl (any_of HT_.out (by kernel_rfl)) (fun _ _ _ h => h) (Or.inl ⟨by rfl, ?_⟩) ?_ ?_
        rotate_left
        ·intro w'
         go_simp
         with_reducible rfl
        rotate_left
        ·simp only [Act.put, List.setIfInBounds_toArray, List.set_cons_zero, List.set_cons_succ, i64_w, i32_w]
         rfl
        refine last_ (i := 9) (N := none) #[true, true, true, true, true, true, true, true, true, true] rfl rfl (one_of HT_.out (by kernel_rfl)) (by decide) (fun K hK => ?_)
        refine skip_ (w1 := ?_) (by rfl) rfl ?_ ?_
        rotate_left
        ·go_simp
         rfl
        refine hK.out _ _ ?_
        clear hK K
        refine done_ (done_of HT_.out (by kernel_rfl)) ?_
        try go_wp2
        go_roundg k2
        case measure => have := HK1.out; have := HK2.out; omega
        case rel => exact ⟨(wrap64 (x7_2 + 1)), (t318), (x305000_2), (x305001_2), (y319), (u305000), (u305001), (.slice (some ⟨go93, 0, none⟩) x305002_2.length co97), (by first | rfl | (simp; done) | (simp [*]; done)), H', ⟨by have := HK1.out; have := HK2.out; omega⟩, ⟨rl (Kd.R_mono (Kd.R_far (p := ⟨go93, (x7_2 : Int).toNat, none⟩) (Kd.R_mono HO_305000.out (fun k_ hk => (⟨hk, fun e_ => hk.2 (by rw [e_]; rfl)⟩ : _ ∧ k_ ≠ go93))) (fun _ hk => hk.2) (.int .i64 (wrap64 (t317 - 1)))) (fun _ hk => by first | exact ⟨hk.1.1, hk.1.2⟩ | (simp only [ne_eq] at hk ⊢; simp only [hk, not_false_eq_true, and_self])))⟩, ⟨rl (Kd.R_mono (Kd.R_far (p := ⟨go93, (x7_2 : Int).toNat, none⟩) (Kd.R_mono HO_305001.out (fun k_ hk => (⟨hk, fun e_ => hk.2 (by rw [e_]; rfl)⟩ : _ ∧ k_ ≠ go93))) (fun _ hk => hk.2) (.int .i64 (wrap64 (t317 - 1)))) (fun _ hk => by first | exact ⟨hk.1.1, hk.1.2⟩ | (simp only [ne_eq] at hk ⊢; simp only [hk, not_false_eq_true, and_self])))⟩, ⟨rl HQ100.out⟩, ⟨by (with_reducible repeat (first | refine blk_drewN ?_ _ | refine blk_drew ?_ | refine blk_alloc ?_ _)); refine blk_far ?_ (by have h_ := Kd.R_ne HO_305002.out BK283.out (by decide); intro e_; exact h_ (by rw [e_]; rfl)) _; (with_reducible repeat (first | refine blk_drewN ?_ _ | refine blk_drew ?_ | refine blk_alloc ?_ _)); exact BK283.out⟩, ⟨by (with_reducible repeat (first | refine blk_drewN ?_ _ | refine blk_drew ?_ | refine blk_alloc ?_ _)); refine blk_far ?_ (by have h_ := Kd.R_ne HO_305002.out BK304.out (by decide); intro e_; exact h_ (by rw [e_]; rfl)) _; (with_reducible repeat (first | refine blk_drewN ?_ _ | refine blk_drew ?_ | refine blk_alloc ?_ _)); exact BK304.out⟩, ⟨by exact is63_3 HN0_go93.out NB0_283.out NB0_304.out HI0.out⟩, ⟨by exact ks3 GB93.out GW283.out GW304.out HK.out⟩, ⟨by repeat (first | (with_reducible first | exact HB.out | apply below_alloc | apply pw_below_drewN | apply below_drew1 | refine below_set ?_ (Nat.le_trans HL.out GB93.out) | refine below_set ?_ (IsS63.ge HI0.out) | refine below_set ?_ GE283.out | refine below_set ?_ GE304.out) | exact HB.out)⟩⟩
       ·rw [if_neg c92] at H
        exact absurd H (by simp)
      ·rw [if_neg c90] at H
       have c90b0 : decide (x7_2 < (x305002_2.length : Int)) = false := decide_eq_false c90
       clear c90
       simp only [Option.some.injEq, Prod.mk.injEq] at H
       obtain ⟨rfl, rfl, rfl, rfl⟩ := H
       have hnb101 := NB304_283.out
       have hnc101 := NB283_304.out
       have hnb102 := NB304_0.out
       have hnc102 := NB0_304.out
       obtain ⟨hcz103_0, hcz103_1, hcz103_2, hfz103_0, hfz103_1, hfz103_2⟩ := cf3 BK304
       obtain ⟨Ao104, co104, eo104⟩ := Kd.R_slice HO_305002.out
       subst eo104
       obtain ⟨Ao105, co105, eo105⟩ := Kd.R_slice HO_305000.out
       subst eo105
       have hnb106 := NB283_0.out
       have hnc106 := NB0_283.out
       obtain ⟨hcz107_0, hcz107_1, hcz107_2, hfz107_0, hfz107_1, hfz107_2⟩ := cf3 BK283
       obtain ⟨Ao108, co108, eo108⟩ := Kd.R_slice HO_305001.out
       subst eo108
       go_wp2
       refine bodyPost_ret (results_cell_row rfl _ _ gb283 24 #[.slice Ao105 x305000_2.length co105, .slice Ao108 x305001_2.length co108, .slice Ao104 x305002_2.length co104] (0, 0) _ rfl (kp3 (kf0 BK283.out)) Tryd.underlying24 rfl (by kernel_rfl)) rfl ?_
       exact ⟨_, _, _, by first | rfl | (simp [errW_none, errW_some] <;> rfl) | (simp [*, errW_none, errW_some] <;> rfl), by exact ro (rg BK283 HO_305000), by exact ro (rg BK283 HO_305001), by exact ro (rg BK283 HO_305002), by exact is63_2 NB0_283.out NB0_304.out HI0.out, by exact bs3 (IsS63.ge HI0.out) GE283.out GE304.out HB.out, by exact ks2 GW283.out GW304.out HK.out⟩

end Go.Proofs.YtomeaapjjmaepaaDoor.A
