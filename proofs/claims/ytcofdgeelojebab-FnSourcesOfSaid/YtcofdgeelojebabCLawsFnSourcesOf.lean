/- Contracts of functions of the given program (CLawsFnSourcesOf). No conditions beyond those stated. -/
import Derived.Test.YtcofdgeelojebabA0
import Derived.Test.YtcofdgeelojebabAImplPutLeft
import Derived.Test.YtcofdgeelojebabAImplPutRight
import Derived.Test.YtcofdgeelojebabAImplSourcesOf
import Derived.Test.YtcofdgeelojebabALawsCcInts
import Derived.Test.YtcofdgeelojebabASpecDrawSourcesOf
import Derived.Test.YtcofdgeelojebabASpecSourcesOf
import Derived.Test.YtcofdgeelojebabA0
namespace Go.Proofs.Ytcofdgeelojebab.A
open Go.RowKit Go.Proofs.YtcofdgeelojebabW.PrintWords Go.Proofs.YtcofdgeelojebabW.PrintLast Go.Proofs.YtcofdgeelojebabW.PrintMore
attribute [local go_sem] max2_int min2_int max_two min_two max_three min_three max_four min_four   -- for this text's walks alone
set_option linter.unusedVariables false
set_option linter.unusedSimpArgs false

/-! ### laws_FnSourcesOf -/
def laws_FnSourcesOf.l0 : Nat → Int → List Int → Int → List Int → List Int → List Int → Option (Bool)
 | 0, _, _, _, _, _, _ => none
 | k + 1, x4, x5, x6, x526000, x526001, x526002 => if x6 < (x5.length : Int) then (if 0 ≤ x6 then (if 0 ≤ (rd x5 x6) then (if (rd x5 x6) < (x526000.length : Int) then (if (rd x526000 (rd x5 x6)) = x4 then (if x6 > 0 then (if 0 ≤ (wrap64 (x6 - 1)) then (if (wrap64 (x6 - 1)) < (x5.length : Int) then (if (rd x5 x6) ≤ (rd x5 (wrap64 (x6 - 1))) then (none) else (laws_FnSourcesOf.l0 k x4 x5 (wrap64 (x6 + 1)) x526000 x526001 x526002)) else (none)) else (none)) else (laws_FnSourcesOf.l0 k x4 x5 (wrap64 (x6 + 1)) x526000 x526001 x526002)) else (if (rd x5 x6) < (x526001.length : Int) then (if (rd x526001 (rd x5 x6)) = x4 then (if x6 > 0 then (if 0 ≤ (wrap64 (x6 - 1)) then (if (wrap64 (x6 - 1)) < (x5.length : Int) then (if (rd x5 x6) ≤ (rd x5 (wrap64 (x6 - 1))) then (none) else (laws_FnSourcesOf.l0 k x4 x5 (wrap64 (x6 + 1)) x526000 x526001 x526002)) else (none)) else (none)) else (laws_FnSourcesOf.l0 k x4 x5 (wrap64 (x6 + 1)) x526000 x526001 x526002)) else (none)) else (none))) else (none)) else (none)) else (none)) else (if 0 < (x5.length : Int) then ((impl_PutLeft.f k x526000 x526001 x526002 (rd x5 0) (-1)).bind fun bt542 => ((impl_PutRight.f k bt542.1 bt542.2.1 bt542.2.2.1 (rd x5 0) (-1)).bind fun bt554 => (if bt542.2.2.2 = true then (if bt554.2.2.2 = true then ((impl_SourcesOf.f k bt554.1 bt554.2.1 bt554.2.2.1 x4).bind fun t565 => (some ((t565.length : Int) == (wrap64 ((x5.length : Int) - 1))))) else (none)) else (none)))) else (none))
def laws_FnSourcesOf.f (k : Nat) (l0 : List Int) : Option (Bool) := if (l0.length : Int) > 1048576 then (some true) else ((spec_DrawSourcesOf.f k l0).bind fun bt515 => ((impl_SourcesOf.f k bt515.1 bt515.2.1 bt515.2.2.1 bt515.2.2.2).bind fun t526 => ((spec_SourcesOf.f k bt515.1 bt515.2.1 bt515.2.2.1 bt515.2.2.2).bind fun t529 => ((laws_ccInts.f k t526 t529).bind fun t532 => (if t532 = true then (if (t526.length : Int) = 0 then (some true) else (laws_FnSourcesOf.l0 k bt515.2.2.2 t526 0 bt515.1 bt515.2.1 bt515.2.2.1)) else (none))))))
theorem laws_FnSourcesOf.mono_l : ∀ k, (∀ y0 y1 y2 y3 y4 y5, LeO (laws_FnSourcesOf.l0 k y0 y1 y2 y3 y4 y5) (laws_FnSourcesOf.l0 (k + 1) y0 y1 y2 y3 y4 y5))
 | 0 => fun _ _ _ _ _ _ r h => by simp [laws_FnSourcesOf.l0] at h
 | k + 1 => by
  have ih0 := laws_FnSourcesOf.mono_l k
  ·intro y0 y1 y2 y3 y4 y5
   unfold laws_FnSourcesOf.l0
   repeat' first
   | (with_reducible exact ih0 _ _ _ _ _ _)
   | (with_reducible exact impl_PutLeft.mono _ _ _ _ _ _)
   | (with_reducible exact impl_PutRight.mono _ _ _ _ _ _)
   | (with_reducible exact impl_SourcesOf.mono _ _ _ _ _)
   | (with_reducible exact laws_ccInts.mono _ _ _)
   | (with_reducible exact spec_DrawSourcesOf.mono _ _)
   | (with_reducible exact spec_SourcesOf.mono _ _ _ _ _)
   | (with_reducible exact LeO.refl _)
   | (with_reducible exact LeO.none _)
   | (with_reducible refine LeO.ite ?_ ?_)
   | (with_reducible refine LeO.bind ?_ (fun _ => ?_))
   | exact ih0 _ _ _ _ _ _
   | exact impl_PutLeft.mono _ _ _ _ _ _
   | exact impl_PutRight.mono _ _ _ _ _ _
   | exact impl_SourcesOf.mono _ _ _ _ _
   | exact laws_ccInts.mono _ _ _
   | exact spec_DrawSourcesOf.mono _ _
   | exact spec_SourcesOf.mono _ _ _ _ _
   | exact LeO.none _
   | refine LeO.ite ?_ ?_
   | refine LeO.bind ?_ (fun _ => ?_)
theorem laws_FnSourcesOf.mono : ∀ a0 k, LeO (laws_FnSourcesOf.f k a0) (laws_FnSourcesOf.f (k + 1) a0) := by
 intro a0 k
 have ih0 := laws_FnSourcesOf.mono_l k
 unfold laws_FnSourcesOf.f
 repeat' first
   | (with_reducible exact ih0 _ _ _ _ _ _)
   | (with_reducible exact impl_PutLeft.mono _ _ _ _ _ _)
   | (with_reducible exact impl_PutRight.mono _ _ _ _ _ _)
   | (with_reducible exact impl_SourcesOf.mono _ _ _ _ _)
   | (with_reducible exact laws_ccInts.mono _ _ _)
   | (with_reducible exact spec_DrawSourcesOf.mono _ _)
   | (with_reducible exact spec_SourcesOf.mono _ _ _ _ _)
   | (with_reducible exact LeO.refl _)
   | (with_reducible exact LeO.none _)
   | (with_reducible refine LeO.ite ?_ ?_)
   | (with_reducible refine LeO.bind ?_ (fun _ => ?_))
   | exact ih0 _ _ _ _ _ _
   | exact impl_PutLeft.mono _ _ _ _ _ _
   | exact impl_PutRight.mono _ _ _ _ _ _
   | exact impl_SourcesOf.mono _ _ _ _ _
   | exact laws_ccInts.mono _ _ _
   | exact spec_DrawSourcesOf.mono _ _
   | exact spec_SourcesOf.mono _ _ _ _ _
   | exact LeO.none _
   | refine LeO.ite ?_ ?_
   | refine LeO.bind ?_ (fun _ => ?_)
def laws_FnSourcesOf.T12 : Bool × List (List Nat × List Nat) := (true, [([], []), ([0], [0]), ([], []), ([], []), ([2, 3], [2, 3]), ([4], [4]), ([1, 5], [1, 5]), ([6], [6]), ([], []), ([7, 8], [7, 8]), ([9], [9]), ([10], [10]), ([11, 10], [10, 11]), ([10], [10]), ([10], [10]), ([13, 14, 10], [10, 13, 14]), ([15, 10], [10, 15]), ([12, 16, 10], [10, 12, 16]), ([17, 10], [10, 17]), ([10], [10]), ([18, 19, 10], [10, 18, 19]), ([10, 20], [10, 20]), ([21, 10], [21]), ([22], [22]), ([23, 22], [22, 23]), ([24, 22, 22], [22, 24]), ([25], [25]), ([25], [25]), ([26, 27, 25], [25, 26, 27]), ([28, 25], [25, 28]), ([25], [25]), ([25], [25]), ([31, 25], [25, 31]), ([30, 32, 25], [25, 30, 32]), ([33, 25], [25, 33]), ([29, 34, 25], [25, 29, 34]), ([25, 35, 22], [22, 25, 35]), ([22, 36], [22, 36])])
def laws_FnSourcesOf.B12 : List Nat := [0, 1, 0, 0, 12, 28, 63, 127, 0, 511, 1023, 2047, 4095, 2047, 2047, 26623, 59391, 131071, 262143, 2047, 1048575, 2097151, 4194303, 8388607, 16777215, 33554431, 67108863, 67108863, 268435455, 536870911, 67108863, 67108863, 2214592511, 7583301631, 16173236223, 34359738367, 68719476735, 137438953471]
theorem laws_FnSourcesOf.tab12 : rtab .any (opsOf Try.f5 12) = laws_FnSourcesOf.T12 := by kernel_rfl
theorem laws_FnSourcesOf.bits12 : waitsOk laws_FnSourcesOf.T12.2 laws_FnSourcesOf.B12 = true := by kernel_rfl
def laws_FnSourcesOf.T14 : Bool × List (List Nat × List Nat) := (true, [([], []), ([], []), ([1], [1]), ([2], [2]), ([0, 3], [0, 3]), ([4], [4]), ([5], [5]), ([5], [5]), ([], []), ([8, 6, 4, 0, 1, 2, 3, 4, 5, 6, 8], [6, 8]), ([7, 9, 0, 1, 2, 3, 4, 5, 6, 7, 8, 9], [7])])
def laws_FnSourcesOf.B14 : List Nat := [0, 0, 2, 6, 15, 31, 63, 63, 0, 383, 1023]
theorem laws_FnSourcesOf.tab14 : rtab .any (opsOf Try.f5 14) = laws_FnSourcesOf.T14 := by kernel_rfl
theorem laws_FnSourcesOf.bits14 : waitsOk laws_FnSourcesOf.T14.2 laws_FnSourcesOf.B14 = true := by kernel_rfl
def laws_FnSourcesOf.T15 : Bool × List (List Nat × List Nat) := (true, [([], []), ([], []), ([1], [1]), ([2], [2]), ([0, 3], [0, 3]), ([4], [4]), ([5], [5]), ([5], [5]), ([], []), ([8, 6, 4, 0, 1, 2, 3, 4, 5, 6, 8], [6, 8]), ([7, 9, 0, 1, 2, 3, 4, 5, 6, 7, 8, 9], [7])])
def laws_FnSourcesOf.B15 : List Nat := [0, 0, 2, 6, 15, 31, 63, 63, 0, 383, 1023]
theorem laws_FnSourcesOf.tab15 : rtab .any (opsOf Try.f5 15) = laws_FnSourcesOf.T15 := by kernel_rfl
theorem laws_FnSourcesOf.bits15 : waitsOk laws_FnSourcesOf.T15.2 laws_FnSourcesOf.B15 = true := by kernel_rfl
set_option maxHeartbeats 8000000 in
set_option maxRecDepth 100000 in
theorem laws_FnSourcesOf.calls (k : Nat) (A0 : Option Addr) (c0 : Nat) (l0 : List Int) (r : Bool) (w : World) (hr0 : Kd.C (Kd.int .u8) w A0 l0.length l0) (hc0 : l0.length ≤ c0) (h : laws_FnSourcesOf.f k l0 = some r) :
  Calls Try.prog 5 #[.slice A0 l0.length c0] w fun e w' => e = .returned (.bool r) ∧ Below w.heap.size w w' := by
 have hu25 := Try.underlying25
 have HR0 := am hr0
 have HC0 := am hc0
 clear hr0 hc0
 have HB := am (Below.refl w.heap.size w)
 have H : (if (l0.length : Int) > 1048576 then (some true) else ((spec_DrawSourcesOf.f k l0).bind fun bt515 => ((impl_SourcesOf.f k bt515.1 bt515.2.1 bt515.2.2.1 bt515.2.2.2).bind fun t526 => ((spec_SourcesOf.f k bt515.1 bt515.2.1 bt515.2.2.1 bt515.2.2.2).bind fun t529 => ((laws_ccInts.f k t526 t529).bind fun t532 => (if t532 = true then (if (t526.length : Int) = 0 then (some true) else (laws_FnSourcesOf.l0 k bt515.2.2.2 t526 0 bt515.1 bt515.2.1 bt515.2.2.1)) else (none))))))) = some r := h
 clear h
 by_cases c2 : (l0.length : Int) > 1048576
 ·rw [if_pos c2] at H
  have c2b0 : decide (1048576 < (l0.length : Int)) = true := decide_eq_true c2
  have c2b1 : decide (1048576 < l0.length) = true := decide_eq_true (by omega)
  clear c2
  obtain rfl := Option.some.inj H
  go_enter Try.func5, Try.ntmps5
  go_wp2
  go_ret
  exact ⟨by first | rfl | (simp [errW_none, errW_some] <;> rfl) | (simp [*, errW_none, errW_some] <;> rfl), by exact bs0 HB.out⟩
 ·rw [if_neg c2] at H
  have c2b0 : decide (1048576 < (l0.length : Int)) = false := decide_eq_false c2
  have c2b1 : decide (1048576 < l0.length) = false := decide_eq_false (by omega)
  clear c2
  replace H := Option.bind_eq_some_iff.mp H
  obtain ⟨⟨t515, t518, t521, t524⟩, A30, H⟩ := H
  replace H : ((impl_SourcesOf.f k t515 t518 t521 t524).bind fun t526 => ((spec_SourcesOf.f k t515 t518 t521 t524).bind fun t529 => ((laws_ccInts.f k t526 t529).bind fun t532 => (if t532 = true then (if (t526.length : Int) = 0 then (some true) else (laws_FnSourcesOf.l0 k t524 t526 0 t515 t518 t521)) else (none))))) = some r := H
  have A3 := am A30
  clear A30
  replace H := Option.bind_eq_some_iff.mp H
  obtain ⟨t526, A40, H⟩ := H
  replace H : ((spec_SourcesOf.f k t515 t518 t521 t524).bind fun t529 => ((laws_ccInts.f k t526 t529).bind fun t532 => (if t532 = true then (if (t526.length : Int) = 0 then (some true) else (laws_FnSourcesOf.l0 k t524 t526 0 t515 t518 t521)) else (none)))) = some r := H
  have A4 := am A40
  clear A40
  replace H := Option.bind_eq_some_iff.mp H
  obtain ⟨t529, A50, H⟩ := H
  replace H : ((laws_ccInts.f k t526 t529).bind fun t532 => (if t532 = true then (if (t526.length : Int) = 0 then (some true) else (laws_FnSourcesOf.l0 k t524 t526 0 t515 t518 t521)) else (none))) = some r := H
  have A5 := am A50
  clear A50
  replace H := Option.bind_eq_some_iff.mp H
  obtain ⟨t532, A60, H⟩ := H
  replace H : (if t532 = true then (if (t526.length : Int) = 0 then (some true) else (laws_FnSourcesOf.l0 k t524 t526 0 t515 t518 t521)) else (none)) = some r := H
  have A6 := am A60
  clear A60
  by_cases c7 : t532 = true
  ·subst c7
   have H1 : (if (t526.length : Int) = 0 then (some true) else (laws_FnSourcesOf.l0 k t524 t526 0 t515 t518 t521)) = some r := by rw [if_pos rfl] at H; exact H
   clear H
   have H := H1
   clear H1
   by_cases c8 : (t526.length : Int) = 0
   ·rw [if_pos c8] at H
    have c8b0 : ((t526.length : Int) == 0) = true := beq_iff_eq.mpr c8
    have c8b1 : ((t526.length : Int) != 0) = false := bne_eq_false_iff_eq.mpr c8
    clear c8
    obtain rfl := Option.some.inj H
    go_enter Try.func5, Try.ntmps5
    go_wp2_with (first | ((with_reducible refine gate_callee (f := 21) rfl ?_); refine goesL_ (some 16) rfl rfl Try.func21 (by kernel_rfl) rfl #[.slice A0 l0.length c0] rfl (by (try simp only [List.map_toArray, List.map_cons, List.map_nil]); first | done | rfl | (simp only [List.length_drop, List.length_take]; rfl)) ?_; (with_reducible refine (spec_DrawSourcesOf.calls k _ _ l0 t515 t518 t521 t524 _ ?side1 ?side2 A3.out).mono ?_); (case side1 => exact cl (HR0.out)); (case side2 => exact HC0.out); rintro e w9 ⟨v516, v519, v522, rfl, ho0, ho1, ho2, hb⟩; refine ⟨_, rfl, ?_⟩; have HO517 := am (Kd.R_lower ho0 (below_size (bl HB.out))); have HO520 := am (Kd.R_lower ho1 (below_size (bl HB.out))); have HO523 := am (Kd.R_lower ho2 (below_size (bl HB.out))); replace HB := am (below_step (bl HB.out) hb); (try clear hb); (try clear hb2); (try clear hk); (try clear hi); (try clear ho0); (try clear ho1); (try clear ho2)) | ((with_reducible refine gate_dst (N := 3) rfl ?_); (try (refine gate_guard (by rfl) ?_; dsimp only)); refine box_event ?hg (N := 3) ?hd (cs := #[.slice none 0 0, .slice none 0 0, .slice none 0 0]) (t := 25) ?hr ?_; (case hd => rfl); (case hg => rfl); (case hr => first | (go_simp; done) | (go_simp; rfl)); intro gb525 hg w10 hbox hb; replace HO517 := am (Kd.R_below (rl HO517.out) hb); replace HO520 := am (Kd.R_below (rl HO520.out) hb); replace HO523 := am (Kd.R_below (rl HO523.out) hb); have BK525 := am (hbox); have GW525 := am ((by rw [hg]; exact (below_size (bl HB.out)) : w.heap.size ≤ gb525)); have GE525 := am ((by rw [hg]; exact (below_size (bl HB.out)) : w.heap.size ≤ gb525)); replace HB := am (below_step (bl HB.out) hb); clear hb hbox hg; obtain ⟨Ao11, co11, eo11⟩ := Kd.R_slice HO517.out; subst eo11; have hcz12_0 : w10.cell? ⟨gb525, 0, none⟩ = some (.slice none 0 0) := (blk_cell BK525.out 0).trans rfl; have hcz12_1 : w10.cell? ⟨gb525, 1, none⟩ = some (.slice none 0 0) := (blk_cell BK525.out 1).trans rfl; have hcz12_2 : w10.cell? ⟨gb525, 2, none⟩ = some (.slice none 0 0) := (blk_cell BK525.out 2).trans rfl; have hfz12_0 := blk_frozen BK525.out 0; have hfz12_1 := blk_frozen BK525.out 1; have hfz12_2 := blk_frozen BK525.out 2; obtain ⟨Ao13, co13, eo13⟩ := Kd.R_slice HO520.out; subst eo13; obtain ⟨Ao14, co14, eo14⟩ := Kd.R_slice HO523.out; subst eo14) | ((with_reducible refine gate_callee (f := 22) rfl ?_); refine goesL_ (some 21) rfl rfl Try.func22 (by kernel_rfl) rfl #[.agg #[.slice Ao11 t515.length co11, .slice Ao13 t518.length co13, .slice Ao14 t521.length co14], .int .i64 t524] rfl (by (try simp only [List.map_toArray, List.map_cons, List.map_nil]); first | done | rfl | (simp only [List.length_drop, List.length_take]; rfl)) ?_; (with_reducible refine (impl_SourcesOf.calls k _ _ t515 _ _ t518 _ _ t521 t524 t526 _ ?side1 ?side2 ?side3 ?side4 ?side5 ?side6 A4.out).mono ?_); (case side1 => exact (Kd.R_reads' (rf1 BK525.out HO517.out)).2.2); (case side2 => exact (Kd.R_reads' HO517.out).2.1); (case side3 => exact (Kd.R_reads' (rf1 BK525.out HO520.out)).2.2); (case side4 => exact (Kd.R_reads' HO520.out).2.1); (case side5 => exact (Kd.R_reads' (rf1 BK525.out HO523.out)).2.2); (case side6 => exact (Kd.R_reads' HO523.out).2.1); rintro e w15 ⟨v527, rfl, ho0, hb⟩; refine ⟨_, rfl, ?_⟩; have HO528 := am (Kd.R_lower (Kd.R_new' (Kd.R_new' (Kd.R_new' ho0 (Kd.R_lt (rf1 BK525.out HO517.out))) (Kd.R_lt (rf1 BK525.out HO520.out))) (Kd.R_lt (rf1 BK525.out HO523.out))) (below_size (bs1 GE525.out HB.out))); replace HO517 := am (Kd.R_elder' (rf1 BK525.out HO517.out) (Kd.R_base ho0) hb); replace HO520 := am (Kd.R_elder' (rf1 BK525.out HO520.out) (Kd.R_base ho0) hb); replace HO523 := am (Kd.R_elder' (rf1 BK525.out HO523.out) (Kd.R_base ho0) hb); replace BK525 := am (blk_below (g := gb525) (o := .cells #[.slice Ao11 t515.length co11, .slice Ao13 t518.length co13, .slice Ao14 t521.length co14] 25 (0, 0)) (kp3 (kf0 BK525.out)) hb); replace HB := am (below_step (bs1 GE525.out HB.out) hb); (try clear hb); (try clear hb2); (try clear hk); (try clear hi); (try clear ho0); have hcz16_0 : w15.cell? ⟨gb525, 0, none⟩ = some (.slice Ao11 t515.length co11) := (blk_cell BK525.out 0).trans rfl; have hcz16_1 : w15.cell? ⟨gb525, 1, none⟩ = some (.slice Ao13 t518.length co13) := (blk_cell BK525.out 1).trans rfl; have hcz16_2 : w15.cell? ⟨gb525, 2, none⟩ = some (.slice Ao14 t521.length co14) := (blk_cell BK525.out 2).trans rfl; have hfz16_0 := blk_frozen BK525.out 0; have hfz16_1 := blk_frozen BK525.out 1; have hfz16_2 := blk_frozen BK525.out 2) | ((with_reducible refine gate_callee (f := 23) rfl ?_); refine goesL_ (some 25) rfl rfl Try.func23 (by kernel_rfl) rfl #[.agg #[.slice Ao11 t515.length co11, .slice Ao13 t518.length co13, .slice Ao14 t521.length co14], .int .i64 t524] rfl (by (try simp only [List.map_toArray, List.map_cons, List.map_nil]); first | done | rfl | (simp only [List.length_drop, List.length_take]; rfl)) ?_; (with_reducible refine (spec_SourcesOf.calls k _ _ t515 _ _ t518 _ _ t521 t524 t529 _ ?side1 ?side2 ?side3 ?side4 ?side5 ?side6 A5.out).mono ?_); (case side1 => exact cl ((Kd.R_reads' HO517.out).2.2)); (case side2 => exact (Kd.R_reads' HO517.out).2.1); (case side3 => exact cl ((Kd.R_reads' HO520.out).2.2)); (case side4 => exact (Kd.R_reads' HO520.out).2.1); (case side5 => exact cl ((Kd.R_reads' HO523.out).2.2)); (case side6 => exact (Kd.R_reads' HO523.out).2.1); rintro e w17 ⟨v530, rfl, ho0, hb⟩; refine ⟨_, rfl, ?_⟩; have HO531 := am (Kd.R_lower (Kd.R_new' (Kd.R_new' (Kd.R_new' (Kd.R_new' ho0 (Kd.R_lt (rl HO517.out))) (Kd.R_lt (rl HO520.out))) (Kd.R_lt (rl HO523.out))) (Kd.R_lt (rl HO528.out))) (below_size (bs1 GE525.out HB.out))); replace HO517 := am (Kd.R_elder' (rl HO517.out) (Kd.R_base ho0) hb); replace HO520 := am (Kd.R_elder' (rl HO520.out) (Kd.R_base ho0) hb); replace HO523 := am (Kd.R_elder' (rl HO523.out) (Kd.R_base ho0) hb); replace HO528 := am (Kd.R_elder' (rl HO528.out) (Kd.R_base ho0) hb); replace BK525 := am (blk_below (g := gb525) (o := .cells #[.slice Ao11 t515.length co11, .slice Ao13 t518.length co13, .slice Ao14 t521.length co14] 25 (0, 0)) (kl BK525.out) hb); replace HB := am (below_step (bs1 GE525.out HB.out) hb); (try clear hb); (try clear hb2); (try clear hk); (try clear hi); (try clear ho0); obtain ⟨Ao18, co18, eo18⟩ := Kd.R_slice HO528.out; subst eo18; obtain ⟨Ao19, co19, eo19⟩ := Kd.R_slice HO531.out; subst eo19) | ((with_reducible refine gate_callee (f := 20) rfl ?_); refine goesL_ (some 26) rfl rfl Try.func20 (by kernel_rfl) rfl #[.slice Ao18 t526.length co18, .slice Ao19 t529.length co19] rfl (by (try simp only [List.map_toArray, List.map_cons, List.map_nil]); first | done | rfl | (simp only [List.length_drop, List.length_take]; rfl)) ?_; (with_reducible refine (laws_ccInts.calls k _ _ t526 _ _ t529 true _ ?side1 ?side2 ?side3 ?side4 A6.out).mono ?_); (case side1 => exact cl ((Kd.R_reads' HO528.out).2.2)); (case side2 => exact (Kd.R_reads' HO528.out).2.1); (case side3 => exact cl ((Kd.R_reads' HO531.out).2.2)); (case side4 => exact (Kd.R_reads' HO531.out).2.1); rintro e w' ⟨rfl, ⟨nd, rfl⟩⟩; refine ⟨_, rfl, ?_⟩))
    go_ret
    exact ⟨by first | rfl | (simp [errW_none, errW_some] <;> rfl) | (simp [*, errW_none, errW_some] <;> rfl), by exact bs1 GE525.out HB.out⟩
   ·rw [if_neg c8] at H
    have c8b0 : ((t526.length : Int) == 0) = false := beq_eq_false_iff_ne.mpr c8
    have c8b1 : ((t526.length : Int) != 0) = true := bne_iff_ne.mpr c8
    have c8b2 : ¬ (t526 = []) := fun h_ => c8 (by rw [h_]; rfl)
    have H' := am H
    clear H
    go_enter Try.func5, Try.ntmps5
    go_wp2_with (first | ((with_reducible refine gate_callee (f := 21) rfl ?_); refine goesL_ (some 16) rfl rfl Try.func21 (by kernel_rfl) rfl #[.slice A0 l0.length c0] rfl (by (try simp only [List.map_toArray, List.map_cons, List.map_nil]); first | done | rfl | (simp only [List.length_drop, List.length_take]; rfl)) ?_; (with_reducible refine (spec_DrawSourcesOf.calls k _ _ l0 t515 t518 t521 t524 _ ?side1 ?side2 A3.out).mono ?_); (case side1 => exact cl (HR0.out)); (case side2 => exact HC0.out); rintro e w20 ⟨v516, v519, v522, rfl, ho0, ho1, ho2, hb⟩; refine ⟨_, rfl, ?_⟩; have HO517 := am (Kd.R_lower ho0 (below_size (bl HB.out))); have HO520 := am (Kd.R_lower ho1 (below_size (bl HB.out))); have HO523 := am (Kd.R_lower ho2 (below_size (bl HB.out))); replace HB := am (below_step (bl HB.out) hb); (try clear hb); (try clear hb2); (try clear hk); (try clear hi); (try clear ho0); (try clear ho1); (try clear ho2)) | ((with_reducible refine gate_dst (N := 3) rfl ?_); (try (refine gate_guard (by rfl) ?_; dsimp only)); refine box_event ?hg (N := 3) ?hd (cs := #[.slice none 0 0, .slice none 0 0, .slice none 0 0]) (t := 25) ?hr ?_; (case hd => rfl); (case hg => rfl); (case hr => first | (go_simp; done) | (go_simp; rfl)); intro gb525 hg w21 hbox hb; replace HO517 := am (Kd.R_below (rl HO517.out) hb); replace HO520 := am (Kd.R_below (rl HO520.out) hb); replace HO523 := am (Kd.R_below (rl HO523.out) hb); have BK525 := am (hbox); have GW525 := am ((by rw [hg]; exact (below_size (bl HB.out)) : w.heap.size ≤ gb525)); have GE525 := am ((by rw [hg]; exact (below_size (bl HB.out)) : w.heap.size ≤ gb525)); replace HB := am (below_step (bl HB.out) hb); clear hb hbox hg; obtain ⟨Ao22, co22, eo22⟩ := Kd.R_slice HO517.out; subst eo22; have hcz23_0 : w21.cell? ⟨gb525, 0, none⟩ = some (.slice none 0 0) := (blk_cell BK525.out 0).trans rfl; have hcz23_1 : w21.cell? ⟨gb525, 1, none⟩ = some (.slice none 0 0) := (blk_cell BK525.out 1).trans rfl; have hcz23_2 : w21.cell? ⟨gb525, 2, none⟩ = some (.slice none 0 0) := (blk_cell BK525.out 2).trans rfl; have hfz23_0 := blk_frozen BK525.out 0; have hfz23_1 := blk_frozen BK525.out 1; have hfz23_2 := blk_frozen BK525.out 2; obtain ⟨Ao24, co24, eo24⟩ := Kd.R_slice HO520.out; subst eo24; obtain ⟨Ao25, co25, eo25⟩ := Kd.R_slice HO523.out; subst eo25) | ((with_reducible refine gate_callee (f := 22) rfl ?_); refine goesL_ (some 21) rfl rfl Try.func22 (by kernel_rfl) rfl #[.agg #[.slice Ao22 t515.length co22, .slice Ao24 t518.length co24, .slice Ao25 t521.length co25], .int .i64 t524] rfl (by (try simp only [List.map_toArray, List.map_cons, List.map_nil]); first | done | rfl | (simp only [List.length_drop, List.length_take]; rfl)) ?_; (with_reducible refine (impl_SourcesOf.calls k _ _ t515 _ _ t518 _ _ t521 t524 t526 _ ?side1 ?side2 ?side3 ?side4 ?side5 ?side6 A4.out).mono ?_); (case side1 => exact (Kd.R_reads' (rf1 BK525.out HO517.out)).2.2); (case side2 => exact (Kd.R_reads' HO517.out).2.1); (case side3 => exact (Kd.R_reads' (rf1 BK525.out HO520.out)).2.2); (case side4 => exact (Kd.R_reads' HO520.out).2.1); (case side5 => exact (Kd.R_reads' (rf1 BK525.out HO523.out)).2.2); (case side6 => exact (Kd.R_reads' HO523.out).2.1); rintro e w26 ⟨v527, rfl, ho0, hb⟩; refine ⟨_, rfl, ?_⟩; have HO528 := am (Kd.R_lower (Kd.R_new' (Kd.R_new' (Kd.R_new' ho0 (Kd.R_lt (rf1 BK525.out HO517.out))) (Kd.R_lt (rf1 BK525.out HO520.out))) (Kd.R_lt (rf1 BK525.out HO523.out))) (below_size (bs1 GE525.out HB.out))); replace HO517 := am (Kd.R_elder' (rf1 BK525.out HO517.out) (Kd.R_base ho0) hb); replace HO520 := am (Kd.R_elder' (rf1 BK525.out HO520.out) (Kd.R_base ho0) hb); replace HO523 := am (Kd.R_elder' (rf1 BK525.out HO523.out) (Kd.R_base ho0) hb); replace BK525 := am (blk_below (g := gb525) (o := .cells #[.slice Ao22 t515.length co22, .slice Ao24 t518.length co24, .slice Ao25 t521.length co25] 25 (0, 0)) (kp3 (kf0 BK525.out)) hb); replace HB := am (below_step (bs1 GE525.out HB.out) hb); (try clear hb); (try clear hb2); (try clear hk); (try clear hi); (try clear ho0); have hcz27_0 : w26.cell? ⟨gb525, 0, none⟩ = some (.slice Ao22 t515.length co22) := (blk_cell BK525.out 0).trans rfl; have hcz27_1 : w26.cell? ⟨gb525, 1, none⟩ = some (.slice Ao24 t518.length co24) := (blk_cell BK525.out 1).trans rfl; have hcz27_2 : w26.cell? ⟨gb525, 2, none⟩ = some (.slice Ao25 t521.length co25) := (blk_cell BK525.out 2).trans rfl; have hfz27_0 := blk_frozen BK525.out 0; have hfz27_1 := blk_frozen BK525.out 1; have hfz27_2 := blk_frozen BK525.out 2) | ((with_reducible refine gate_callee (f := 23) rfl ?_); refine goesL_ (some 25) rfl rfl Try.func23 (by kernel_rfl) rfl #[.agg #[.slice Ao22 t515.length co22, .slice Ao24 t518.length co24, .slice Ao25 t521.length co25], .int .i64 t524] rfl (by (try simp only [List.map_toArray, List.map_cons, List.map_nil]); first | done | rfl | (simp only [List.length_drop, List.length_take]; rfl)) ?_; (with_reducible refine (spec_SourcesOf.calls k _ _ t515 _ _ t518 _ _ t521 t524 t529 _ ?side1 ?side2 ?side3 ?side4 ?side5 ?side6 A5.out).mono ?_); (case side1 => exact cl ((Kd.R_reads' HO517.out).2.2)); (case side2 => exact (Kd.R_reads' HO517.out).2.1); (case side3 => exact cl ((Kd.R_reads' HO520.out).2.2)); (case side4 => exact (Kd.R_reads' HO520.out).2.1); (case side5 => exact cl ((Kd.R_reads' HO523.out).2.2)); (case side6 => exact (Kd.R_reads' HO523.out).2.1); rintro e w28 ⟨v530, rfl, ho0, hb⟩; refine ⟨_, rfl, ?_⟩; have HO531 := am (Kd.R_lower (Kd.R_new' (Kd.R_new' (Kd.R_new' (Kd.R_new' ho0 (Kd.R_lt (rl HO517.out))) (Kd.R_lt (rl HO520.out))) (Kd.R_lt (rl HO523.out))) (Kd.R_lt (rl HO528.out))) (below_size (bs1 GE525.out HB.out))); replace HO517 := am (Kd.R_elder' (rl HO517.out) (Kd.R_base ho0) hb); replace HO520 := am (Kd.R_elder' (rl HO520.out) (Kd.R_base ho0) hb); replace HO523 := am (Kd.R_elder' (rl HO523.out) (Kd.R_base ho0) hb); replace HO528 := am (Kd.R_elder' (rl HO528.out) (Kd.R_base ho0) hb); replace BK525 := am (blk_below (g := gb525) (o := .cells #[.slice Ao22 t515.length co22, .slice Ao24 t518.length co24, .slice Ao25 t521.length co25] 25 (0, 0)) (kl BK525.out) hb); replace HB := am (below_step (bs1 GE525.out HB.out) hb); (try clear hb); (try clear hb2); (try clear hk); (try clear hi); (try clear ho0); obtain ⟨Ao29, co29, eo29⟩ := Kd.R_slice HO528.out; subst eo29; obtain ⟨Ao30, co30, eo30⟩ := Kd.R_slice HO531.out; subst eo30) | ((with_reducible refine gate_callee (f := 20) rfl ?_); refine goesL_ (some 26) rfl rfl Try.func20 (by kernel_rfl) rfl #[.slice Ao29 t526.length co29, .slice Ao30 t529.length co30] rfl (by (try simp only [List.map_toArray, List.map_cons, List.map_nil]); first | done | rfl | (simp only [List.length_drop, List.length_take]; rfl)) ?_; (with_reducible refine (laws_ccInts.calls k _ _ t526 _ _ t529 true _ ?side1 ?side2 ?side3 ?side4 A6.out).mono ?_); (case side1 => exact cl ((Kd.R_reads' HO528.out).2.2)); (case side2 => exact (Kd.R_reads' HO528.out).2.1); (case side3 => exact cl ((Kd.R_reads' HO531.out).2.2)); (case side4 => exact (Kd.R_reads' HO531.out).2.1); rintro e w' ⟨rfl, ⟨nd, rfl⟩⟩; refine ⟨_, rfl, ?_⟩))
    go_loopg [6] k (fun kq v6 w' => ∃ (x6_1 : Int), v6 = .int .i64 x6_1 ∧ Aside0 (laws_FnSourcesOf.l0 kq t524 t526 x6_1 t515 t518 t521 = some r) ∧ Aside0 (kq ≤ k) ∧ Aside0 (Kd.R (Kd.int .i64) 3 w' w.heap.size (fun k_ => some k_ ≠ ((.slice Ao22 t515.length co22) : Value).ownBlock ∧ some k_ ≠ ((.slice Ao24 t518.length co24) : Value).ownBlock ∧ some k_ ≠ ((.slice Ao25 t521.length co25) : Value).ownBlock) (.slice Ao29 t526.length co29) t526) ∧ Aside0 (Kd.R (Kd.int .i64) 3 w' w.heap.size (fun k_ => some k_ ≠ ((.slice Ao29 t526.length co29) : Value).ownBlock ∧ some k_ ≠ ((.slice Ao24 t518.length co24) : Value).ownBlock ∧ some k_ ≠ ((.slice Ao25 t521.length co25) : Value).ownBlock) (.slice Ao22 t515.length co22) t515) ∧ Aside0 (Kd.R (Kd.int .i64) 3 w' w.heap.size (fun k_ => some k_ ≠ ((.slice Ao29 t526.length co29) : Value).ownBlock ∧ some k_ ≠ ((.slice Ao22 t515.length co22) : Value).ownBlock ∧ some k_ ≠ ((.slice Ao25 t521.length co25) : Value).ownBlock) (.slice Ao24 t518.length co24) t518) ∧ Aside0 (Kd.R (Kd.int .i64) 3 w' w.heap.size (fun k_ => some k_ ≠ ((.slice Ao29 t526.length co29) : Value).ownBlock ∧ some k_ ≠ ((.slice Ao22 t515.length co22) : Value).ownBlock ∧ some k_ ≠ ((.slice Ao24 t518.length co24) : Value).ownBlock) (.slice Ao25 t521.length co25) t521) ∧ Aside0 (w'.heap[gb525]? = some (.cells #[(.slice Ao22 t515.length co22), (.slice Ao24 t518.length co24), (.slice Ao25 t521.length co25)] 25 (0, 0))) ∧ Aside0 (Below w.heap.size w w'))
    case atStart => exact ⟨(0), (by first | rfl | (simp; done) | (simp [*]; done)), H', ⟨Nat.le_refl _⟩, ⟨rl (Kd.R_mono HO528.out (fun _ hk => by first | exact ⟨hk.1.1.1.2, ⟨hk.1.1.2, hk.1.2⟩⟩ | (simp only [ne_eq] at hk ⊢; simp only [hk, not_false_eq_true, and_self])))⟩, ⟨rl (Kd.R_mono HO517.out (fun _ hk => by first | exact ⟨hk.1.2, ⟨hk.1.1.1, hk.1.1.2⟩⟩ | (simp only [ne_eq] at hk ⊢; simp only [hk, not_false_eq_true, and_self])))⟩, ⟨rl (Kd.R_mono HO520.out (fun _ hk => by first | exact ⟨hk.1.2, ⟨hk.1.1.1, hk.1.1.2⟩⟩ | (simp only [ne_eq] at hk ⊢; simp only [hk, not_false_eq_true, and_self])))⟩, ⟨rl (Kd.R_mono HO523.out (fun _ hk => by first | exact ⟨hk.1.2, ⟨hk.1.1.1, hk.1.1.2⟩⟩ | (simp only [ne_eq] at hk ⊢; simp only [hk, not_false_eq_true, and_self])))⟩, ⟨kl BK525.out⟩, ⟨by exact bs1 GE525.out HB.out⟩⟩
    case round =>
     clear H'
     try clear c2
     try clear c2b0
     try clear c2b1
     try clear p2
     try clear c5
     try clear c7
     try clear c8
     try clear c8b0
     try clear c8b1
     try clear c8b2
     try clear c20
     try clear c21
     try clear c22
     try clear c23
     try clear hcz12_0
     try clear hcz12_1
     try clear hcz12_2
     try clear hcz16_0
     try clear hcz16_1
     try clear hcz16_2
     try clear hcz23_0
     try clear hcz23_1
     try clear hcz23_2
     try clear hcz27_0
     try clear hcz27_1
     try clear hcz27_2
     try clear hfz12_0
     try clear hfz12_1
     try clear hfz12_2
     try clear hfz16_0
     try clear hfz16_1
     try clear hfz16_2
     try clear hfz23_0
     try clear hfz23_1
     try clear hfz23_2
     try clear hfz27_0
     try clear hfz27_1
     try clear hfz27_2
     obtain ⟨x6_1, rfl, HA, HK1, HO_5, HO_526000, HO_526001, HO_526002, BK525, HB⟩ := hrel
     cases gk with
     | zero => exact absurd HA.out (by simp [laws_FnSourcesOf.l0])
     | succ k1 =>
      have H := HA.out
      clear HA
      simp only [laws_FnSourcesOf.l0] at H
      by_cases c31 : x6_1 < (t526.length : Int)
      ·rw [if_pos c31] at H
       have c31b0 : decide (x6_1 < (t526.length : Int)) = true := decide_eq_true c31
       clear c31
       by_cases c32 : 0 ≤ x6_1
       ·rw [if_pos c32] at H
        have c32b0 : decide (0 ≤ x6_1) = true := decide_eq_true c32
        clear c32
        by_cases c33 : 0 ≤ (rd t526 x6_1)
        ·rw [if_pos c33] at H
         have c33b0 : decide (0 ≤ (rd t526 x6_1)) = true := decide_eq_true c33
         clear c33
         by_cases c34 : (rd t526 x6_1) < (t515.length : Int)
         ·rw [if_pos c34] at H
          have c34b0 : decide ((rd t526 x6_1) < (t515.length : Int)) = true := decide_eq_true c34
          clear c34
          by_cases c35 : (rd t515 (rd t526 x6_1)) = t524
          ·rw [if_pos c35] at H
           have c35b0 : ((rd t515 (rd t526 x6_1)) == t524) = true := beq_iff_eq.mpr c35
           have c35b1 : ((rd t515 (rd t526 x6_1)) != t524) = false := bne_eq_false_iff_eq.mpr c35
           clear c35
           by_cases c36 : x6_1 > 0
           ·rw [if_pos c36] at H
            have c36b0 : decide (0 < x6_1) = true := decide_eq_true c36
            clear c36
            obtain ⟨ji37, hji37⟩ : ∃ j_ : Int, (wrap64 (x6_1 - 1)) = j_ := ⟨_, rfl⟩
            replace H : (if 0 ≤ (ji37) then (if (ji37) < (t526.length : Int) then (if (rd t526 x6_1) ≤ (rd t526 (ji37)) then (none) else (laws_FnSourcesOf.l0 k1 t524 t526 (wrap64 (x6_1 + 1)) t515 t518 t521)) else (none)) else (none)) = some r := by first | (rw [hji37] at H; exact H) | (simp only [hji37] at H ⊢; exact H)
            have hji37w : (IntKind.i64.wrap (x6_1 - 1)) = ji37 := (i64_w _).trans hji37
            by_cases c38 : 0 ≤ (ji37)
            ·rw [if_pos c38] at H
             have c38b0 : decide (0 ≤ (ji37)) = true := decide_eq_true c38
             clear c38
             by_cases c39 : (ji37) < (t526.length : Int)
             ·rw [if_pos c39] at H
              have c39b0 : decide ((ji37) < (t526.length : Int)) = true := decide_eq_true c39
              clear c39
              by_cases c40 : (rd t526 x6_1) ≤ (rd t526 (ji37))
              ·rw [if_pos c40] at H
               exact absurd H (by simp)
              ·rw [if_neg c40] at H
               have c40b0 : decide ((rd t526 x6_1) ≤ (rd t526 (ji37))) = false := decide_eq_false c40
               clear c40
               have H' := am H
               clear H
               try go_wp2
               replace HO_5 := am (Kd.R_drew HO_5.out)
               replace HO_526000 := am (Kd.R_drew HO_526000.out)
               replace HO_526001 := am (Kd.R_drew HO_526001.out)
               replace HO_526002 := am (Kd.R_drew HO_526002.out)
               replace BK525 := am (blk_drew BK525.out)
               replace HB := am (below_drew1 HB.out)
               have p533 : 0 ≤ (x6_1 : Int) := of_decide_eq_true (by first | (with_reducible assumption) | assumption)
               have q533 : x6_1 < (t526.length : Int) := of_decide_eq_true (by first | (with_reducible assumption) | assumption)
               obtain ⟨ad533, e533, hx533_0⟩ := Kd.at_int (Kd.R_reads' HO_5.out).2.2 x6_1 p533 q533
               cases e533
               replace p533 := eq_true p533
               replace q533 := eq_true q533
               have p534 : 0 ≤ ((rd t526 x6_1) : Int) := of_decide_eq_true (by first | (with_reducible assumption) | assumption)
               have q534 : (rd t526 x6_1) < (t515.length : Int) := of_decide_eq_true (by first | (with_reducible assumption) | assumption)
               obtain ⟨ad534, e534, hx534_0⟩ := Kd.at_int (Kd.R_reads' HO_526000.out).2.2 (rd t526 x6_1) p534 q534
               cases e534
               replace p534 := eq_true p534
               replace q534 := eq_true q534
               have p535 : 0 ≤ (x6_1 : Int) := of_decide_eq_true (by first | (with_reducible assumption) | assumption)
               have q535 : x6_1 < (t526.length : Int) := of_decide_eq_true (by first | (with_reducible assumption) | assumption)
               obtain ⟨ad535, e535, hx535_0⟩ := Kd.at_int (Kd.R_reads' HO_5.out).2.2 x6_1 p535 q535
               obtain rfl : ad533 = ad535 := (by injection e535)
               replace p535 := eq_true p535
               replace q535 := eq_true q535
               have p536 : 0 ≤ ((ji37) : Int) := of_decide_eq_true (by first | (with_reducible assumption) | assumption)
               have q536 : (ji37) < (t526.length : Int) := of_decide_eq_true (by first | (with_reducible assumption) | assumption)
               obtain ⟨ad536, e536, hx536_0⟩ := Kd.at_int (Kd.R_reads' HO_5.out).2.2 (ji37) p536 q536
               obtain rfl : ad533 = ad536 := (by injection e536)
               replace p536 := eq_true p536
               replace q536 := eq_true q536
               refine start_ (n := 38) (S := fun w' => w'.cell? ⟨gb525, 0, none⟩ = some (.slice (some ad534) t515.length co22) ∧ w'.cell? ⟨gb525, 1, none⟩ = some (.slice Ao24 t518.length co24) ∧ w'.cell? ⟨gb525, 2, none⟩ = some (.slice Ao25 t521.length co25) ∧ w'.cell? (ad533.add (x6_1).toNat) = some (.int .i64 (rd t526 x6_1)) ∧ w'.cell? (ad534.add ((rd t526 x6_1)).toNat) = some (.int .i64 (rd t515 (rd t526 x6_1))) ∧ w'.cell? (ad533.add (x6_1).toNat) = some (.int .i64 (rd t526 x6_1)) ∧ w'.cell? (ad533.add ((ji37)).toNat) = some (.int .i64 (rd t526 (ji37)))) (ds := []) #[false, false, false, false, false, false, false, false, false, false, false, false, false, false, false, false, false, false, false, false, false, false, false, false, false, false, false, false, false, false, false, false, false, false, false, false, false, false] (by kernel_rfl) rfl rfl ⟨(blk_cell BK525.out 0).trans rfl, (blk_cell BK525.out 1).trans rfl, (blk_cell BK525.out 2).trans rfl, hx533_0, hx534_0, hx535_0, hx536_0⟩ (fun hHeld => ?_); refine with_tabW laws_FnSourcesOf.tab12 laws_FnSourcesOf.bits12 (fun HT_ HW_ => ?_)
               generalize wr.drew = w41 at HO_5 HO_526000 HO_526001 HO_526002 BK525 HB hx533_0 hx534_0 hx535_0 hx536_0 hHeld ⊢
               refine pure_ (i := 0) (N := some 37) (v := ?_) (a' := ?_) #[true, false, false, false, false, false, false, false, false, false, false, false, false, false, false, false, false, false, false, false, false, false, false, false, false, false, false, false, false, false, false, false, false, false, false, false, false, false] rfl rfl (any_of HT_.out (by kernel_rfl)) (fun _ _ _ h => h) (Or.inl ⟨by rfl, ?_⟩) ?_ ?_
               rotate_left
               ·intro w'
                go_simp
                with_reducible rfl
               rotate_left
               ·simp only [Act.put, List.setIfInBounds_toArray, List.set_cons_zero, List.set_cons_succ, i64_w, i32_w]
                rfl
               refine pure_ (i := 2) (N := some 39) (v := ?_) (a' := ?_) #[true, false, true, false, false, false, false, false, false, false, false, false, false, false, false, false, false, false, false, false, false, false, false, false, false, false, false, false, false, false, false, false, false, false, false, false, false, false] rfl rfl (any_of HT_.out (by kernel_rfl)) (fun _ _ _ h => h) (Or.inl ⟨by rfl, ?_⟩) ?_ ?_
               rotate_left
               ·intro w'
                go_simp
                with_reducible rfl
               rotate_left
               ·simp only [Act.put, List.setIfInBounds_toArray, List.set_cons_zero, List.set_cons_succ, i64_w, i32_w]
                rfl
               refine pure_ (i := 3) (N := some 40) (v := ?_) (a' := ?_) #[true, false, true, true, false, false, false, false, false, false, false, false, false, false, false, false, false, false, false, false, false, false, false, false, false, false, false, false, false, false, false, false, false, false, false, false, false, false] rfl rfl (any_of HT_.out (by kernel_rfl)) (fun _ _ _ h => h) (Or.inl ⟨by rfl, ?_⟩) ?_ ?_
               rotate_left
               ·intro w'
                go_simp
                with_reducible rfl
               rotate_left
               ·simp only [Act.put, List.setIfInBounds_toArray, List.set_cons_zero, List.set_cons_succ, i64_w, i32_w]
                rfl
               refine pure_ (i := 4) (N := some 41) (v := ?_) (a' := ?_) #[true, false, true, true, true, false, false, false, false, false, false, false, false, false, false, false, false, false, false, false, false, false, false, false, false, false, false, false, false, false, false, false, false, false, false, false, false, false] rfl rfl (any_of HT_.out (by kernel_rfl)) (fun _ _ _ h => h) (Or.inl ⟨by rfl, ?_⟩) ?_ ?_
               rotate_left
               ·intro w'
                go_simp
                with_reducible rfl
               rotate_left
               ·simp only [Act.put, List.setIfInBounds_toArray, List.set_cons_zero, List.set_cons_succ, i64_w, i32_w]
                rfl
               refine pure_ (i := 8) (N := some 45) (v := ?_) (a' := ?_) #[true, false, true, true, true, false, false, false, true, false, false, false, false, false, false, false, false, false, false, false, false, false, false, false, false, false, false, false, false, false, false, false, false, false, false, false, false, false] rfl rfl (any_of HT_.out (by kernel_rfl)) (fun _ _ _ h => h) (Or.inl ⟨by rfl, ?_⟩) ?_ ?_
               rotate_left
               ·intro w'
                go_simp
                with_reducible rfl
               rotate_left
               ·simp only [Act.put, List.setIfInBounds_toArray, List.set_cons_zero, List.set_cons_succ, i64_w, i32_w]
                rfl
               refine take_ (i := 1) (N := some 38) (v := ?_) (a' := ?_) #[true, true, true, true, true, false, false, false, true, false, false, false, false, false, false, false, false, false, false, false, false, false, false, false, false, false, false, false, false, false, false, false, false, false, false, false, false, false] rfl rfl (take_ofW HT_.out HW_.out (by kernel_rfl)) (fun _ _ _ h => h) (Or.inl ⟨by rfl, ?_⟩) hHeld ?_ ?_
               rotate_left
               ·rintro w' ⟨s0, s1, s2, s3, s4, s5, s6⟩
                go_simp
                with_reducible rfl
               rotate_left
               ·simp only [Act.put, List.setIfInBounds_toArray, List.set_cons_zero, List.set_cons_succ, i64_w, i32_w]
                rfl
               refine take_ (i := 5) (N := some 42) (v := ?_) (a' := ?_) #[true, true, true, true, true, true, false, false, true, false, false, false, false, false, false, false, false, false, false, false, false, false, false, false, false, false, false, false, false, false, false, false, false, false, false, false, false, false] rfl rfl (take_ofW HT_.out HW_.out (by kernel_rfl)) (fun _ _ _ h => h) (Or.inl ⟨by rfl, ?_⟩) hHeld ?_ ?_
               rotate_left
               ·rintro w' ⟨s0, s1, s2, s3, s4, s5, s6⟩
                go_simp
                with_reducible rfl
               rotate_left
               ·simp only [Act.put, List.setIfInBounds_toArray, List.set_cons_zero, List.set_cons_succ, i64_w, i32_w]
                rfl
               refine pure_ (i := 6) (N := some 43) (v := ?_) (a' := ?_) #[true, true, true, true, true, true, true, false, true, false, false, false, false, false, false, false, false, false, false, false, false, false, false, false, false, false, false, false, false, false, false, false, false, false, false, false, false, false] rfl rfl (any_of HT_.out (by kernel_rfl)) (fun _ _ _ h => h) (Or.inl ⟨by rfl, ?_⟩) ?_ ?_
               rotate_left
               ·intro w'
                go_simp
                with_reducible rfl
               rotate_left
               ·simp only [Act.put, List.setIfInBounds_toArray, List.set_cons_zero, List.set_cons_succ, i64_w, i32_w]
                rfl
               refine take_ (i := 7) (N := some 44) (v := ?_) (a' := ?_) #[true, true, true, true, true, true, true, true, true, false, false, false, false, false, false, false, false, false, false, false, false, false, false, false, false, false, false, false, false, false, false, false, false, false, false, false, false, false] rfl rfl (take_ofW HT_.out HW_.out (by kernel_rfl)) (fun _ _ _ h => h) (Or.inl ⟨by rfl, ?_⟩) hHeld ?_ ?_
               rotate_left
               ·rintro w' ⟨s0, s1, s2, s3, s4, s5, s6⟩
                go_simp
                with_reducible rfl
               rotate_left
               ·simp only [Act.put, List.setIfInBounds_toArray, List.set_cons_zero, List.set_cons_succ, i64_w, i32_w]
                rfl
               refine pure_ (i := 9) (N := some 46) (v := ?_) (a' := ?_) #[true, true, true, true, true, true, true, true, true, true, false, false, false, false, false, false, false, false, false, false, false, false, false, false, false, false, false, false, false, false, false, false, false, false, false, false, false, false] rfl rfl (any_of HT_.out (by kernel_rfl)) (fun _ _ _ h => h) (Or.inl ⟨by rfl, ?_⟩) ?_ ?_
               rotate_left
               ·intro w'
                go_simp
                with_reducible rfl
               rotate_left
               ·simp only [Act.put, List.setIfInBounds_toArray, List.set_cons_zero, List.set_cons_succ, i64_w, i32_w]
                rfl
               refine pure_ (i := 10) (N := some 47) (v := ?_) (a' := ?_) #[true, true, true, true, true, true, true, true, true, true, true, false, false, false, false, false, false, false, false, false, false, false, false, false, false, false, false, false, false, false, false, false, false, false, false, false, false, false] rfl rfl (any_of HT_.out (by kernel_rfl)) (fun _ _ _ h => h) (Or.inl ⟨by rfl, ?_⟩) ?_ ?_
               rotate_left
               ·intro w'
                go_simp
                with_reducible rfl
               rotate_left
               ·simp only [Act.put, List.setIfInBounds_toArray, List.set_cons_zero, List.set_cons_succ, i64_w, i32_w]
                rfl
               refine pure_ (i := 11) (N := some 48) (v := undef) (a' := ?_) #[true, true, true, true, true, true, true, true, true, true, true, true, false, false, false, false, false, false, false, false, false, false, false, false, false, false, false, false, false, false, false, false, false, false, false, false, false, false] rfl rfl (any_of HT_.out (by kernel_rfl)) (fun _ _ _ h => h) (Or.inr ⟨by rfl, rfl⟩) ?_ ?_
               rotate_left
               ·simp only [Act.put, List.setIfInBounds_toArray, List.set_cons_zero, List.set_cons_succ, i64_w, i32_w]
                rfl
               refine pure_ (i := 12) (N := some 49) (v := undef) (a' := ?_) #[true, true, true, true, true, true, true, true, true, true, true, true, true, false, false, false, false, false, false, false, false, false, false, false, false, false, false, false, false, false, false, false, false, false, false, false, false, false] rfl rfl (any_of HT_.out (by kernel_rfl)) (fun _ _ _ h => h) (Or.inr ⟨by rfl, rfl⟩) ?_ ?_
               rotate_left
               ·simp only [Act.put, List.setIfInBounds_toArray, List.set_cons_zero, List.set_cons_succ, i64_w, i32_w]
                rfl
               refine pure_ (i := 13) (N := some 50) (v := undef) (a' := ?_) #[true, true, true, true, true, true, true, true, true, true, true, true, true, true, false, false, false, false, false, false, false, false, false, false, false, false, false, false, false, false, false, false, false, false, false, false, false, false] rfl rfl (any_of HT_.out (by kernel_rfl)) (fun _ _ _ h => h) (Or.inr ⟨by rfl, rfl⟩) ?_ ?_
               rotate_left
               ·simp only [Act.put, List.setIfInBounds_toArray, List.set_cons_zero, List.set_cons_succ, i64_w, i32_w]
                rfl
               refine pure_ (i := 14) (N := some 51) (v := undef) (a' := ?_) #[true, true, true, true, true, true, true, true, true, true, true, true, true, true, true, false, false, false, false, false, false, false, false, false, false, false, false, false, false, false, false, false, false, false, false, false, false, false] rfl rfl (any_of HT_.out (by kernel_rfl)) (fun _ _ _ h => h) (Or.inr ⟨by rfl, rfl⟩) ?_ ?_
               rotate_left
               ·simp only [Act.put, List.setIfInBounds_toArray, List.set_cons_zero, List.set_cons_succ, i64_w, i32_w]
                rfl
               refine pure_ (i := 15) (N := some 52) (v := undef) (a' := ?_) #[true, true, true, true, true, true, true, true, true, true, true, true, true, true, true, true, false, false, false, false, false, false, false, false, false, false, false, false, false, false, false, false, false, false, false, false, false, false] rfl rfl (any_of HT_.out (by kernel_rfl)) (fun _ _ _ h => h) (Or.inr ⟨by rfl, rfl⟩) ?_ ?_
               rotate_left
               ·simp only [Act.put, List.setIfInBounds_toArray, List.set_cons_zero, List.set_cons_succ, i64_w, i32_w]
                rfl
               refine pure_ (i := 16) (N := some 53) (v := undef) (a' := ?_) #[true, true, true, true, true, true, true, true, true, true, true, true, true, true, true, true, true, false, false, false, false, false, false, false, false, false, false, false, false, false, false, false, false, false, false, false, false, false] rfl rfl (any_of HT_.out (by kernel_rfl)) (fun _ _ _ h => h) (Or.inr ⟨by rfl, rfl⟩) ?_ ?_
               rotate_left
               ·simp only [Act.put, List.setIfInBounds_toArray, List.set_cons_zero, List.set_cons_succ, i64_w, i32_w]
                rfl
               refine pure_ (i := 17) (N := some 54) (v := undef) (a' := ?_) #[true, true, true, true, true, true, true, true, true, true, true, true, true, true, true, true, true, true, false, false, false, false, false, false, false, false, false, false, false, false, false, false, false, false, false, false, false, false] rfl rfl (any_of HT_.out (by kernel_rfl)) (fun _ _ _ h => h) (Or.inr ⟨by rfl, rfl⟩) ?_ ?_
               rotate_left
               ·simp only [Act.put, List.setIfInBounds_toArray, List.set_cons_zero, List.set_cons_succ, i64_w, i32_w]
                rfl
               refine pure_ (i := 18) (N := some 55) (v := undef) (a' := ?_) #[true, true, true, true, true, true, true, true, true, true, true, true, true, true, true, true, true, true, true, false, false, false, false, false, false, false, false, false, false, false, false, false, false, false, false, false, false, false] rfl rfl (any_of HT_.out (by kernel_rfl)) (fun _ _ _ h => h) (Or.inr ⟨by rfl, rfl⟩) ?_ ?_
               rotate_left
               ·simp only [Act.put, List.setIfInBounds_toArray, List.set_cons_zero, List.set_cons_succ, i64_w, i32_w]
                rfl
               refine pure_ (i := 19) (N := some 56) (v := undef) (a' := ?_) #[true, true, true, true, true, true, true, true, true, true, true, true, true, true, true, true, true, true, true, true, false, false, false, false, false, false, false, false, false, false, false, false, false, false, false, false, false, false] rfl rfl (any_of HT_.out (by kernel_rfl)) (fun _ _ _ h => h) (Or.inr ⟨by rfl, rfl⟩) ?_ ?_
               rotate_left
               ·simp only [Act.put, List.setIfInBounds_toArray, List.set_cons_zero, List.set_cons_succ, i64_w, i32_w]
                rfl
               refine pure_ (i := 20) (N := some 57) (v := undef) (a' := ?_) #[true, true, true, true, true, true, true, true, true, true, true, true, true, true, true, true, true, true, true, true, true, false, false, false, false, false, false, false, false, false, false, false, false, false, false, false, false, false] rfl rfl (any_of HT_.out (by kernel_rfl)) (fun _ _ _ h => h) (Or.inr ⟨by rfl, rfl⟩) ?_ ?_
               rotate_left
               ·simp only [Act.put, List.setIfInBounds_toArray, List.set_cons_zero, List.set_cons_succ, i64_w, i32_w]
                rfl
               refine pure_ (i := 21) (N := some 58) (v := ?_) (a' := ?_) #[true, true, true, true, true, true, true, true, true, true, true, true, true, true, true, true, true, true, true, true, true, true, false, false, false, false, false, false, false, false, false, false, false, false, false, false, false, false] rfl rfl (any_of HT_.out (by kernel_rfl)) (fun _ _ _ h => h) (Or.inl ⟨by rfl, ?_⟩) ?_ ?_
               rotate_left
               ·intro w'
                go_simp
                with_reducible rfl
               rotate_left
               ·simp only [Act.put, List.setIfInBounds_toArray, List.set_cons_zero, List.set_cons_succ, i64_w, i32_w]
                rfl
               refine pure_ (i := 22) (N := some 59) (v := ?_) (a' := ?_) #[true, true, true, true, true, true, true, true, true, true, true, true, true, true, true, true, true, true, true, true, true, true, true, false, false, false, false, false, false, false, false, false, false, false, false, false, false, false] rfl rfl (any_of HT_.out (by kernel_rfl)) (fun _ _ _ h => h) (Or.inl ⟨by rfl, ?_⟩) ?_ ?_
               rotate_left
               ·intro w'
                go_simp
                with_reducible rfl
               rotate_left
               ·simp only [Act.put, List.setIfInBounds_toArray, List.set_cons_zero, List.set_cons_succ, i64_w, i32_w]
                rfl
               refine pure_ (i := 23) (N := some 60) (v := ?_) (a' := ?_) #[true, true, true, true, true, true, true, true, true, true, true, true, true, true, true, true, true, true, true, true, true, true, true, true, false, false, false, false, false, false, false, false, false, false, false, false, false, false] rfl rfl (any_of HT_.out (by kernel_rfl)) (fun _ _ _ h => h) (Or.inl ⟨by rfl, ?_⟩) ?_ ?_
               rotate_left
               ·intro w'
                go_simp
                with_reducible rfl
               rotate_left
               ·simp only [Act.put, List.setIfInBounds_toArray, List.set_cons_zero, List.set_cons_succ, i64_w, i32_w]
                rfl
               refine pure_ (i := 24) (N := some 61) (v := ?_) (a' := ?_) #[true, true, true, true, true, true, true, true, true, true, true, true, true, true, true, true, true, true, true, true, true, true, true, true, true, false, false, false, false, false, false, false, false, false, false, false, false, false] rfl rfl (any_of HT_.out (by kernel_rfl)) (fun _ _ _ h => h) (Or.inl ⟨by rfl, ?_⟩) ?_ ?_
               rotate_left
               ·intro w'
                go_simp
                with_reducible rfl
               rotate_left
               ·simp only [Act.put, List.setIfInBounds_toArray, List.set_cons_zero, List.set_cons_succ, i64_w, i32_w]
                rfl
               refine pure_ (i := 25) (N := some 62) (v := ?_) (a' := ?_) #[true, true, true, true, true, true, true, true, true, true, true, true, true, true, true, true, true, true, true, true, true, true, true, true, true, true, false, false, false, false, false, false, false, false, false, false, false, false] rfl rfl (any_of HT_.out (by kernel_rfl)) (fun _ _ _ h => h) (Or.inl ⟨by rfl, ?_⟩) ?_ ?_
               rotate_left
               ·intro w'
                go_simp
                with_reducible rfl
               rotate_left
               ·simp only [Act.put, List.setIfInBounds_toArray, List.set_cons_zero, List.set_cons_succ, i64_w, i32_w]
                rfl
               refine pure_ (i := 26) (N := some 63) (v := ?_) (a' := ?_) #[true, true, true, true, true, true, true, true, true, true, true, true, true, true, true, true, true, true, true, true, true, true, true, true, true, true, true, false, false, false, false, false, false, false, false, false, false, false] rfl rfl (any_of HT_.out (by kernel_rfl)) (fun _ _ _ h => h) (Or.inl ⟨by rfl, ?_⟩) ?_ ?_
               rotate_left
               ·intro w'
                go_simp
                with_reducible rfl
               rotate_left
               ·simp only [Act.put, List.setIfInBounds_toArray, List.set_cons_zero, List.set_cons_succ, i64_w, i32_w]
                rfl
               refine pure_ (i := 27) (N := some 64) (v := ?_) (a' := ?_) #[true, true, true, true, true, true, true, true, true, true, true, true, true, true, true, true, true, true, true, true, true, true, true, true, true, true, true, true, false, false, false, false, false, false, false, false, false, false] rfl rfl (any_of HT_.out (by kernel_rfl)) (fun _ _ _ h => h) (Or.inl ⟨by rfl, ?_⟩) ?_ ?_
               rotate_left
               ·intro w'
                go_simp
                with_reducible rfl
               rotate_left
               ·simp only [Act.put, List.setIfInBounds_toArray, List.set_cons_zero, List.set_cons_succ, i64_w, i32_w]
                rfl
               refine pure_ (i := 28) (N := some 65) (v := ?_) (a' := ?_) #[true, true, true, true, true, true, true, true, true, true, true, true, true, true, true, true, true, true, true, true, true, true, true, true, true, true, true, true, true, false, false, false, false, false, false, false, false, false] rfl rfl (any_of HT_.out (by kernel_rfl)) (fun _ _ _ h => h) (Or.inl ⟨by rfl, ?_⟩) ?_ ?_
               rotate_left
               ·intro w'
                go_simp
                with_reducible rfl
               rotate_left
               ·simp only [Act.put, List.setIfInBounds_toArray, List.set_cons_zero, List.set_cons_succ, i64_w, i32_w]
                rfl
               refine pure_ (i := 30) (N := some 67) (v := ?_) (a' := ?_) #[true, true, true, true, true, true, true, true, true, true, true, true, true, true, true, true, true, true, true, true, true, true, true, true, true, true, true, true, true, false, true, false, false, false, false, false, false, false] rfl rfl (any_of HT_.out (by kernel_rfl)) (fun _ _ _ h => h) (Or.inl ⟨by rfl, ?_⟩) ?_ ?_
               rotate_left
               ·intro w'
                go_simp
                with_reducible rfl
               rotate_left
               ·simp only [Act.put, List.setIfInBounds_toArray, List.set_cons_zero, List.set_cons_succ, i64_w, i32_w]
                rfl
               refine pure_ (i := 31) (N := some 68) (v := ?_) (a' := ?_) #[true, true, true, true, true, true, true, true, true, true, true, true, true, true, true, true, true, true, true, true, true, true, true, true, true, true, true, true, true, false, true, true, false, false, false, false, false, false] rfl rfl (any_of HT_.out (by kernel_rfl)) (fun _ _ _ h => h) (Or.inl ⟨by rfl, ?_⟩) ?_ ?_
               rotate_left
               ·intro w'
                go_simp
                with_reducible rfl
               rotate_left
               ·simp only [Act.put, List.setIfInBounds_toArray, List.set_cons_zero, List.set_cons_succ, i64_w, i32_w]
                rfl
               refine pure_ (i := 32) (N := some 69) (v := ?_) (a' := ?_) #[true, true, true, true, true, true, true, true, true, true, true, true, true, true, true, true, true, true, true, true, true, true, true, true, true, true, true, true, true, false, true, true, true, false, false, false, false, false] rfl rfl (any_of HT_.out (by kernel_rfl)) (fun _ _ _ h => h) (Or.inl ⟨by rfl, ?_⟩) ?_ ?_
               rotate_left
               ·intro w'
                go_simp
                with_reducible rfl
               rotate_left
               ·simp only [Act.put, List.setIfInBounds_toArray, List.set_cons_zero, List.set_cons_succ, i64_w, i32_w]
                rfl
               refine pure_ (i := 33) (N := some 70) (v := ?_) (a' := ?_) #[true, true, true, true, true, true, true, true, true, true, true, true, true, true, true, true, true, true, true, true, true, true, true, true, true, true, true, true, true, false, true, true, true, true, false, false, false, false] rfl rfl (any_of HT_.out (by kernel_rfl)) (fun _ _ _ h => h) (Or.inl ⟨by rfl, ?_⟩) ?_ ?_
               rotate_left
               ·intro w'
                go_simp
                with_reducible rfl
               rotate_left
               ·simp only [Act.put, List.setIfInBounds_toArray, List.set_cons_zero, List.set_cons_succ, i64_w, i32_w]
                rfl
               refine take_ (i := 29) (N := some 66) (v := ?_) (a' := ?_) #[true, true, true, true, true, true, true, true, true, true, true, true, true, true, true, true, true, true, true, true, true, true, true, true, true, true, true, true, true, true, true, true, true, true, false, false, false, false] rfl rfl (take_ofW HT_.out HW_.out (by kernel_rfl)) (fun _ _ _ h => h) (Or.inl ⟨by rfl, ?_⟩) hHeld ?_ ?_
               rotate_left
               ·rintro w' ⟨s0, s1, s2, s3, s4, s5, s6⟩
                go_simp
                with_reducible rfl
               rotate_left
               ·simp only [Act.put, List.setIfInBounds_toArray, List.set_cons_zero, List.set_cons_succ, i64_w, i32_w]
                rfl
               refine take_ (i := 34) (N := some 71) (v := ?_) (a' := ?_) #[true, true, true, true, true, true, true, true, true, true, true, true, true, true, true, true, true, true, true, true, true, true, true, true, true, true, true, true, true, true, true, true, true, true, true, false, false, false] rfl rfl (take_ofW HT_.out HW_.out (by kernel_rfl)) (fun _ _ _ h => h) (Or.inl ⟨by rfl, ?_⟩) hHeld ?_ ?_
               rotate_left
               ·rintro w' ⟨s0, s1, s2, s3, s4, s5, s6⟩
                go_simp
                with_reducible rfl
               rotate_left
               ·simp only [Act.put, List.setIfInBounds_toArray, List.set_cons_zero, List.set_cons_succ, i64_w, i32_w]
                rfl
               refine pure_ (i := 35) (N := some 72) (v := ?_) (a' := ?_) #[true, true, true, true, true, true, true, true, true, true, true, true, true, true, true, true, true, true, true, true, true, true, true, true, true, true, true, true, true, true, true, true, true, true, true, true, false, false] rfl rfl (any_of HT_.out (by kernel_rfl)) (fun _ _ _ h => h) (Or.inl ⟨by rfl, ?_⟩) ?_ ?_
               rotate_left
               ·intro w'
                go_simp
                with_reducible rfl
               rotate_left
               ·simp only [Act.put, List.setIfInBounds_toArray, List.set_cons_zero, List.set_cons_succ, i64_w, i32_w]
                rfl
               refine pure_ (i := 36) (N := some 73) (v := ?_) (a' := ?_) #[true, true, true, true, true, true, true, true, true, true, true, true, true, true, true, true, true, true, true, true, true, true, true, true, true, true, true, true, true, true, true, true, true, true, true, true, true, false] rfl rfl (any_of HT_.out (by kernel_rfl)) (fun _ _ _ h => h) (Or.inl ⟨by rfl, ?_⟩) ?_ ?_
               rotate_left
               ·intro w'
                go_simp
                with_reducible rfl
               rotate_left
               ·simp only [Act.put, List.setIfInBounds_toArray, List.set_cons_zero, List.set_cons_succ, i64_w, i32_w]
                rfl
               refine pure_ (i := 37) (N := some 74) (v := ?_) (a' := ?_) #[true, true, true, true, true, true, true, true, true, true, true, true, true, true, true, true, true, true, true, true, true, true, true, true, true, true, true, true, true, true, true, true, true, true, true, true, true, true] rfl rfl (any_of HT_.out (by kernel_rfl)) (fun _ _ _ h => h) (Or.inl ⟨by rfl, ?_⟩) ?_ ?_
               rotate_left
               ·intro w'
                go_simp
                with_reducible rfl
               rotate_left
               ·simp only [Act.put, List.setIfInBounds_toArray, List.set_cons_zero, List.set_cons_succ, i64_w, i32_w]
                rfl
               refine done_ (done_of HT_.out (by kernel_rfl)) ?_
               try go_wp2
               go_roundg k1
               case measure => have := HK1.out; omega
               case rel => exact ⟨(wrap64 (x6_1 + 1)), (by first | rfl | (simp; done) | (simp [*]; done)), H', ⟨by have := HK1.out; omega⟩, ⟨rl HO_5.out⟩, ⟨rl HO_526000.out⟩, ⟨rl HO_526001.out⟩, ⟨rl HO_526002.out⟩, ⟨kl BK525.out⟩, ⟨by exact bs1 GE525.out HB.out⟩⟩
             ·rw [if_neg c39] at H
              exact absurd H (by simp)
            ·rw [if_neg c38] at H
             exact absurd H (by simp)
           ·rw [if_neg c36] at H
            have c36b0 : decide (0 < x6_1) = false := decide_eq_false c36
            clear c36
            have H' := am H
            clear H
            try go_wp2
            replace HO_5 := am (Kd.R_drew HO_5.out)
            replace HO_526000 := am (Kd.R_drew HO_526000.out)
            replace HO_526001 := am (Kd.R_drew HO_526001.out)
            replace HO_526002 := am (Kd.R_drew HO_526002.out)
            replace BK525 := am (blk_drew BK525.out)
            replace HB := am (below_drew1 HB.out)
            have p533 : 0 ≤ (x6_1 : Int) := of_decide_eq_true (by first | (with_reducible assumption) | assumption)
            have q533 : x6_1 < (t526.length : Int) := of_decide_eq_true (by first | (with_reducible assumption) | assumption)
            obtain ⟨ad533, e533, hx533_0⟩ := Kd.at_int (Kd.R_reads' HO_5.out).2.2 x6_1 p533 q533
            cases e533
            replace p533 := eq_true p533
            replace q533 := eq_true q533
            have p534 : 0 ≤ ((rd t526 x6_1) : Int) := of_decide_eq_true (by first | (with_reducible assumption) | assumption)
            have q534 : (rd t526 x6_1) < (t515.length : Int) := of_decide_eq_true (by first | (with_reducible assumption) | assumption)
            obtain ⟨ad534, e534, hx534_0⟩ := Kd.at_int (Kd.R_reads' HO_526000.out).2.2 (rd t526 x6_1) p534 q534
            cases e534
            replace p534 := eq_true p534
            replace q534 := eq_true q534
            refine start_ (n := 38) (S := fun w' => w'.cell? ⟨gb525, 0, none⟩ = some (.slice (some ad534) t515.length co22) ∧ w'.cell? ⟨gb525, 1, none⟩ = some (.slice Ao24 t518.length co24) ∧ w'.cell? ⟨gb525, 2, none⟩ = some (.slice Ao25 t521.length co25) ∧ w'.cell? (ad533.add (x6_1).toNat) = some (.int .i64 (rd t526 x6_1)) ∧ w'.cell? (ad534.add ((rd t526 x6_1)).toNat) = some (.int .i64 (rd t515 (rd t526 x6_1)))) (ds := []) #[false, false, false, false, false, false, false, false, false, false, false, false, false, false, false, false, false, false, false, false, false, false, false, false, false, false, false, false, false, false, false, false, false, false, false, false, false, false] (by kernel_rfl) rfl rfl ⟨(blk_cell BK525.out 0).trans rfl, (blk_cell BK525.out 1).trans rfl, (blk_cell BK525.out 2).trans rfl, hx533_0, hx534_0⟩ (fun hHeld => ?_); refine with_tabW laws_FnSourcesOf.tab12 laws_FnSourcesOf.bits12 (fun HT_ HW_ => ?_)
            generalize wr.drew = w42 at HO_5 HO_526000 HO_526001 HO_526002 BK525 HB hx533_0 hx534_0 hHeld ⊢
            refine pure_ (i := 0) (N := some 37) (v := ?_) (a' := ?_) #[true, false, false, false, false, false, false, false, false, false, false, false, false, false, false, false, false, false, false, false, false, false, false, false, false, false, false, false, false, false, false, false, false, false, false, false, false, false] rfl rfl (any_of HT_.out (by kernel_rfl)) (fun _ _ _ h => h) (Or.inl ⟨by rfl, ?_⟩) ?_ ?_
            rotate_left
            ·intro w'
             go_simp
             with_reducible rfl
            rotate_left
            ·simp only [Act.put, List.setIfInBounds_toArray, List.set_cons_zero, List.set_cons_succ, i64_w, i32_w]
             rfl
            refine pure_ (i := 2) (N := some 39) (v := ?_) (a' := ?_) #[true, false, true, false, false, false, false, false, false, false, false, false, false, false, false, false, false, false, false, false, false, false, false, false, false, false, false, false, false, false, false, false, false, false, false, false, false, false] rfl rfl (any_of HT_.out (by kernel_rfl)) (fun _ _ _ h => h) (Or.inl ⟨by rfl, ?_⟩) ?_ ?_
            rotate_left
            ·intro w'
             go_simp
             with_reducible rfl
            rotate_left
            ·simp only [Act.put, List.setIfInBounds_toArray, List.set_cons_zero, List.set_cons_succ, i64_w, i32_w]
             rfl
            refine pure_ (i := 3) (N := some 40) (v := ?_) (a' := ?_) #[true, false, true, true, false, false, false, false, false, false, false, false, false, false, false, false, false, false, false, false, false, false, false, false, false, false, false, false, false, false, false, false, false, false, false, false, false, false] rfl rfl (any_of HT_.out (by kernel_rfl)) (fun _ _ _ h => h) (Or.inl ⟨by rfl, ?_⟩) ?_ ?_
            rotate_left
            ·intro w'
             go_simp
             with_reducible rfl
            rotate_left
            ·simp only [Act.put, List.setIfInBounds_toArray, List.set_cons_zero, List.set_cons_succ, i64_w, i32_w]
             rfl
            refine pure_ (i := 4) (N := some 41) (v := ?_) (a' := ?_) #[true, false, true, true, true, false, false, false, false, false, false, false, false, false, false, false, false, false, false, false, false, false, false, false, false, false, false, false, false, false, false, false, false, false, false, false, false, false] rfl rfl (any_of HT_.out (by kernel_rfl)) (fun _ _ _ h => h) (Or.inl ⟨by rfl, ?_⟩) ?_ ?_
            rotate_left
            ·intro w'
             go_simp
             with_reducible rfl
            rotate_left
            ·simp only [Act.put, List.setIfInBounds_toArray, List.set_cons_zero, List.set_cons_succ, i64_w, i32_w]
             rfl
            refine pure_ (i := 8) (N := some 45) (v := ?_) (a' := ?_) #[true, false, true, true, true, false, false, false, true, false, false, false, false, false, false, false, false, false, false, false, false, false, false, false, false, false, false, false, false, false, false, false, false, false, false, false, false, false] rfl rfl (any_of HT_.out (by kernel_rfl)) (fun _ _ _ h => h) (Or.inl ⟨by rfl, ?_⟩) ?_ ?_
            rotate_left
            ·intro w'
             go_simp
             with_reducible rfl
            rotate_left
            ·simp only [Act.put, List.setIfInBounds_toArray, List.set_cons_zero, List.set_cons_succ, i64_w, i32_w]
             rfl
            refine take_ (i := 1) (N := some 38) (v := ?_) (a' := ?_) #[true, true, true, true, true, false, false, false, true, false, false, false, false, false, false, false, false, false, false, false, false, false, false, false, false, false, false, false, false, false, false, false, false, false, false, false, false, false] rfl rfl (take_ofW HT_.out HW_.out (by kernel_rfl)) (fun _ _ _ h => h) (Or.inl ⟨by rfl, ?_⟩) hHeld ?_ ?_
            rotate_left
            ·rintro w' ⟨s0, s1, s2, s3, s4⟩
             go_simp
             with_reducible rfl
            rotate_left
            ·simp only [Act.put, List.setIfInBounds_toArray, List.set_cons_zero, List.set_cons_succ, i64_w, i32_w]
             rfl
            refine take_ (i := 5) (N := some 42) (v := ?_) (a' := ?_) #[true, true, true, true, true, true, false, false, true, false, false, false, false, false, false, false, false, false, false, false, false, false, false, false, false, false, false, false, false, false, false, false, false, false, false, false, false, false] rfl rfl (take_ofW HT_.out HW_.out (by kernel_rfl)) (fun _ _ _ h => h) (Or.inl ⟨by rfl, ?_⟩) hHeld ?_ ?_
            rotate_left
            ·rintro w' ⟨s0, s1, s2, s3, s4⟩
             go_simp
             with_reducible rfl
            rotate_left
            ·simp only [Act.put, List.setIfInBounds_toArray, List.set_cons_zero, List.set_cons_succ, i64_w, i32_w]
             rfl
            refine pure_ (i := 6) (N := some 43) (v := ?_) (a' := ?_) #[true, true, true, true, true, true, true, false, true, false, false, false, false, false, false, false, false, false, false, false, false, false, false, false, false, false, false, false, false, false, false, false, false, false, false, false, false, false] rfl rfl (any_of HT_.out (by kernel_rfl)) (fun _ _ _ h => h) (Or.inl ⟨by rfl, ?_⟩) ?_ ?_
            rotate_left
            ·intro w'
             go_simp
             with_reducible rfl
            rotate_left
            ·simp only [Act.put, List.setIfInBounds_toArray, List.set_cons_zero, List.set_cons_succ, i64_w, i32_w]
             rfl
            refine take_ (i := 7) (N := some 44) (v := ?_) (a' := ?_) #[true, true, true, true, true, true, true, true, true, false, false, false, false, false, false, false, false, false, false, false, false, false, false, false, false, false, false, false, false, false, false, false, false, false, false, false, false, false] rfl rfl (take_ofW HT_.out HW_.out (by kernel_rfl)) (fun _ _ _ h => h) (Or.inl ⟨by rfl, ?_⟩) hHeld ?_ ?_
            rotate_left
            ·rintro w' ⟨s0, s1, s2, s3, s4⟩
             go_simp
             with_reducible rfl
            rotate_left
            ·simp only [Act.put, List.setIfInBounds_toArray, List.set_cons_zero, List.set_cons_succ, i64_w, i32_w]
             rfl
            refine pure_ (i := 9) (N := some 46) (v := ?_) (a' := ?_) #[true, true, true, true, true, true, true, true, true, true, false, false, false, false, false, false, false, false, false, false, false, false, false, false, false, false, false, false, false, false, false, false, false, false, false, false, false, false] rfl rfl (any_of HT_.out (by kernel_rfl)) (fun _ _ _ h => h) (Or.inl ⟨by rfl, ?_⟩) ?_ ?_
            rotate_left
            ·intro w'
             go_simp
             with_reducible rfl
            rotate_left
            ·simp only [Act.put, List.setIfInBounds_toArray, List.set_cons_zero, List.set_cons_succ, i64_w, i32_w]
             rfl
            refine pure_ (i := 10) (N := some 47) (v := ?_) (a' := ?_) #[true, true, true, true, true, true, true, true, true, true, true, false, false, false, false, false, false, false, false, false, false, false, false, false, false, false, false, false, false, false, false, false, false, false, false, false, false, false] rfl rfl (any_of HT_.out (by kernel_rfl)) (fun _ _ _ h => h) (Or.inl ⟨by rfl, ?_⟩) ?_ ?_
            rotate_left
            ·intro w'
             go_simp
             with_reducible rfl
            rotate_left
            ·simp only [Act.put, List.setIfInBounds_toArray, List.set_cons_zero, List.set_cons_succ, i64_w, i32_w]
             rfl
            refine pure_ (i := 11) (N := some 48) (v := undef) (a' := ?_) #[true, true, true, true, true, true, true, true, true, true, true, true, false, false, false, false, false, false, false, false, false, false, false, false, false, false, false, false, false, false, false, false, false, false, false, false, false, false] rfl rfl (any_of HT_.out (by kernel_rfl)) (fun _ _ _ h => h) (Or.inr ⟨by rfl, rfl⟩) ?_ ?_
            rotate_left
            ·simp only [Act.put, List.setIfInBounds_toArray, List.set_cons_zero, List.set_cons_succ, i64_w, i32_w]
             rfl
            refine pure_ (i := 12) (N := some 49) (v := undef) (a' := ?_) #[true, true, true, true, true, true, true, true, true, true, true, true, true, false, false, false, false, false, false, false, false, false, false, false, false, false, false, false, false, false, false, false, false, false, false, false, false, false] rfl rfl (any_of HT_.out (by kernel_rfl)) (fun _ _ _ h => h) (Or.inr ⟨by rfl, rfl⟩) ?_ ?_
            rotate_left
            ·simp only [Act.put, List.setIfInBounds_toArray, List.set_cons_zero, List.set_cons_succ, i64_w, i32_w]
             rfl
            refine pure_ (i := 13) (N := some 50) (v := undef) (a' := ?_) #[true, true, true, true, true, true, true, true, true, true, true, true, true, true, false, false, false, false, false, false, false, false, false, false, false, false, false, false, false, false, false, false, false, false, false, false, false, false] rfl rfl (any_of HT_.out (by kernel_rfl)) (fun _ _ _ h => h) (Or.inr ⟨by rfl, rfl⟩) ?_ ?_
            rotate_left
            ·simp only [Act.put, List.setIfInBounds_toArray, List.set_cons_zero, List.set_cons_succ, i64_w, i32_w]
             rfl
            refine pure_ (i := 14) (N := some 51) (v := undef) (a' := ?_) #[true, true, true, true, true, true, true, true, true, true, true, true, true, true, true, false, false, false, false, false, false, false, false, false, false, false, false, false, false, false, false, false, false, false, false, false, false, false] rfl rfl (any_of HT_.out (by kernel_rfl)) (fun _ _ _ h => h) (Or.inr ⟨by rfl, rfl⟩) ?_ ?_
            rotate_left
            ·simp only [Act.put, List.setIfInBounds_toArray, List.set_cons_zero, List.set_cons_succ, i64_w, i32_w]
             rfl
            refine pure_ (i := 15) (N := some 52) (v := undef) (a' := ?_) #[true, true, true, true, true, true, true, true, true, true, true, true, true, true, true, true, false, false, false, false, false, false, false, false, false, false, false, false, false, false, false, false, false, false, false, false, false, false] rfl rfl (any_of HT_.out (by kernel_rfl)) (fun _ _ _ h => h) (Or.inr ⟨by rfl, rfl⟩) ?_ ?_
            rotate_left
            ·simp only [Act.put, List.setIfInBounds_toArray, List.set_cons_zero, List.set_cons_succ, i64_w, i32_w]
             rfl
            refine pure_ (i := 16) (N := some 53) (v := undef) (a' := ?_) #[true, true, true, true, true, true, true, true, true, true, true, true, true, true, true, true, true, false, false, false, false, false, false, false, false, false, false, false, false, false, false, false, false, false, false, false, false, false] rfl rfl (any_of HT_.out (by kernel_rfl)) (fun _ _ _ h => h) (Or.inr ⟨by rfl, rfl⟩) ?_ ?_
            rotate_left
            ·simp only [Act.put, List.setIfInBounds_toArray, List.set_cons_zero, List.set_cons_succ, i64_w, i32_w]
             rfl
            refine pure_ (i := 17) (N := some 54) (v := undef) (a' := ?_) #[true, true, true, true, true, true, true, true, true, true, true, true, true, true, true, true, true, true, false, false, false, false, false, false, false, false, false, false, false, false, false, false, false, false, false, false, false, false] rfl rfl (any_of HT_.out (by kernel_rfl)) (fun _ _ _ h => h) (Or.inr ⟨by rfl, rfl⟩) ?_ ?_
            rotate_left
            ·simp only [Act.put, List.setIfInBounds_toArray, List.set_cons_zero, List.set_cons_succ, i64_w, i32_w]
             rfl
            refine pure_ (i := 18) (N := some 55) (v := undef) (a' := ?_) #[true, true, true, true, true, true, true, true, true, true, true, true, true, true, true, true, true, true, true, false, false, false, false, false, false, false, false, false, false, false, false, false, false, false, false, false, false, false] rfl rfl (any_of HT_.out (by kernel_rfl)) (fun _ _ _ h => h) (Or.inr ⟨by rfl, rfl⟩) ?_ ?_
            rotate_left
            ·simp only [Act.put, List.setIfInBounds_toArray, List.set_cons_zero, List.set_cons_succ, i64_w, i32_w]
             rfl
            refine pure_ (i := 19) (N := some 56) (v := undef) (a' := ?_) #[true, true, true, true, true, true, true, true, true, true, true, true, true, true, true, true, true, true, true, true, false, false, false, false, false, false, false, false, false, false, false, false, false, false, false, false, false, false] rfl rfl (any_of HT_.out (by kernel_rfl)) (fun _ _ _ h => h) (Or.inr ⟨by rfl, rfl⟩) ?_ ?_
            rotate_left
            ·simp only [Act.put, List.setIfInBounds_toArray, List.set_cons_zero, List.set_cons_succ, i64_w, i32_w]
             rfl
            refine pure_ (i := 20) (N := some 57) (v := undef) (a' := ?_) #[true, true, true, true, true, true, true, true, true, true, true, true, true, true, true, true, true, true, true, true, true, false, false, false, false, false, false, false, false, false, false, false, false, false, false, false, false, false] rfl rfl (any_of HT_.out (by kernel_rfl)) (fun _ _ _ h => h) (Or.inr ⟨by rfl, rfl⟩) ?_ ?_
            rotate_left
            ·simp only [Act.put, List.setIfInBounds_toArray, List.set_cons_zero, List.set_cons_succ, i64_w, i32_w]
             rfl
            refine pure_ (i := 21) (N := some 58) (v := ?_) (a' := ?_) #[true, true, true, true, true, true, true, true, true, true, true, true, true, true, true, true, true, true, true, true, true, true, false, false, false, false, false, false, false, false, false, false, false, false, false, false, false, false] rfl rfl (any_of HT_.out (by kernel_rfl)) (fun _ _ _ h => h) (Or.inl ⟨by rfl, ?_⟩) ?_ ?_
            rotate_left
            ·intro w'
             go_simp
             with_reducible rfl
            rotate_left
            ·simp only [Act.put, List.setIfInBounds_toArray, List.set_cons_zero, List.set_cons_succ, i64_w, i32_w]
             rfl
            refine pure_ (i := 22) (N := some 59) (v := ?_) (a' := ?_) #[true, true, true, true, true, true, true, true, true, true, true, true, true, true, true, true, true, true, true, true, true, true, true, false, false, false, false, false, false, false, false, false, false, false, false, false, false, false] rfl rfl (any_of HT_.out (by kernel_rfl)) (fun _ _ _ h => h) (Or.inl ⟨by rfl, ?_⟩) ?_ ?_
            rotate_left
            ·intro w'
             go_simp
             with_reducible rfl
            rotate_left
            ·simp only [Act.put, List.setIfInBounds_toArray, List.set_cons_zero, List.set_cons_succ, i64_w, i32_w]
             rfl
            refine pure_ (i := 23) (N := some 60) (v := ?_) (a' := ?_) #[true, true, true, true, true, true, true, true, true, true, true, true, true, true, true, true, true, true, true, true, true, true, true, true, false, false, false, false, false, false, false, false, false, false, false, false, false, false] rfl rfl (any_of HT_.out (by kernel_rfl)) (fun _ _ _ h => h) (Or.inl ⟨by rfl, ?_⟩) ?_ ?_
            rotate_left
            ·intro w'
             go_simp
             with_reducible rfl
            rotate_left
            ·simp only [Act.put, List.setIfInBounds_toArray, List.set_cons_zero, List.set_cons_succ, i64_w, i32_w]
             rfl
            refine pure_ (i := 24) (N := some 61) (v := ?_) (a' := ?_) #[true, true, true, true, true, true, true, true, true, true, true, true, true, true, true, true, true, true, true, true, true, true, true, true, true, false, false, false, false, false, false, false, false, false, false, false, false, false] rfl rfl (any_of HT_.out (by kernel_rfl)) (fun _ _ _ h => h) (Or.inl ⟨by rfl, ?_⟩) ?_ ?_
            rotate_left
            ·intro w'
             go_simp
             with_reducible rfl
            rotate_left
            ·simp only [Act.put, List.setIfInBounds_toArray, List.set_cons_zero, List.set_cons_succ, i64_w, i32_w]
             rfl
            refine pure_ (i := 25) (N := some 62) (v := ?_) (a' := ?_) #[true, true, true, true, true, true, true, true, true, true, true, true, true, true, true, true, true, true, true, true, true, true, true, true, true, true, false, false, false, false, false, false, false, false, false, false, false, false] rfl rfl (any_of HT_.out (by kernel_rfl)) (fun _ _ _ h => h) (Or.inl ⟨by rfl, ?_⟩) ?_ ?_
            rotate_left
            ·intro w'
             go_simp
             with_reducible rfl
            rotate_left
            ·simp only [Act.put, List.setIfInBounds_toArray, List.set_cons_zero, List.set_cons_succ, i64_w, i32_w]
             rfl
            refine pure_ (i := 26) (N := some 63) (v := undef) (a' := ?_) #[true, true, true, true, true, true, true, true, true, true, true, true, true, true, true, true, true, true, true, true, true, true, true, true, true, true, true, false, false, false, false, false, false, false, false, false, false, false] rfl rfl (any_of HT_.out (by kernel_rfl)) (fun _ _ _ h => h) (Or.inr ⟨by rfl, rfl⟩) ?_ ?_
            rotate_left
            ·simp only [Act.put, List.setIfInBounds_toArray, List.set_cons_zero, List.set_cons_succ, i64_w, i32_w]
             rfl
            refine pure_ (i := 27) (N := some 64) (v := undef) (a' := ?_) #[true, true, true, true, true, true, true, true, true, true, true, true, true, true, true, true, true, true, true, true, true, true, true, true, true, true, true, true, false, false, false, false, false, false, false, false, false, false] rfl rfl (any_of HT_.out (by kernel_rfl)) (fun _ _ _ h => h) (Or.inr ⟨by rfl, rfl⟩) ?_ ?_
            rotate_left
            ·simp only [Act.put, List.setIfInBounds_toArray, List.set_cons_zero, List.set_cons_succ, i64_w, i32_w]
             rfl
            refine pure_ (i := 28) (N := some 65) (v := undef) (a' := ?_) #[true, true, true, true, true, true, true, true, true, true, true, true, true, true, true, true, true, true, true, true, true, true, true, true, true, true, true, true, true, false, false, false, false, false, false, false, false, false] rfl rfl (any_of HT_.out (by kernel_rfl)) (fun _ _ _ h => h) (Or.inr ⟨by rfl, rfl⟩) ?_ ?_
            rotate_left
            ·simp only [Act.put, List.setIfInBounds_toArray, List.set_cons_zero, List.set_cons_succ, i64_w, i32_w]
             rfl
            refine pure_ (i := 29) (N := some 66) (v := undef) (a' := ?_) #[true, true, true, true, true, true, true, true, true, true, true, true, true, true, true, true, true, true, true, true, true, true, true, true, true, true, true, true, true, true, false, false, false, false, false, false, false, false] rfl rfl (any_of HT_.out (by kernel_rfl)) (fun _ _ _ h => h) (Or.inr ⟨by rfl, rfl⟩) ?_ ?_
            rotate_left
            ·simp only [Act.put, List.setIfInBounds_toArray, List.set_cons_zero, List.set_cons_succ, i64_w, i32_w]
             rfl
            refine pure_ (i := 30) (N := some 67) (v := undef) (a' := ?_) #[true, true, true, true, true, true, true, true, true, true, true, true, true, true, true, true, true, true, true, true, true, true, true, true, true, true, true, true, true, true, true, false, false, false, false, false, false, false] rfl rfl (any_of HT_.out (by kernel_rfl)) (fun _ _ _ h => h) (Or.inr ⟨by rfl, rfl⟩) ?_ ?_
            rotate_left
            ·simp only [Act.put, List.setIfInBounds_toArray, List.set_cons_zero, List.set_cons_succ, i64_w, i32_w]
             rfl
            refine pure_ (i := 31) (N := some 68) (v := undef) (a' := ?_) #[true, true, true, true, true, true, true, true, true, true, true, true, true, true, true, true, true, true, true, true, true, true, true, true, true, true, true, true, true, true, true, true, false, false, false, false, false, false] rfl rfl (any_of HT_.out (by kernel_rfl)) (fun _ _ _ h => h) (Or.inr ⟨by rfl, rfl⟩) ?_ ?_
            rotate_left
            ·simp only [Act.put, List.setIfInBounds_toArray, List.set_cons_zero, List.set_cons_succ, i64_w, i32_w]
             rfl
            refine pure_ (i := 32) (N := some 69) (v := undef) (a' := ?_) #[true, true, true, true, true, true, true, true, true, true, true, true, true, true, true, true, true, true, true, true, true, true, true, true, true, true, true, true, true, true, true, true, true, false, false, false, false, false] rfl rfl (any_of HT_.out (by kernel_rfl)) (fun _ _ _ h => h) (Or.inr ⟨by rfl, rfl⟩) ?_ ?_
            rotate_left
            ·simp only [Act.put, List.setIfInBounds_toArray, List.set_cons_zero, List.set_cons_succ, i64_w, i32_w]
             rfl
            refine pure_ (i := 33) (N := some 70) (v := undef) (a' := ?_) #[true, true, true, true, true, true, true, true, true, true, true, true, true, true, true, true, true, true, true, true, true, true, true, true, true, true, true, true, true, true, true, true, true, true, false, false, false, false] rfl rfl (any_of HT_.out (by kernel_rfl)) (fun _ _ _ h => h) (Or.inr ⟨by rfl, rfl⟩) ?_ ?_
            rotate_left
            ·simp only [Act.put, List.setIfInBounds_toArray, List.set_cons_zero, List.set_cons_succ, i64_w, i32_w]
             rfl
            refine pure_ (i := 34) (N := some 71) (v := undef) (a' := ?_) #[true, true, true, true, true, true, true, true, true, true, true, true, true, true, true, true, true, true, true, true, true, true, true, true, true, true, true, true, true, true, true, true, true, true, true, false, false, false] rfl rfl (any_of HT_.out (by kernel_rfl)) (fun _ _ _ h => h) (Or.inr ⟨by rfl, rfl⟩) ?_ ?_
            rotate_left
            ·simp only [Act.put, List.setIfInBounds_toArray, List.set_cons_zero, List.set_cons_succ, i64_w, i32_w]
             rfl
            refine pure_ (i := 35) (N := some 72) (v := undef) (a' := ?_) #[true, true, true, true, true, true, true, true, true, true, true, true, true, true, true, true, true, true, true, true, true, true, true, true, true, true, true, true, true, true, true, true, true, true, true, true, false, false] rfl rfl (any_of HT_.out (by kernel_rfl)) (fun _ _ _ h => h) (Or.inr ⟨by rfl, rfl⟩) ?_ ?_
            rotate_left
            ·simp only [Act.put, List.setIfInBounds_toArray, List.set_cons_zero, List.set_cons_succ, i64_w, i32_w]
             rfl
            refine pure_ (i := 36) (N := some 73) (v := ?_) (a' := ?_) #[true, true, true, true, true, true, true, true, true, true, true, true, true, true, true, true, true, true, true, true, true, true, true, true, true, true, true, true, true, true, true, true, true, true, true, true, true, false] rfl rfl (any_of HT_.out (by kernel_rfl)) (fun _ _ _ h => h) (Or.inl ⟨by rfl, ?_⟩) ?_ ?_
            rotate_left
            ·intro w'
             go_simp
             with_reducible rfl
            rotate_left
            ·simp only [Act.put, List.setIfInBounds_toArray, List.set_cons_zero, List.set_cons_succ, i64_w, i32_w]
             rfl
            refine pure_ (i := 37) (N := some 74) (v := ?_) (a' := ?_) #[true, true, true, true, true, true, true, true, true, true, true, true, true, true, true, true, true, true, true, true, true, true, true, true, true, true, true, true, true, true, true, true, true, true, true, true, true, true] rfl rfl (any_of HT_.out (by kernel_rfl)) (fun _ _ _ h => h) (Or.inl ⟨by rfl, ?_⟩) ?_ ?_
            rotate_left
            ·intro w'
             go_simp
             with_reducible rfl
            rotate_left
            ·simp only [Act.put, List.setIfInBounds_toArray, List.set_cons_zero, List.set_cons_succ, i64_w, i32_w]
             rfl
            refine done_ (done_of HT_.out (by kernel_rfl)) ?_
            try go_wp2
            go_roundg k1
            case measure => have := HK1.out; omega
            case rel => exact ⟨(wrap64 (x6_1 + 1)), (by first | rfl | (simp; done) | (simp [*]; done)), H', ⟨by have := HK1.out; omega⟩, ⟨rl HO_5.out⟩, ⟨rl HO_526000.out⟩, ⟨rl HO_526001.out⟩, ⟨rl HO_526002.out⟩, ⟨kl BK525.out⟩, ⟨by exact bs1 GE525.out HB.out⟩⟩
          ·rw [if_neg c35] at H
           have c35b0 : ((rd t515 (rd t526 x6_1)) == t524) = false := beq_eq_false_iff_ne.mpr c35
           have c35b1 : ((rd t515 (rd t526 x6_1)) != t524) = true := bne_iff_ne.mpr c35
           by_cases c43 : (rd t526 x6_1) < (t518.length : Int)
           ·rw [if_pos c43] at H
            have c43b0 : decide ((rd t526 x6_1) < (t518.length : Int)) = true := decide_eq_true c43
            clear c43
            by_cases c44 : (rd t518 (rd t526 x6_1)) = t524
            ·rw [if_pos c44] at H
             have c44b0 : ((rd t518 (rd t526 x6_1)) == t524) = true := beq_iff_eq.mpr c44
             have c44b1 : ((rd t518 (rd t526 x6_1)) != t524) = false := bne_eq_false_iff_eq.mpr c44
             clear c44
             by_cases c45 : x6_1 > 0
             ·rw [if_pos c45] at H
              have c45b0 : decide (0 < x6_1) = true := decide_eq_true c45
              clear c45
              obtain ⟨ji46, hji46⟩ : ∃ j_ : Int, (wrap64 (x6_1 - 1)) = j_ := ⟨_, rfl⟩
              replace H : (if 0 ≤ (ji46) then (if (ji46) < (t526.length : Int) then (if (rd t526 x6_1) ≤ (rd t526 (ji46)) then (none) else (laws_FnSourcesOf.l0 k1 t524 t526 (wrap64 (x6_1 + 1)) t515 t518 t521)) else (none)) else (none)) = some r := by first | (rw [hji46] at H; exact H) | (simp only [hji46] at H ⊢; exact H)
              have hji46w : (IntKind.i64.wrap (x6_1 - 1)) = ji46 := (i64_w _).trans hji46
              by_cases c47 : 0 ≤ (ji46)
              ·rw [if_pos c47] at H
               have c47b0 : decide (0 ≤ (ji46)) = true := decide_eq_true c47
               clear c47
               by_cases c48 : (ji46) < (t526.length : Int)
               ·rw [if_pos c48] at H
                have c48b0 : decide ((ji46) < (t526.length : Int)) = true := decide_eq_true c48
                clear c48
                by_cases c49 : (rd t526 x6_1) ≤ (rd t526 (ji46))
                ·rw [if_pos c49] at H
                 exact absurd H (by simp)
                ·rw [if_neg c49] at H
                 have c49b0 : decide ((rd t526 x6_1) ≤ (rd t526 (ji46))) = false := decide_eq_false c49
                 clear c49
                 have H' := am H
                 clear H
                 try go_wp2
                 replace HO_5 := am (Kd.R_drew HO_5.out)
                 replace HO_526000 := am (Kd.R_drew HO_526000.out)
                 replace HO_526001 := am (Kd.R_drew HO_526001.out)
                 replace HO_526002 := am (Kd.R_drew HO_526002.out)
                 replace BK525 := am (blk_drew BK525.out)
                 replace HB := am (below_drew1 HB.out)
                 have p533 : 0 ≤ (x6_1 : Int) := of_decide_eq_true (by first | (with_reducible assumption) | assumption)
                 have q533 : x6_1 < (t526.length : Int) := of_decide_eq_true (by first | (with_reducible assumption) | assumption)
                 obtain ⟨ad533, e533, hx533_0⟩ := Kd.at_int (Kd.R_reads' HO_5.out).2.2 x6_1 p533 q533
                 cases e533
                 replace p533 := eq_true p533
                 replace q533 := eq_true q533
                 have p534 : 0 ≤ ((rd t526 x6_1) : Int) := of_decide_eq_true (by first | (with_reducible assumption) | assumption)
                 have q534 : (rd t526 x6_1) < (t515.length : Int) := of_decide_eq_true (by first | (with_reducible assumption) | assumption)
                 obtain ⟨ad534, e534, hx534_0⟩ := Kd.at_int (Kd.R_reads' HO_526000.out).2.2 (rd t526 x6_1) p534 q534
                 cases e534
                 replace p534 := eq_true p534
                 replace q534 := eq_true q534
                 have p537 : 0 ≤ (x6_1 : Int) := of_decide_eq_true (by first | (with_reducible assumption) | assumption)
                 have q537 : x6_1 < (t526.length : Int) := of_decide_eq_true (by first | (with_reducible assumption) | assumption)
                 obtain ⟨ad537, e537, hx537_0⟩ := Kd.at_int (Kd.R_reads' HO_5.out).2.2 x6_1 p537 q537
                 obtain rfl : ad533 = ad537 := (by injection e537)
                 replace p537 := eq_true p537
                 replace q537 := eq_true q537
                 have p538 : 0 ≤ ((rd t526 x6_1) : Int) := of_decide_eq_true (by first | (with_reducible assumption) | assumption)
                 have q538 : (rd t526 x6_1) < (t518.length : Int) := of_decide_eq_true (by first | (with_reducible assumption) | assumption)
                 obtain ⟨ad538, e538, hx538_0⟩ := Kd.at_int (Kd.R_reads' HO_526001.out).2.2 (rd t526 x6_1) p538 q538
                 cases e538
                 replace p538 := eq_true p538
                 replace q538 := eq_true q538
                 have p539 : 0 ≤ (x6_1 : Int) := of_decide_eq_true (by first | (with_reducible assumption) | assumption)
                 have q539 : x6_1 < (t526.length : Int) := of_decide_eq_true (by first | (with_reducible assumption) | assumption)
                 obtain ⟨ad539, e539, hx539_0⟩ := Kd.at_int (Kd.R_reads' HO_5.out).2.2 x6_1 p539 q539
                 obtain rfl : ad533 = ad539 := (by injection e539)
                 replace p539 := eq_true p539
                 replace q539 := eq_true q539
                 have p540 : 0 ≤ ((ji46) : Int) := of_decide_eq_true (by first | (with_reducible assumption) | assumption)
                 have q540 : (ji46) < (t526.length : Int) := of_decide_eq_true (by first | (with_reducible assumption) | assumption)
                 obtain ⟨ad540, e540, hx540_0⟩ := Kd.at_int (Kd.R_reads' HO_5.out).2.2 (ji46) p540 q540
                 obtain rfl : ad533 = ad540 := (by injection e540)
                 replace p540 := eq_true p540
                 replace q540 := eq_true q540
                 refine start_ (n := 38) (S := fun w' => w'.cell? ⟨gb525, 0, none⟩ = some (.slice (some ad534) t515.length co22) ∧ w'.cell? ⟨gb525, 1, none⟩ = some (.slice (some ad538) t518.length co24) ∧ w'.cell? ⟨gb525, 2, none⟩ = some (.slice Ao25 t521.length co25) ∧ w'.cell? (ad533.add (x6_1).toNat) = some (.int .i64 (rd t526 x6_1)) ∧ w'.cell? (ad534.add ((rd t526 x6_1)).toNat) = some (.int .i64 (rd t515 (rd t526 x6_1))) ∧ w'.cell? (ad533.add (x6_1).toNat) = some (.int .i64 (rd t526 x6_1)) ∧ w'.cell? (ad538.add ((rd t526 x6_1)).toNat) = some (.int .i64 (rd t518 (rd t526 x6_1))) ∧ w'.cell? (ad533.add (x6_1).toNat) = some (.int .i64 (rd t526 x6_1)) ∧ w'.cell? (ad533.add ((ji46)).toNat) = some (.int .i64 (rd t526 (ji46)))) (ds := []) #[false, false, false, false, false, false, false, false, false, false, false, false, false, false, false, false, false, false, false, false, false, false, false, false, false, false, false, false, false, false, false, false, false, false, false, false, false, false] (by kernel_rfl) rfl rfl ⟨(blk_cell BK525.out 0).trans rfl, (blk_cell BK525.out 1).trans rfl, (blk_cell BK525.out 2).trans rfl, hx533_0, hx534_0, hx537_0, hx538_0, hx539_0, hx540_0⟩ (fun hHeld => ?_); refine with_tabW laws_FnSourcesOf.tab12 laws_FnSourcesOf.bits12 (fun HT_ HW_ => ?_)
                 generalize wr.drew = w50 at HO_5 HO_526000 HO_526001 HO_526002 BK525 HB hx533_0 hx534_0 hx537_0 hx538_0 hx539_0 hx540_0 hHeld ⊢
                 refine pure_ (i := 0) (N := some 37) (v := ?_) (a' := ?_) #[true, false, false, false, false, false, false, false, false, false, false, false, false, false, false, false, false, false, false, false, false, false, false, false, false, false, false, false, false, false, false, false, false, false, false, false, false, false] rfl rfl (any_of HT_.out (by kernel_rfl)) (fun _ _ _ h => h) (Or.inl ⟨by rfl, ?_⟩) ?_ ?_
                 rotate_left
                 ·intro w'
                  go_simp
                  with_reducible rfl
                 rotate_left
                 ·simp only [Act.put, List.setIfInBounds_toArray, List.set_cons_zero, List.set_cons_succ, i64_w, i32_w]
                  rfl
                 refine pure_ (i := 2) (N := some 39) (v := ?_) (a' := ?_) #[true, false, true, false, false, false, false, false, false, false, false, false, false, false, false, false, false, false, false, false, false, false, false, false, false, false, false, false, false, false, false, false, false, false, false, false, false, false] rfl rfl (any_of HT_.out (by kernel_rfl)) (fun _ _ _ h => h) (Or.inl ⟨by rfl, ?_⟩) ?_ ?_
                 rotate_left
                 ·intro w'
                  go_simp
                  with_reducible rfl
                 rotate_left
                 ·simp only [Act.put, List.setIfInBounds_toArray, List.set_cons_zero, List.set_cons_succ, i64_w, i32_w]
                  rfl
                 refine pure_ (i := 3) (N := some 40) (v := ?_) (a' := ?_) #[true, false, true, true, false, false, false, false, false, false, false, false, false, false, false, false, false, false, false, false, false, false, false, false, false, false, false, false, false, false, false, false, false, false, false, false, false, false] rfl rfl (any_of HT_.out (by kernel_rfl)) (fun _ _ _ h => h) (Or.inl ⟨by rfl, ?_⟩) ?_ ?_
                 rotate_left
                 ·intro w'
                  go_simp
                  with_reducible rfl
                 rotate_left
                 ·simp only [Act.put, List.setIfInBounds_toArray, List.set_cons_zero, List.set_cons_succ, i64_w, i32_w]
                  rfl
                 refine pure_ (i := 4) (N := some 41) (v := ?_) (a' := ?_) #[true, false, true, true, true, false, false, false, false, false, false, false, false, false, false, false, false, false, false, false, false, false, false, false, false, false, false, false, false, false, false, false, false, false, false, false, false, false] rfl rfl (any_of HT_.out (by kernel_rfl)) (fun _ _ _ h => h) (Or.inl ⟨by rfl, ?_⟩) ?_ ?_
                 rotate_left
                 ·intro w'
                  go_simp
                  with_reducible rfl
                 rotate_left
                 ·simp only [Act.put, List.setIfInBounds_toArray, List.set_cons_zero, List.set_cons_succ, i64_w, i32_w]
                  rfl
                 refine pure_ (i := 8) (N := some 45) (v := ?_) (a' := ?_) #[true, false, true, true, true, false, false, false, true, false, false, false, false, false, false, false, false, false, false, false, false, false, false, false, false, false, false, false, false, false, false, false, false, false, false, false, false, false] rfl rfl (any_of HT_.out (by kernel_rfl)) (fun _ _ _ h => h) (Or.inl ⟨by rfl, ?_⟩) ?_ ?_
                 rotate_left
                 ·intro w'
                  go_simp
                  with_reducible rfl
                 rotate_left
                 ·simp only [Act.put, List.setIfInBounds_toArray, List.set_cons_zero, List.set_cons_succ, i64_w, i32_w]
                  rfl
                 refine take_ (i := 1) (N := some 38) (v := ?_) (a' := ?_) #[true, true, true, true, true, false, false, false, true, false, false, false, false, false, false, false, false, false, false, false, false, false, false, false, false, false, false, false, false, false, false, false, false, false, false, false, false, false] rfl rfl (take_ofW HT_.out HW_.out (by kernel_rfl)) (fun _ _ _ h => h) (Or.inl ⟨by rfl, ?_⟩) hHeld ?_ ?_
                 rotate_left
                 ·rintro w' ⟨s0, s1, s2, s3, s4, s5, s6, s7, s8⟩
                  go_simp
                  with_reducible rfl
                 rotate_left
                 ·simp only [Act.put, List.setIfInBounds_toArray, List.set_cons_zero, List.set_cons_succ, i64_w, i32_w]
                  rfl
                 refine take_ (i := 5) (N := some 42) (v := ?_) (a' := ?_) #[true, true, true, true, true, true, false, false, true, false, false, false, false, false, false, false, false, false, false, false, false, false, false, false, false, false, false, false, false, false, false, false, false, false, false, false, false, false] rfl rfl (take_ofW HT_.out HW_.out (by kernel_rfl)) (fun _ _ _ h => h) (Or.inl ⟨by rfl, ?_⟩) hHeld ?_ ?_
                 rotate_left
                 ·rintro w' ⟨s0, s1, s2, s3, s4, s5, s6, s7, s8⟩
                  go_simp
                  with_reducible rfl
                 rotate_left
                 ·simp only [Act.put, List.setIfInBounds_toArray, List.set_cons_zero, List.set_cons_succ, i64_w, i32_w]
                  rfl
                 refine pure_ (i := 6) (N := some 43) (v := ?_) (a' := ?_) #[true, true, true, true, true, true, true, false, true, false, false, false, false, false, false, false, false, false, false, false, false, false, false, false, false, false, false, false, false, false, false, false, false, false, false, false, false, false] rfl rfl (any_of HT_.out (by kernel_rfl)) (fun _ _ _ h => h) (Or.inl ⟨by rfl, ?_⟩) ?_ ?_
                 rotate_left
                 ·intro w'
                  go_simp
                  with_reducible rfl
                 rotate_left
                 ·simp only [Act.put, List.setIfInBounds_toArray, List.set_cons_zero, List.set_cons_succ, i64_w, i32_w]
                  rfl
                 refine take_ (i := 7) (N := some 44) (v := ?_) (a' := ?_) #[true, true, true, true, true, true, true, true, true, false, false, false, false, false, false, false, false, false, false, false, false, false, false, false, false, false, false, false, false, false, false, false, false, false, false, false, false, false] rfl rfl (take_ofW HT_.out HW_.out (by kernel_rfl)) (fun _ _ _ h => h) (Or.inl ⟨by rfl, ?_⟩) hHeld ?_ ?_
                 rotate_left
                 ·rintro w' ⟨s0, s1, s2, s3, s4, s5, s6, s7, s8⟩
                  go_simp
                  with_reducible rfl
                 rotate_left
                 ·simp only [Act.put, List.setIfInBounds_toArray, List.set_cons_zero, List.set_cons_succ, i64_w, i32_w]
                  rfl
                 refine pure_ (i := 9) (N := some 46) (v := ?_) (a' := ?_) #[true, true, true, true, true, true, true, true, true, true, false, false, false, false, false, false, false, false, false, false, false, false, false, false, false, false, false, false, false, false, false, false, false, false, false, false, false, false] rfl rfl (any_of HT_.out (by kernel_rfl)) (fun _ _ _ h => h) (Or.inl ⟨by rfl, ?_⟩) ?_ ?_
                 rotate_left
                 ·intro w'
                  go_simp
                  with_reducible rfl
                 rotate_left
                 ·simp only [Act.put, List.setIfInBounds_toArray, List.set_cons_zero, List.set_cons_succ, i64_w, i32_w]
                  rfl
                 refine pure_ (i := 10) (N := some 47) (v := ?_) (a' := ?_) #[true, true, true, true, true, true, true, true, true, true, true, false, false, false, false, false, false, false, false, false, false, false, false, false, false, false, false, false, false, false, false, false, false, false, false, false, false, false] rfl rfl (any_of HT_.out (by kernel_rfl)) (fun _ _ _ h => h) (Or.inl ⟨by rfl, ?_⟩) ?_ ?_
                 rotate_left
                 ·intro w'
                  go_simp
                  with_reducible rfl
                 rotate_left
                 ·simp only [Act.put, List.setIfInBounds_toArray, List.set_cons_zero, List.set_cons_succ, i64_w, i32_w]
                  rfl
                 refine pure_ (i := 11) (N := some 48) (v := ?_) (a' := ?_) #[true, true, true, true, true, true, true, true, true, true, true, true, false, false, false, false, false, false, false, false, false, false, false, false, false, false, false, false, false, false, false, false, false, false, false, false, false, false] rfl rfl (any_of HT_.out (by kernel_rfl)) (fun _ _ _ h => h) (Or.inl ⟨by rfl, ?_⟩) ?_ ?_
                 rotate_left
                 ·intro w'
                  go_simp
                  with_reducible rfl
                 rotate_left
                 ·simp only [Act.put, List.setIfInBounds_toArray, List.set_cons_zero, List.set_cons_succ, i64_w, i32_w]
                  rfl
                 refine pure_ (i := 13) (N := some 50) (v := ?_) (a' := ?_) #[true, true, true, true, true, true, true, true, true, true, true, true, false, true, false, false, false, false, false, false, false, false, false, false, false, false, false, false, false, false, false, false, false, false, false, false, false, false] rfl rfl (any_of HT_.out (by kernel_rfl)) (fun _ _ _ h => h) (Or.inl ⟨by rfl, ?_⟩) ?_ ?_
                 rotate_left
                 ·intro w'
                  go_simp
                  with_reducible rfl
                 rotate_left
                 ·simp only [Act.put, List.setIfInBounds_toArray, List.set_cons_zero, List.set_cons_succ, i64_w, i32_w]
                  rfl
                 refine pure_ (i := 14) (N := some 51) (v := ?_) (a' := ?_) #[true, true, true, true, true, true, true, true, true, true, true, true, false, true, true, false, false, false, false, false, false, false, false, false, false, false, false, false, false, false, false, false, false, false, false, false, false, false] rfl rfl (any_of HT_.out (by kernel_rfl)) (fun _ _ _ h => h) (Or.inl ⟨by rfl, ?_⟩) ?_ ?_
                 rotate_left
                 ·intro w'
                  go_simp
                  with_reducible rfl
                 rotate_left
                 ·simp only [Act.put, List.setIfInBounds_toArray, List.set_cons_zero, List.set_cons_succ, i64_w, i32_w]
                  rfl
                 refine pure_ (i := 15) (N := some 52) (v := ?_) (a' := ?_) #[true, true, true, true, true, true, true, true, true, true, true, true, false, true, true, true, false, false, false, false, false, false, false, false, false, false, false, false, false, false, false, false, false, false, false, false, false, false] rfl rfl (any_of HT_.out (by kernel_rfl)) (fun _ _ _ h => h) (Or.inl ⟨by rfl, ?_⟩) ?_ ?_
                 rotate_left
                 ·intro w'
                  go_simp
                  with_reducible rfl
                 rotate_left
                 ·simp only [Act.put, List.setIfInBounds_toArray, List.set_cons_zero, List.set_cons_succ, i64_w, i32_w]
                  rfl
                 refine pure_ (i := 19) (N := some 56) (v := ?_) (a' := ?_) #[true, true, true, true, true, true, true, true, true, true, true, true, false, true, true, true, false, false, false, true, false, false, false, false, false, false, false, false, false, false, false, false, false, false, false, false, false, false] rfl rfl (any_of HT_.out (by kernel_rfl)) (fun _ _ _ h => h) (Or.inl ⟨by rfl, ?_⟩) ?_ ?_
                 rotate_left
                 ·intro w'
                  go_simp
                  with_reducible rfl
                 rotate_left
                 ·simp only [Act.put, List.setIfInBounds_toArray, List.set_cons_zero, List.set_cons_succ, i64_w, i32_w]
                  rfl
                 refine take_ (i := 12) (N := some 49) (v := ?_) (a' := ?_) #[true, true, true, true, true, true, true, true, true, true, true, true, true, true, true, true, false, false, false, true, false, false, false, false, false, false, false, false, false, false, false, false, false, false, false, false, false, false] rfl rfl (take_ofW HT_.out HW_.out (by kernel_rfl)) (fun _ _ _ h => h) (Or.inl ⟨by rfl, ?_⟩) hHeld ?_ ?_
                 rotate_left
                 ·rintro w' ⟨s0, s1, s2, s3, s4, s5, s6, s7, s8⟩
                  go_simp
                  with_reducible rfl
                 rotate_left
                 ·simp only [Act.put, List.setIfInBounds_toArray, List.set_cons_zero, List.set_cons_succ, i64_w, i32_w]
                  rfl
                 refine take_ (i := 16) (N := some 53) (v := ?_) (a' := ?_) #[true, true, true, true, true, true, true, true, true, true, true, true, true, true, true, true, true, false, false, true, false, false, false, false, false, false, false, false, false, false, false, false, false, false, false, false, false, false] rfl rfl (take_ofW HT_.out HW_.out (by kernel_rfl)) (fun _ _ _ h => h) (Or.inl ⟨by rfl, ?_⟩) hHeld ?_ ?_
                 rotate_left
                 ·rintro w' ⟨s0, s1, s2, s3, s4, s5, s6, s7, s8⟩
                  go_simp
                  with_reducible rfl
                 rotate_left
                 ·simp only [Act.put, List.setIfInBounds_toArray, List.set_cons_zero, List.set_cons_succ, i64_w, i32_w]
                  rfl
                 refine pure_ (i := 17) (N := some 54) (v := ?_) (a' := ?_) #[true, true, true, true, true, true, true, true, true, true, true, true, true, true, true, true, true, true, false, true, false, false, false, false, false, false, false, false, false, false, false, false, false, false, false, false, false, false] rfl rfl (any_of HT_.out (by kernel_rfl)) (fun _ _ _ h => h) (Or.inl ⟨by rfl, ?_⟩) ?_ ?_
                 rotate_left
                 ·intro w'
                  go_simp
                  with_reducible rfl
                 rotate_left
                 ·simp only [Act.put, List.setIfInBounds_toArray, List.set_cons_zero, List.set_cons_succ, i64_w, i32_w]
                  rfl
                 refine take_ (i := 18) (N := some 55) (v := ?_) (a' := ?_) #[true, true, true, true, true, true, true, true, true, true, true, true, true, true, true, true, true, true, true, true, false, false, false, false, false, false, false, false, false, false, false, false, false, false, false, false, false, false] rfl rfl (take_ofW HT_.out HW_.out (by kernel_rfl)) (fun _ _ _ h => h) (Or.inl ⟨by rfl, ?_⟩) hHeld ?_ ?_
                 rotate_left
                 ·rintro w' ⟨s0, s1, s2, s3, s4, s5, s6, s7, s8⟩
                  go_simp
                  with_reducible rfl
                 rotate_left
                 ·simp only [Act.put, List.setIfInBounds_toArray, List.set_cons_zero, List.set_cons_succ, i64_w, i32_w]
                  rfl
                 refine pure_ (i := 20) (N := some 57) (v := ?_) (a' := ?_) #[true, true, true, true, true, true, true, true, true, true, true, true, true, true, true, true, true, true, true, true, true, false, false, false, false, false, false, false, false, false, false, false, false, false, false, false, false, false] rfl rfl (any_of HT_.out (by kernel_rfl)) (fun _ _ _ h => h) (Or.inl ⟨by rfl, ?_⟩) ?_ ?_
                 rotate_left
                 ·intro w'
                  go_simp
                  with_reducible rfl
                 rotate_left
                 ·simp only [Act.put, List.setIfInBounds_toArray, List.set_cons_zero, List.set_cons_succ, i64_w, i32_w]
                  rfl
                 refine pure_ (i := 21) (N := some 58) (v := ?_) (a' := ?_) #[true, true, true, true, true, true, true, true, true, true, true, true, true, true, true, true, true, true, true, true, true, true, false, false, false, false, false, false, false, false, false, false, false, false, false, false, false, false] rfl rfl (any_of HT_.out (by kernel_rfl)) (fun _ _ _ h => h) (Or.inl ⟨by rfl, ?_⟩) ?_ ?_
                 rotate_left
                 ·intro w'
                  go_simp
                  with_reducible rfl
                 rotate_left
                 ·simp only [Act.put, List.setIfInBounds_toArray, List.set_cons_zero, List.set_cons_succ, i64_w, i32_w]
                  rfl
                 refine pure_ (i := 22) (N := some 59) (v := ?_) (a' := ?_) #[true, true, true, true, true, true, true, true, true, true, true, true, true, true, true, true, true, true, true, true, true, true, true, false, false, false, false, false, false, false, false, false, false, false, false, false, false, false] rfl rfl (any_of HT_.out (by kernel_rfl)) (fun _ _ _ h => h) (Or.inl ⟨by rfl, ?_⟩) ?_ ?_
                 rotate_left
                 ·intro w'
                  go_simp
                  with_reducible rfl
                 rotate_left
                 ·simp only [Act.put, List.setIfInBounds_toArray, List.set_cons_zero, List.set_cons_succ, i64_w, i32_w]
                  rfl
                 refine pure_ (i := 23) (N := some 60) (v := ?_) (a' := ?_) #[true, true, true, true, true, true, true, true, true, true, true, true, true, true, true, true, true, true, true, true, true, true, true, true, false, false, false, false, false, false, false, false, false, false, false, false, false, false] rfl rfl (any_of HT_.out (by kernel_rfl)) (fun _ _ _ h => h) (Or.inl ⟨by rfl, ?_⟩) ?_ ?_
                 rotate_left
                 ·intro w'
                  go_simp
                  with_reducible rfl
                 rotate_left
                 ·simp only [Act.put, List.setIfInBounds_toArray, List.set_cons_zero, List.set_cons_succ, i64_w, i32_w]
                  rfl
                 refine pure_ (i := 24) (N := some 61) (v := ?_) (a' := ?_) #[true, true, true, true, true, true, true, true, true, true, true, true, true, true, true, true, true, true, true, true, true, true, true, true, true, false, false, false, false, false, false, false, false, false, false, false, false, false] rfl rfl (any_of HT_.out (by kernel_rfl)) (fun _ _ _ h => h) (Or.inl ⟨by rfl, ?_⟩) ?_ ?_
                 rotate_left
                 ·intro w'
                  go_simp
                  with_reducible rfl
                 rotate_left
                 ·simp only [Act.put, List.setIfInBounds_toArray, List.set_cons_zero, List.set_cons_succ, i64_w, i32_w]
                  rfl
                 refine pure_ (i := 25) (N := some 62) (v := ?_) (a' := ?_) #[true, true, true, true, true, true, true, true, true, true, true, true, true, true, true, true, true, true, true, true, true, true, true, true, true, true, false, false, false, false, false, false, false, false, false, false, false, false] rfl rfl (any_of HT_.out (by kernel_rfl)) (fun _ _ _ h => h) (Or.inl ⟨by rfl, ?_⟩) ?_ ?_
                 rotate_left
                 ·intro w'
                  go_simp
                  with_reducible rfl
                 rotate_left
                 ·simp only [Act.put, List.setIfInBounds_toArray, List.set_cons_zero, List.set_cons_succ, i64_w, i32_w]
                  rfl
                 refine pure_ (i := 26) (N := some 63) (v := ?_) (a' := ?_) #[true, true, true, true, true, true, true, true, true, true, true, true, true, true, true, true, true, true, true, true, true, true, true, true, true, true, true, false, false, false, false, false, false, false, false, false, false, false] rfl rfl (any_of HT_.out (by kernel_rfl)) (fun _ _ _ h => h) (Or.inl ⟨by rfl, ?_⟩) ?_ ?_
                 rotate_left
                 ·intro w'
                  go_simp
                  with_reducible rfl
                 rotate_left
                 ·simp only [Act.put, List.setIfInBounds_toArray, List.set_cons_zero, List.set_cons_succ, i64_w, i32_w]
                  rfl
                 refine pure_ (i := 27) (N := some 64) (v := ?_) (a' := ?_) #[true, true, true, true, true, true, true, true, true, true, true, true, true, true, true, true, true, true, true, true, true, true, true, true, true, true, true, true, false, false, false, false, false, false, false, false, false, false] rfl rfl (any_of HT_.out (by kernel_rfl)) (fun _ _ _ h => h) (Or.inl ⟨by rfl, ?_⟩) ?_ ?_
                 rotate_left
                 ·intro w'
                  go_simp
                  with_reducible rfl
                 rotate_left
                 ·simp only [Act.put, List.setIfInBounds_toArray, List.set_cons_zero, List.set_cons_succ, i64_w, i32_w]
                  rfl
                 refine pure_ (i := 28) (N := some 65) (v := ?_) (a' := ?_) #[true, true, true, true, true, true, true, true, true, true, true, true, true, true, true, true, true, true, true, true, true, true, true, true, true, true, true, true, true, false, false, false, false, false, false, false, false, false] rfl rfl (any_of HT_.out (by kernel_rfl)) (fun _ _ _ h => h) (Or.inl ⟨by rfl, ?_⟩) ?_ ?_
                 rotate_left
                 ·intro w'
                  go_simp
                  with_reducible rfl
                 rotate_left
                 ·simp only [Act.put, List.setIfInBounds_toArray, List.set_cons_zero, List.set_cons_succ, i64_w, i32_w]
                  rfl
                 refine pure_ (i := 30) (N := some 67) (v := ?_) (a' := ?_) #[true, true, true, true, true, true, true, true, true, true, true, true, true, true, true, true, true, true, true, true, true, true, true, true, true, true, true, true, true, false, true, false, false, false, false, false, false, false] rfl rfl (any_of HT_.out (by kernel_rfl)) (fun _ _ _ h => h) (Or.inl ⟨by rfl, ?_⟩) ?_ ?_
                 rotate_left
                 ·intro w'
                  go_simp
                  with_reducible rfl
                 rotate_left
                 ·simp only [Act.put, List.setIfInBounds_toArray, List.set_cons_zero, List.set_cons_succ, i64_w, i32_w]
                  rfl
                 refine pure_ (i := 31) (N := some 68) (v := ?_) (a' := ?_) #[true, true, true, true, true, true, true, true, true, true, true, true, true, true, true, true, true, true, true, true, true, true, true, true, true, true, true, true, true, false, true, true, false, false, false, false, false, false] rfl rfl (any_of HT_.out (by kernel_rfl)) (fun _ _ _ h => h) (Or.inl ⟨by rfl, ?_⟩) ?_ ?_
                 rotate_left
                 ·intro w'
                  go_simp
                  with_reducible rfl
                 rotate_left
                 ·simp only [Act.put, List.setIfInBounds_toArray, List.set_cons_zero, List.set_cons_succ, i64_w, i32_w]
                  rfl
                 refine pure_ (i := 32) (N := some 69) (v := ?_) (a' := ?_) #[true, true, true, true, true, true, true, true, true, true, true, true, true, true, true, true, true, true, true, true, true, true, true, true, true, true, true, true, true, false, true, true, true, false, false, false, false, false] rfl rfl (any_of HT_.out (by kernel_rfl)) (fun _ _ _ h => h) (Or.inl ⟨by rfl, ?_⟩) ?_ ?_
                 rotate_left
                 ·intro w'
                  go_simp
                  with_reducible rfl
                 rotate_left
                 ·simp only [Act.put, List.setIfInBounds_toArray, List.set_cons_zero, List.set_cons_succ, i64_w, i32_w]
                  rfl
                 refine pure_ (i := 33) (N := some 70) (v := ?_) (a' := ?_) #[true, true, true, true, true, true, true, true, true, true, true, true, true, true, true, true, true, true, true, true, true, true, true, true, true, true, true, true, true, false, true, true, true, true, false, false, false, false] rfl rfl (any_of HT_.out (by kernel_rfl)) (fun _ _ _ h => h) (Or.inl ⟨by rfl, ?_⟩) ?_ ?_
                 rotate_left
                 ·intro w'
                  go_simp
                  with_reducible rfl
                 rotate_left
                 ·simp only [Act.put, List.setIfInBounds_toArray, List.set_cons_zero, List.set_cons_succ, i64_w, i32_w]
                  rfl
                 refine take_ (i := 29) (N := some 66) (v := ?_) (a' := ?_) #[true, true, true, true, true, true, true, true, true, true, true, true, true, true, true, true, true, true, true, true, true, true, true, true, true, true, true, true, true, true, true, true, true, true, false, false, false, false] rfl rfl (take_ofW HT_.out HW_.out (by kernel_rfl)) (fun _ _ _ h => h) (Or.inl ⟨by rfl, ?_⟩) hHeld ?_ ?_
                 rotate_left
                 ·rintro w' ⟨s0, s1, s2, s3, s4, s5, s6, s7, s8⟩
                  go_simp
                  with_reducible rfl
                 rotate_left
                 ·simp only [Act.put, List.setIfInBounds_toArray, List.set_cons_zero, List.set_cons_succ, i64_w, i32_w]
                  rfl
                 refine take_ (i := 34) (N := some 71) (v := ?_) (a' := ?_) #[true, true, true, true, true, true, true, true, true, true, true, true, true, true, true, true, true, true, true, true, true, true, true, true, true, true, true, true, true, true, true, true, true, true, true, false, false, false] rfl rfl (take_ofW HT_.out HW_.out (by kernel_rfl)) (fun _ _ _ h => h) (Or.inl ⟨by rfl, ?_⟩) hHeld ?_ ?_
                 rotate_left
                 ·rintro w' ⟨s0, s1, s2, s3, s4, s5, s6, s7, s8⟩
                  go_simp
                  with_reducible rfl
                 rotate_left
                 ·simp only [Act.put, List.setIfInBounds_toArray, List.set_cons_zero, List.set_cons_succ, i64_w, i32_w]
                  rfl
                 refine pure_ (i := 35) (N := some 72) (v := ?_) (a' := ?_) #[true, true, true, true, true, true, true, true, true, true, true, true, true, true, true, true, true, true, true, true, true, true, true, true, true, true, true, true, true, true, true, true, true, true, true, true, false, false] rfl rfl (any_of HT_.out (by kernel_rfl)) (fun _ _ _ h => h) (Or.inl ⟨by rfl, ?_⟩) ?_ ?_
                 rotate_left
                 ·intro w'
                  go_simp
                  with_reducible rfl
                 rotate_left
                 ·simp only [Act.put, List.setIfInBounds_toArray, List.set_cons_zero, List.set_cons_succ, i64_w, i32_w]
                  rfl
                 refine pure_ (i := 36) (N := some 73) (v := ?_) (a' := ?_) #[true, true, true, true, true, true, true, true, true, true, true, true, true, true, true, true, true, true, true, true, true, true, true, true, true, true, true, true, true, true, true, true, true, true, true, true, true, false] rfl rfl (any_of HT_.out (by kernel_rfl)) (fun _ _ _ h => h) (Or.inl ⟨by rfl, ?_⟩) ?_ ?_
                 rotate_left
                 ·intro w'
                  go_simp
                  with_reducible rfl
                 rotate_left
                 ·simp only [Act.put, List.setIfInBounds_toArray, List.set_cons_zero, List.set_cons_succ, i64_w, i32_w]
                  rfl
                 refine pure_ (i := 37) (N := some 74) (v := ?_) (a' := ?_) #[true, true, true, true, true, true, true, true, true, true, true, true, true, true, true, true, true, true, true, true, true, true, true, true, true, true, true, true, true, true, true, true, true, true, true, true, true, true] rfl rfl (any_of HT_.out (by kernel_rfl)) (fun _ _ _ h => h) (Or.inl ⟨by rfl, ?_⟩) ?_ ?_
                 rotate_left
                 ·intro w'
                  go_simp
                  with_reducible rfl
                 rotate_left
                 ·simp only [Act.put, List.setIfInBounds_toArray, List.set_cons_zero, List.set_cons_succ, i64_w, i32_w]
                  rfl
                 refine done_ (done_of HT_.out (by kernel_rfl)) ?_
                 try go_wp2
                 go_roundg k1
                 case measure => have := HK1.out; omega
                 case rel => exact ⟨(wrap64 (x6_1 + 1)), (by first | rfl | (simp; done) | (simp [*]; done)), H', ⟨by have := HK1.out; omega⟩, ⟨rl HO_5.out⟩, ⟨rl HO_526000.out⟩, ⟨rl HO_526001.out⟩, ⟨rl HO_526002.out⟩, ⟨kl BK525.out⟩, ⟨by exact bs1 GE525.out HB.out⟩⟩
               ·rw [if_neg c48] at H
                exact absurd H (by simp)
              ·rw [if_neg c47] at H
               exact absurd H (by simp)
             ·rw [if_neg c45] at H
              have c45b0 : decide (0 < x6_1) = false := decide_eq_false c45
              clear c45
              have H' := am H
              clear H
              try go_wp2
              replace HO_5 := am (Kd.R_drew HO_5.out)
              replace HO_526000 := am (Kd.R_drew HO_526000.out)
              replace HO_526001 := am (Kd.R_drew HO_526001.out)
              replace HO_526002 := am (Kd.R_drew HO_526002.out)
              replace BK525 := am (blk_drew BK525.out)
              replace HB := am (below_drew1 HB.out)
              have p533 : 0 ≤ (x6_1 : Int) := of_decide_eq_true (by first | (with_reducible assumption) | assumption)
              have q533 : x6_1 < (t526.length : Int) := of_decide_eq_true (by first | (with_reducible assumption) | assumption)
              obtain ⟨ad533, e533, hx533_0⟩ := Kd.at_int (Kd.R_reads' HO_5.out).2.2 x6_1 p533 q533
              cases e533
              replace p533 := eq_true p533
              replace q533 := eq_true q533
              have p534 : 0 ≤ ((rd t526 x6_1) : Int) := of_decide_eq_true (by first | (with_reducible assumption) | assumption)
              have q534 : (rd t526 x6_1) < (t515.length : Int) := of_decide_eq_true (by first | (with_reducible assumption) | assumption)
              obtain ⟨ad534, e534, hx534_0⟩ := Kd.at_int (Kd.R_reads' HO_526000.out).2.2 (rd t526 x6_1) p534 q534
              cases e534
              replace p534 := eq_true p534
              replace q534 := eq_true q534
              have p537 : 0 ≤ (x6_1 : Int) := of_decide_eq_true (by first | (with_reducible assumption) | assumption)
              have q537 : x6_1 < (t526.length : Int) := of_decide_eq_true (by first | (with_reducible assumption) | assumption)
              obtain ⟨ad537, e537, hx537_0⟩ := Kd.at_int (Kd.R_reads' HO_5.out).2.2 x6_1 p537 q537
              obtain rfl : ad533 = ad537 := (by injection e537)
              replace p537 := eq_true p537
              replace q537 := eq_true q537
              have p538 : 0 ≤ ((rd t526 x6_1) : Int) := of_decide_eq_true (by first | (with_reducible assumption) | assumption)
              have q538 : (rd t526 x6_1) < (t518.length : Int) := of_decide_eq_true (by first | (with_reducible assumption) | assumption)
              obtain ⟨ad538, e538, hx538_0⟩ := Kd.at_int (Kd.R_reads' HO_526001.out).2.2 (rd t526 x6_1) p538 q538
              cases e538
              replace p538 := eq_true p538
              replace q538 := eq_true q538
              refine start_ (n := 38) (S := fun w' => w'.cell? ⟨gb525, 0, none⟩ = some (.slice (some ad534) t515.length co22) ∧ w'.cell? ⟨gb525, 1, none⟩ = some (.slice (some ad538) t518.length co24) ∧ w'.cell? ⟨gb525, 2, none⟩ = some (.slice Ao25 t521.length co25) ∧ w'.cell? (ad533.add (x6_1).toNat) = some (.int .i64 (rd t526 x6_1)) ∧ w'.cell? (ad534.add ((rd t526 x6_1)).toNat) = some (.int .i64 (rd t515 (rd t526 x6_1))) ∧ w'.cell? (ad533.add (x6_1).toNat) = some (.int .i64 (rd t526 x6_1)) ∧ w'.cell? (ad538.add ((rd t526 x6_1)).toNat) = some (.int .i64 (rd t518 (rd t526 x6_1)))) (ds := []) #[false, false, false, false, false, false, false, false, false, false, false, false, false, false, false, false, false, false, false, false, false, false, false, false, false, false, false, false, false, false, false, false, false, false, false, false, false, false] (by kernel_rfl) rfl rfl ⟨(blk_cell BK525.out 0).trans rfl, (blk_cell BK525.out 1).trans rfl, (blk_cell BK525.out 2).trans rfl, hx533_0, hx534_0, hx537_0, hx538_0⟩ (fun hHeld => ?_); refine with_tabW laws_FnSourcesOf.tab12 laws_FnSourcesOf.bits12 (fun HT_ HW_ => ?_)
              generalize wr.drew = w51 at HO_5 HO_526000 HO_526001 HO_526002 BK525 HB hx533_0 hx534_0 hx537_0 hx538_0 hHeld ⊢
              refine pure_ (i := 0) (N := some 37) (v := ?_) (a' := ?_) #[true, false, false, false, false, false, false, false, false, false, false, false, false, false, false, false, false, false, false, false, false, false, false, false, false, false, false, false, false, false, false, false, false, false, false, false, false, false] rfl rfl (any_of HT_.out (by kernel_rfl)) (fun _ _ _ h => h) (Or.inl ⟨by rfl, ?_⟩) ?_ ?_
              rotate_left
              ·intro w'
               go_simp
               with_reducible rfl
              rotate_left
              ·simp only [Act.put, List.setIfInBounds_toArray, List.set_cons_zero, List.set_cons_succ, i64_w, i32_w]
               rfl
              refine pure_ (i := 2) (N := some 39) (v := ?_) (a' := ?_) #[true, false, true, false, false, false, false, false, false, false, false, false, false, false, false, false, false, false, false, false, false, false, false, false, false, false, false, false, false, false, false, false, false, false, false, false, false, false] rfl rfl (any_of HT_.out (by kernel_rfl)) (fun _ _ _ h => h) (Or.inl ⟨by rfl, ?_⟩) ?_ ?_
              rotate_left
              ·intro w'
               go_simp
               with_reducible rfl
              rotate_left
              ·simp only [Act.put, List.setIfInBounds_toArray, List.set_cons_zero, List.set_cons_succ, i64_w, i32_w]
               rfl
              refine pure_ (i := 3) (N := some 40) (v := ?_) (a' := ?_) #[true, false, true, true, false, false, false, false, false, false, false, false, false, false, false, false, false, false, false, false, false, false, false, false, false, false, false, false, false, false, false, false, false, false, false, false, false, false] rfl rfl (any_of HT_.out (by kernel_rfl)) (fun _ _ _ h => h) (Or.inl ⟨by rfl, ?_⟩) ?_ ?_
              rotate_left
              ·intro w'
               go_simp
               with_reducible rfl
              rotate_left
              ·simp only [Act.put, List.setIfInBounds_toArray, List.set_cons_zero, List.set_cons_succ, i64_w, i32_w]
               rfl
              refine pure_ (i := 4) (N := some 41) (v := ?_) (a' := ?_) #[true, false, true, true, true, false, false, false, false, false, false, false, false, false, false, false, false, false, false, false, false, false, false, false, false, false, false, false, false, false, false, false, false, false, false, false, false, false] rfl rfl (any_of HT_.out (by kernel_rfl)) (fun _ _ _ h => h) (Or.inl ⟨by rfl, ?_⟩) ?_ ?_
              rotate_left
              ·intro w'
               go_simp
               with_reducible rfl
              rotate_left
              ·simp only [Act.put, List.setIfInBounds_toArray, List.set_cons_zero, List.set_cons_succ, i64_w, i32_w]
               rfl
              refine pure_ (i := 8) (N := some 45) (v := ?_) (a' := ?_) #[true, false, true, true, true, false, false, false, true, false, false, false, false, false, false, false, false, false, false, false, false, false, false, false, false, false, false, false, false, false, false, false, false, false, false, false, false, false] rfl rfl (any_of HT_.out (by kernel_rfl)) (fun _ _ _ h => h) (Or.inl ⟨by rfl, ?_⟩) ?_ ?_
              rotate_left
              ·intro w'
               go_simp
               with_reducible rfl
              rotate_left
              ·simp only [Act.put, List.setIfInBounds_toArray, List.set_cons_zero, List.set_cons_succ, i64_w, i32_w]
               rfl
              refine take_ (i := 1) (N := some 38) (v := ?_) (a' := ?_) #[true, true, true, true, true, false, false, false, true, false, false, false, false, false, false, false, false, false, false, false, false, false, false, false, false, false, false, false, false, false, false, false, false, false, false, false, false, false] rfl rfl (take_ofW HT_.out HW_.out (by kernel_rfl)) (fun _ _ _ h => h) (Or.inl ⟨by rfl, ?_⟩) hHeld ?_ ?_
              rotate_left
              ·rintro w' ⟨s0, s1, s2, s3, s4, s5, s6⟩
               go_simp
               with_reducible rfl
              rotate_left
              ·simp only [Act.put, List.setIfInBounds_toArray, List.set_cons_zero, List.set_cons_succ, i64_w, i32_w]
               rfl
              refine take_ (i := 5) (N := some 42) (v := ?_) (a' := ?_) #[true, true, true, true, true, true, false, false, true, false, false, false, false, false, false, false, false, false, false, false, false, false, false, false, false, false, false, false, false, false, false, false, false, false, false, false, false, false] rfl rfl (take_ofW HT_.out HW_.out (by kernel_rfl)) (fun _ _ _ h => h) (Or.inl ⟨by rfl, ?_⟩) hHeld ?_ ?_
              rotate_left
              ·rintro w' ⟨s0, s1, s2, s3, s4, s5, s6⟩
               go_simp
               with_reducible rfl
              rotate_left
              ·simp only [Act.put, List.setIfInBounds_toArray, List.set_cons_zero, List.set_cons_succ, i64_w, i32_w]
               rfl
              refine pure_ (i := 6) (N := some 43) (v := ?_) (a' := ?_) #[true, true, true, true, true, true, true, false, true, false, false, false, false, false, false, false, false, false, false, false, false, false, false, false, false, false, false, false, false, false, false, false, false, false, false, false, false, false] rfl rfl (any_of HT_.out (by kernel_rfl)) (fun _ _ _ h => h) (Or.inl ⟨by rfl, ?_⟩) ?_ ?_
              rotate_left
              ·intro w'
               go_simp
               with_reducible rfl
              rotate_left
              ·simp only [Act.put, List.setIfInBounds_toArray, List.set_cons_zero, List.set_cons_succ, i64_w, i32_w]
               rfl
              refine take_ (i := 7) (N := some 44) (v := ?_) (a' := ?_) #[true, true, true, true, true, true, true, true, true, false, false, false, false, false, false, false, false, false, false, false, false, false, false, false, false, false, false, false, false, false, false, false, false, false, false, false, false, false] rfl rfl (take_ofW HT_.out HW_.out (by kernel_rfl)) (fun _ _ _ h => h) (Or.inl ⟨by rfl, ?_⟩) hHeld ?_ ?_
              rotate_left
              ·rintro w' ⟨s0, s1, s2, s3, s4, s5, s6⟩
               go_simp
               with_reducible rfl
              rotate_left
              ·simp only [Act.put, List.setIfInBounds_toArray, List.set_cons_zero, List.set_cons_succ, i64_w, i32_w]
               rfl
              refine pure_ (i := 9) (N := some 46) (v := ?_) (a' := ?_) #[true, true, true, true, true, true, true, true, true, true, false, false, false, false, false, false, false, false, false, false, false, false, false, false, false, false, false, false, false, false, false, false, false, false, false, false, false, false] rfl rfl (any_of HT_.out (by kernel_rfl)) (fun _ _ _ h => h) (Or.inl ⟨by rfl, ?_⟩) ?_ ?_
              rotate_left
              ·intro w'
               go_simp
               with_reducible rfl
              rotate_left
              ·simp only [Act.put, List.setIfInBounds_toArray, List.set_cons_zero, List.set_cons_succ, i64_w, i32_w]
               rfl
              refine pure_ (i := 10) (N := some 47) (v := ?_) (a' := ?_) #[true, true, true, true, true, true, true, true, true, true, true, false, false, false, false, false, false, false, false, false, false, false, false, false, false, false, false, false, false, false, false, false, false, false, false, false, false, false] rfl rfl (any_of HT_.out (by kernel_rfl)) (fun _ _ _ h => h) (Or.inl ⟨by rfl, ?_⟩) ?_ ?_
              rotate_left
              ·intro w'
               go_simp
               with_reducible rfl
              rotate_left
              ·simp only [Act.put, List.setIfInBounds_toArray, List.set_cons_zero, List.set_cons_succ, i64_w, i32_w]
               rfl
              refine pure_ (i := 11) (N := some 48) (v := ?_) (a' := ?_) #[true, true, true, true, true, true, true, true, true, true, true, true, false, false, false, false, false, false, false, false, false, false, false, false, false, false, false, false, false, false, false, false, false, false, false, false, false, false] rfl rfl (any_of HT_.out (by kernel_rfl)) (fun _ _ _ h => h) (Or.inl ⟨by rfl, ?_⟩) ?_ ?_
              rotate_left
              ·intro w'
               go_simp
               with_reducible rfl
              rotate_left
              ·simp only [Act.put, List.setIfInBounds_toArray, List.set_cons_zero, List.set_cons_succ, i64_w, i32_w]
               rfl
              refine pure_ (i := 13) (N := some 50) (v := ?_) (a' := ?_) #[true, true, true, true, true, true, true, true, true, true, true, true, false, true, false, false, false, false, false, false, false, false, false, false, false, false, false, false, false, false, false, false, false, false, false, false, false, false] rfl rfl (any_of HT_.out (by kernel_rfl)) (fun _ _ _ h => h) (Or.inl ⟨by rfl, ?_⟩) ?_ ?_
              rotate_left
              ·intro w'
               go_simp
               with_reducible rfl
              rotate_left
              ·simp only [Act.put, List.setIfInBounds_toArray, List.set_cons_zero, List.set_cons_succ, i64_w, i32_w]
               rfl
              refine pure_ (i := 14) (N := some 51) (v := ?_) (a' := ?_) #[true, true, true, true, true, true, true, true, true, true, true, true, false, true, true, false, false, false, false, false, false, false, false, false, false, false, false, false, false, false, false, false, false, false, false, false, false, false] rfl rfl (any_of HT_.out (by kernel_rfl)) (fun _ _ _ h => h) (Or.inl ⟨by rfl, ?_⟩) ?_ ?_
              rotate_left
              ·intro w'
               go_simp
               with_reducible rfl
              rotate_left
              ·simp only [Act.put, List.setIfInBounds_toArray, List.set_cons_zero, List.set_cons_succ, i64_w, i32_w]
               rfl
              refine pure_ (i := 15) (N := some 52) (v := ?_) (a' := ?_) #[true, true, true, true, true, true, true, true, true, true, true, true, false, true, true, true, false, false, false, false, false, false, false, false, false, false, false, false, false, false, false, false, false, false, false, false, false, false] rfl rfl (any_of HT_.out (by kernel_rfl)) (fun _ _ _ h => h) (Or.inl ⟨by rfl, ?_⟩) ?_ ?_
              rotate_left
              ·intro w'
               go_simp
               with_reducible rfl
              rotate_left
              ·simp only [Act.put, List.setIfInBounds_toArray, List.set_cons_zero, List.set_cons_succ, i64_w, i32_w]
               rfl
              refine pure_ (i := 19) (N := some 56) (v := ?_) (a' := ?_) #[true, true, true, true, true, true, true, true, true, true, true, true, false, true, true, true, false, false, false, true, false, false, false, false, false, false, false, false, false, false, false, false, false, false, false, false, false, false] rfl rfl (any_of HT_.out (by kernel_rfl)) (fun _ _ _ h => h) (Or.inl ⟨by rfl, ?_⟩) ?_ ?_
              rotate_left
              ·intro w'
               go_simp
               with_reducible rfl
              rotate_left
              ·simp only [Act.put, List.setIfInBounds_toArray, List.set_cons_zero, List.set_cons_succ, i64_w, i32_w]
               rfl
              refine take_ (i := 12) (N := some 49) (v := ?_) (a' := ?_) #[true, true, true, true, true, true, true, true, true, true, true, true, true, true, true, true, false, false, false, true, false, false, false, false, false, false, false, false, false, false, false, false, false, false, false, false, false, false] rfl rfl (take_ofW HT_.out HW_.out (by kernel_rfl)) (fun _ _ _ h => h) (Or.inl ⟨by rfl, ?_⟩) hHeld ?_ ?_
              rotate_left
              ·rintro w' ⟨s0, s1, s2, s3, s4, s5, s6⟩
               go_simp
               with_reducible rfl
              rotate_left
              ·simp only [Act.put, List.setIfInBounds_toArray, List.set_cons_zero, List.set_cons_succ, i64_w, i32_w]
               rfl
              refine take_ (i := 16) (N := some 53) (v := ?_) (a' := ?_) #[true, true, true, true, true, true, true, true, true, true, true, true, true, true, true, true, true, false, false, true, false, false, false, false, false, false, false, false, false, false, false, false, false, false, false, false, false, false] rfl rfl (take_ofW HT_.out HW_.out (by kernel_rfl)) (fun _ _ _ h => h) (Or.inl ⟨by rfl, ?_⟩) hHeld ?_ ?_
              rotate_left
              ·rintro w' ⟨s0, s1, s2, s3, s4, s5, s6⟩
               go_simp
               with_reducible rfl
              rotate_left
              ·simp only [Act.put, List.setIfInBounds_toArray, List.set_cons_zero, List.set_cons_succ, i64_w, i32_w]
               rfl
              refine pure_ (i := 17) (N := some 54) (v := ?_) (a' := ?_) #[true, true, true, true, true, true, true, true, true, true, true, true, true, true, true, true, true, true, false, true, false, false, false, false, false, false, false, false, false, false, false, false, false, false, false, false, false, false] rfl rfl (any_of HT_.out (by kernel_rfl)) (fun _ _ _ h => h) (Or.inl ⟨by rfl, ?_⟩) ?_ ?_
              rotate_left
              ·intro w'
               go_simp
               with_reducible rfl
              rotate_left
              ·simp only [Act.put, List.setIfInBounds_toArray, List.set_cons_zero, List.set_cons_succ, i64_w, i32_w]
               rfl
              refine take_ (i := 18) (N := some 55) (v := ?_) (a' := ?_) #[true, true, true, true, true, true, true, true, true, true, true, true, true, true, true, true, true, true, true, true, false, false, false, false, false, false, false, false, false, false, false, false, false, false, false, false, false, false] rfl rfl (take_ofW HT_.out HW_.out (by kernel_rfl)) (fun _ _ _ h => h) (Or.inl ⟨by rfl, ?_⟩) hHeld ?_ ?_
              rotate_left
              ·rintro w' ⟨s0, s1, s2, s3, s4, s5, s6⟩
               go_simp
               with_reducible rfl
              rotate_left
              ·simp only [Act.put, List.setIfInBounds_toArray, List.set_cons_zero, List.set_cons_succ, i64_w, i32_w]
               rfl
              refine pure_ (i := 20) (N := some 57) (v := ?_) (a' := ?_) #[true, true, true, true, true, true, true, true, true, true, true, true, true, true, true, true, true, true, true, true, true, false, false, false, false, false, false, false, false, false, false, false, false, false, false, false, false, false] rfl rfl (any_of HT_.out (by kernel_rfl)) (fun _ _ _ h => h) (Or.inl ⟨by rfl, ?_⟩) ?_ ?_
              rotate_left
              ·intro w'
               go_simp
               with_reducible rfl
              rotate_left
              ·simp only [Act.put, List.setIfInBounds_toArray, List.set_cons_zero, List.set_cons_succ, i64_w, i32_w]
               rfl
              refine pure_ (i := 21) (N := some 58) (v := ?_) (a' := ?_) #[true, true, true, true, true, true, true, true, true, true, true, true, true, true, true, true, true, true, true, true, true, true, false, false, false, false, false, false, false, false, false, false, false, false, false, false, false, false] rfl rfl (any_of HT_.out (by kernel_rfl)) (fun _ _ _ h => h) (Or.inl ⟨by rfl, ?_⟩) ?_ ?_
              rotate_left
              ·intro w'
               go_simp
               with_reducible rfl
              rotate_left
              ·simp only [Act.put, List.setIfInBounds_toArray, List.set_cons_zero, List.set_cons_succ, i64_w, i32_w]
               rfl
              refine pure_ (i := 22) (N := some 59) (v := ?_) (a' := ?_) #[true, true, true, true, true, true, true, true, true, true, true, true, true, true, true, true, true, true, true, true, true, true, true, false, false, false, false, false, false, false, false, false, false, false, false, false, false, false] rfl rfl (any_of HT_.out (by kernel_rfl)) (fun _ _ _ h => h) (Or.inl ⟨by rfl, ?_⟩) ?_ ?_
              rotate_left
              ·intro w'
               go_simp
               with_reducible rfl
              rotate_left
              ·simp only [Act.put, List.setIfInBounds_toArray, List.set_cons_zero, List.set_cons_succ, i64_w, i32_w]
               rfl
              refine pure_ (i := 23) (N := some 60) (v := ?_) (a' := ?_) #[true, true, true, true, true, true, true, true, true, true, true, true, true, true, true, true, true, true, true, true, true, true, true, true, false, false, false, false, false, false, false, false, false, false, false, false, false, false] rfl rfl (any_of HT_.out (by kernel_rfl)) (fun _ _ _ h => h) (Or.inl ⟨by rfl, ?_⟩) ?_ ?_
              rotate_left
              ·intro w'
               go_simp
               with_reducible rfl
              rotate_left
              ·simp only [Act.put, List.setIfInBounds_toArray, List.set_cons_zero, List.set_cons_succ, i64_w, i32_w]
               rfl
              refine pure_ (i := 24) (N := some 61) (v := ?_) (a' := ?_) #[true, true, true, true, true, true, true, true, true, true, true, true, true, true, true, true, true, true, true, true, true, true, true, true, true, false, false, false, false, false, false, false, false, false, false, false, false, false] rfl rfl (any_of HT_.out (by kernel_rfl)) (fun _ _ _ h => h) (Or.inl ⟨by rfl, ?_⟩) ?_ ?_
              rotate_left
              ·intro w'
               go_simp
               with_reducible rfl
              rotate_left
              ·simp only [Act.put, List.setIfInBounds_toArray, List.set_cons_zero, List.set_cons_succ, i64_w, i32_w]
               rfl
              refine pure_ (i := 25) (N := some 62) (v := ?_) (a' := ?_) #[true, true, true, true, true, true, true, true, true, true, true, true, true, true, true, true, true, true, true, true, true, true, true, true, true, true, false, false, false, false, false, false, false, false, false, false, false, false] rfl rfl (any_of HT_.out (by kernel_rfl)) (fun _ _ _ h => h) (Or.inl ⟨by rfl, ?_⟩) ?_ ?_
              rotate_left
              ·intro w'
               go_simp
               with_reducible rfl
              rotate_left
              ·simp only [Act.put, List.setIfInBounds_toArray, List.set_cons_zero, List.set_cons_succ, i64_w, i32_w]
               rfl
              refine pure_ (i := 26) (N := some 63) (v := undef) (a' := ?_) #[true, true, true, true, true, true, true, true, true, true, true, true, true, true, true, true, true, true, true, true, true, true, true, true, true, true, true, false, false, false, false, false, false, false, false, false, false, false] rfl rfl (any_of HT_.out (by kernel_rfl)) (fun _ _ _ h => h) (Or.inr ⟨by rfl, rfl⟩) ?_ ?_
              rotate_left
              ·simp only [Act.put, List.setIfInBounds_toArray, List.set_cons_zero, List.set_cons_succ, i64_w, i32_w]
               rfl
              refine pure_ (i := 27) (N := some 64) (v := undef) (a' := ?_) #[true, true, true, true, true, true, true, true, true, true, true, true, true, true, true, true, true, true, true, true, true, true, true, true, true, true, true, true, false, false, false, false, false, false, false, false, false, false] rfl rfl (any_of HT_.out (by kernel_rfl)) (fun _ _ _ h => h) (Or.inr ⟨by rfl, rfl⟩) ?_ ?_
              rotate_left
              ·simp only [Act.put, List.setIfInBounds_toArray, List.set_cons_zero, List.set_cons_succ, i64_w, i32_w]
               rfl
              refine pure_ (i := 28) (N := some 65) (v := undef) (a' := ?_) #[true, true, true, true, true, true, true, true, true, true, true, true, true, true, true, true, true, true, true, true, true, true, true, true, true, true, true, true, true, false, false, false, false, false, false, false, false, false] rfl rfl (any_of HT_.out (by kernel_rfl)) (fun _ _ _ h => h) (Or.inr ⟨by rfl, rfl⟩) ?_ ?_
              rotate_left
              ·simp only [Act.put, List.setIfInBounds_toArray, List.set_cons_zero, List.set_cons_succ, i64_w, i32_w]
               rfl
              refine pure_ (i := 29) (N := some 66) (v := undef) (a' := ?_) #[true, true, true, true, true, true, true, true, true, true, true, true, true, true, true, true, true, true, true, true, true, true, true, true, true, true, true, true, true, true, false, false, false, false, false, false, false, false] rfl rfl (any_of HT_.out (by kernel_rfl)) (fun _ _ _ h => h) (Or.inr ⟨by rfl, rfl⟩) ?_ ?_
              rotate_left
              ·simp only [Act.put, List.setIfInBounds_toArray, List.set_cons_zero, List.set_cons_succ, i64_w, i32_w]
               rfl
              refine pure_ (i := 30) (N := some 67) (v := undef) (a' := ?_) #[true, true, true, true, true, true, true, true, true, true, true, true, true, true, true, true, true, true, true, true, true, true, true, true, true, true, true, true, true, true, true, false, false, false, false, false, false, false] rfl rfl (any_of HT_.out (by kernel_rfl)) (fun _ _ _ h => h) (Or.inr ⟨by rfl, rfl⟩) ?_ ?_
              rotate_left
              ·simp only [Act.put, List.setIfInBounds_toArray, List.set_cons_zero, List.set_cons_succ, i64_w, i32_w]
               rfl
              refine pure_ (i := 31) (N := some 68) (v := undef) (a' := ?_) #[true, true, true, true, true, true, true, true, true, true, true, true, true, true, true, true, true, true, true, true, true, true, true, true, true, true, true, true, true, true, true, true, false, false, false, false, false, false] rfl rfl (any_of HT_.out (by kernel_rfl)) (fun _ _ _ h => h) (Or.inr ⟨by rfl, rfl⟩) ?_ ?_
              rotate_left
              ·simp only [Act.put, List.setIfInBounds_toArray, List.set_cons_zero, List.set_cons_succ, i64_w, i32_w]
               rfl
              refine pure_ (i := 32) (N := some 69) (v := undef) (a' := ?_) #[true, true, true, true, true, true, true, true, true, true, true, true, true, true, true, true, true, true, true, true, true, true, true, true, true, true, true, true, true, true, true, true, true, false, false, false, false, false] rfl rfl (any_of HT_.out (by kernel_rfl)) (fun _ _ _ h => h) (Or.inr ⟨by rfl, rfl⟩) ?_ ?_
              rotate_left
              ·simp only [Act.put, List.setIfInBounds_toArray, List.set_cons_zero, List.set_cons_succ, i64_w, i32_w]
               rfl
              refine pure_ (i := 33) (N := some 70) (v := undef) (a' := ?_) #[true, true, true, true, true, true, true, true, true, true, true, true, true, true, true, true, true, true, true, true, true, true, true, true, true, true, true, true, true, true, true, true, true, true, false, false, false, false] rfl rfl (any_of HT_.out (by kernel_rfl)) (fun _ _ _ h => h) (Or.inr ⟨by rfl, rfl⟩) ?_ ?_
              rotate_left
              ·simp only [Act.put, List.setIfInBounds_toArray, List.set_cons_zero, List.set_cons_succ, i64_w, i32_w]
               rfl
              refine pure_ (i := 34) (N := some 71) (v := undef) (a' := ?_) #[true, true, true, true, true, true, true, true, true, true, true, true, true, true, true, true, true, true, true, true, true, true, true, true, true, true, true, true, true, true, true, true, true, true, true, false, false, false] rfl rfl (any_of HT_.out (by kernel_rfl)) (fun _ _ _ h => h) (Or.inr ⟨by rfl, rfl⟩) ?_ ?_
              rotate_left
              ·simp only [Act.put, List.setIfInBounds_toArray, List.set_cons_zero, List.set_cons_succ, i64_w, i32_w]
               rfl
              refine pure_ (i := 35) (N := some 72) (v := undef) (a' := ?_) #[true, true, true, true, true, true, true, true, true, true, true, true, true, true, true, true, true, true, true, true, true, true, true, true, true, true, true, true, true, true, true, true, true, true, true, true, false, false] rfl rfl (any_of HT_.out (by kernel_rfl)) (fun _ _ _ h => h) (Or.inr ⟨by rfl, rfl⟩) ?_ ?_
              rotate_left
              ·simp only [Act.put, List.setIfInBounds_toArray, List.set_cons_zero, List.set_cons_succ, i64_w, i32_w]
               rfl
              refine pure_ (i := 36) (N := some 73) (v := ?_) (a' := ?_) #[true, true, true, true, true, true, true, true, true, true, true, true, true, true, true, true, true, true, true, true, true, true, true, true, true, true, true, true, true, true, true, true, true, true, true, true, true, false] rfl rfl (any_of HT_.out (by kernel_rfl)) (fun _ _ _ h => h) (Or.inl ⟨by rfl, ?_⟩) ?_ ?_
              rotate_left
              ·intro w'
               go_simp
               with_reducible rfl
              rotate_left
              ·simp only [Act.put, List.setIfInBounds_toArray, List.set_cons_zero, List.set_cons_succ, i64_w, i32_w]
               rfl
              refine pure_ (i := 37) (N := some 74) (v := ?_) (a' := ?_) #[true, true, true, true, true, true, true, true, true, true, true, true, true, true, true, true, true, true, true, true, true, true, true, true, true, true, true, true, true, true, true, true, true, true, true, true, true, true] rfl rfl (any_of HT_.out (by kernel_rfl)) (fun _ _ _ h => h) (Or.inl ⟨by rfl, ?_⟩) ?_ ?_
              rotate_left
              ·intro w'
               go_simp
               with_reducible rfl
              rotate_left
              ·simp only [Act.put, List.setIfInBounds_toArray, List.set_cons_zero, List.set_cons_succ, i64_w, i32_w]
               rfl
              refine done_ (done_of HT_.out (by kernel_rfl)) ?_
              try go_wp2
              go_roundg k1
              case measure => have := HK1.out; omega
              case rel => exact ⟨(wrap64 (x6_1 + 1)), (by first | rfl | (simp; done) | (simp [*]; done)), H', ⟨by have := HK1.out; omega⟩, ⟨rl HO_5.out⟩, ⟨rl HO_526000.out⟩, ⟨rl HO_526001.out⟩, ⟨rl HO_526002.out⟩, ⟨kl BK525.out⟩, ⟨by exact bs1 GE525.out HB.out⟩⟩
            ·rw [if_neg c44] at H
             have c44b0 : ((rd t518 (rd t526 x6_1)) == t524) = false := beq_eq_false_iff_ne.mpr c44
             have c44b1 : ((rd t518 (rd t526 x6_1)) != t524) = true := bne_iff_ne.mpr c44
             exact absurd H (by simp)
           ·rw [if_neg c43] at H
            exact absurd H (by simp)
         ·rw [if_neg c34] at H
          exact absurd H (by simp)
        ·rw [if_neg c33] at H
         exact absurd H (by simp)
       ·rw [if_neg c32] at H
        exact absurd H (by simp)
      ·rw [if_neg c31] at H
       have c31b0 : decide (x6_1 < (t526.length : Int)) = false := decide_eq_false c31
       clear c31
       by_cases c52 : 0 < (t526.length : Int)
       ·rw [if_pos c52] at H
        have c52b0 : decide (0 < (t526.length : Int)) = true := decide_eq_true c52
        have c52b1 : decide (0 < t526.length) = true := decide_eq_true (by omega)
        clear c52
        replace H := Option.bind_eq_some_iff.mp H
        obtain ⟨⟨t542, t545, t548, t551⟩, A530, H⟩ := H
        replace H : ((impl_PutRight.f k1 t542 t545 t548 (rd t526 0) (-1)).bind fun bt554 => (if t551 = true then (if bt554.2.2.2 = true then ((impl_SourcesOf.f k1 bt554.1 bt554.2.1 bt554.2.2.1 t524).bind fun t565 => (some ((t565.length : Int) == (wrap64 ((t526.length : Int) - 1))))) else (none)) else (none))) = some r := H
        have A53 := am A530
        clear A530
        replace H := Option.bind_eq_some_iff.mp H
        obtain ⟨⟨t554, t557, t560, t563⟩, A540, H⟩ := H
        replace H : (if t551 = true then (if t563 = true then ((impl_SourcesOf.f k1 t554 t557 t560 t524).bind fun t565 => (some ((t565.length : Int) == (wrap64 ((t526.length : Int) - 1))))) else (none)) else (none)) = some r := H
        have A54 := am A540
        clear A540
        by_cases c55 : t551 = true
        ·subst c55
         have H1 : (if t563 = true then ((impl_SourcesOf.f k1 t554 t557 t560 t524).bind fun t565 => (some ((t565.length : Int) == (wrap64 ((t526.length : Int) - 1))))) else (none)) = some r := by rw [if_pos rfl] at H; exact H
         clear H
         have H := H1
         clear H1
         by_cases c56 : t563 = true
         ·subst c56
          have H1 : ((impl_SourcesOf.f k1 t554 t557 t560 t524).bind fun t565 => (some ((t565.length : Int) == (wrap64 ((t526.length : Int) - 1))))) = some r := by rw [if_pos rfl] at H; exact H
          clear H
          have H := H1
          clear H1
          replace H := Option.bind_eq_some_iff.mp H
          obtain ⟨t565, A570, H⟩ := H
          replace H : (some ((t565.length : Int) == (wrap64 ((t526.length : Int) - 1)))) = some r := H
          have A57 := am A570
          clear A570
          obtain rfl := Option.some.inj H
          try go_wp2
          replace HO_5 := am (Kd.R_drew HO_5.out)
          replace HO_526000 := am (Kd.R_drew HO_526000.out)
          replace HO_526001 := am (Kd.R_drew HO_526001.out)
          replace HO_526002 := am (Kd.R_drew HO_526002.out)
          replace BK525 := am (blk_drew BK525.out)
          replace HB := am (below_drew1 HB.out)
          have p541 : 0 ≤ (0 : Int) := (by omega)
          have q541 : 0 < (t526.length : Int) := of_decide_eq_true (by first | (with_reducible assumption) | assumption)
          obtain ⟨ad541, e541, hx541_0⟩ := Kd.at_int (Kd.R_reads' HO_5.out).2.2 0 p541 q541
          cases e541
          have qi541 : (0 < t526.length) = True := eq_true (by omega)
          (try rw [show ((0 : Int)).toNat = 0 from rfl] at hx541_0)
          (try rw [Addr.add_zero'] at hx541_0)
          replace p541 := eq_true p541
          replace q541 := eq_true q541
          refine start_ (n := 11) (S := fun w' => w'.cell? ⟨gb525, 0, none⟩ = some (.slice Ao22 t515.length co22) ∧ w'.cell? ⟨gb525, 1, none⟩ = some (.slice Ao24 t518.length co24) ∧ w'.cell? ⟨gb525, 2, none⟩ = some (.slice Ao25 t521.length co25) ∧ w'.cell? ad541 = some (.int .i64 (rd t526 0))) (ds := []) #[false, false, false, false, false, false, false, false, false, false, false] (by kernel_rfl) rfl rfl ⟨(blk_cell BK525.out 0).trans rfl, (blk_cell BK525.out 1).trans rfl, (blk_cell BK525.out 2).trans rfl, hx541_0⟩ (fun hHeld => ?_); refine with_tabW laws_FnSourcesOf.tab14 laws_FnSourcesOf.bits14 (fun HT_ HW_ => ?_)
          generalize wr.drew = w58 at HO_5 HO_526000 HO_526001 HO_526002 BK525 HB hx541_0 hHeld ⊢
          refine pure_ (i := 1) (N := some 77) (v := ?_) (a' := ?_) #[false, true, false, false, false, false, false, false, false, false, false] rfl rfl (any_of HT_.out (by kernel_rfl)) (fun _ _ _ h => h) (Or.inl ⟨by rfl, ?_⟩) ?_ ?_
          rotate_left
          ·intro w'
           go_simp
           with_reducible rfl
          rotate_left
          ·simp only [Act.put, List.setIfInBounds_toArray, List.set_cons_zero, List.set_cons_succ, i64_w, i32_w]
           rfl
          refine pure_ (i := 2) (N := some 78) (v := ?_) (a' := ?_) #[false, true, true, false, false, false, false, false, false, false, false] rfl rfl (any_of HT_.out (by kernel_rfl)) (fun _ _ _ h => h) (Or.inl ⟨by rfl, ?_⟩) ?_ ?_
          rotate_left
          ·intro w'
           go_simp
           with_reducible rfl
          rotate_left
          ·simp only [Act.put, List.setIfInBounds_toArray, List.set_cons_zero, List.set_cons_succ, i64_w, i32_w]
           rfl
          refine take_ (i := 0) (N := some 76) (v := ?_) (a' := ?_) #[true, true, true, false, false, false, false, false, false, false, false] rfl rfl (take_ofW HT_.out HW_.out (by kernel_rfl)) (fun _ _ _ h => h) (Or.inl ⟨by rfl, ?_⟩) hHeld ?_ ?_
          rotate_left
          ·rintro w' ⟨s0, s1, s2, s3⟩
           go_simp
           with_reducible rfl
          rotate_left
          ·simp only [Act.put, List.setIfInBounds_toArray, List.set_cons_zero, List.set_cons_succ, i64_w, i32_w]
           rfl
          refine take_ (i := 3) (N := some 79) (v := ?_) (a' := ?_) #[true, true, true, true, false, false, false, false, false, false, false] rfl rfl (take_ofW HT_.out HW_.out (by kernel_rfl)) (fun _ _ _ h => h) (Or.inl ⟨by rfl, ?_⟩) hHeld ?_ ?_
          rotate_left
          ·rintro w' ⟨s0, s1, s2, s3⟩
           go_simp
           with_reducible rfl
          rotate_left
          ·simp only [Act.put, List.setIfInBounds_toArray, List.set_cons_zero, List.set_cons_succ, i64_w, i32_w]
           rfl
          refine join_ (σ := Value × Value × Value × Nat) 2 #[true, true, true, true, true, true, true, true, true, false, false] (fun s_ => [(80, .tuple #[.agg #[s_.1, s_.2.1, s_.2.2.1], .bool true]), (7, .pointer (some ⟨s_.2.2.2, 0, none⟩)), (75, .tuple #[.agg #[s_.1, s_.2.1, s_.2.2.1], .bool true]), (81, .agg #[s_.1, s_.2.1, s_.2.2.1]), (82, .bool true)]) (fun s_ w' => (w'.cell? ⟨gb525, 0, none⟩ = some (.slice Ao22 t515.length co22) ∧ w'.cell? ⟨gb525, 1, none⟩ = some (.slice Ao24 t518.length co24) ∧ w'.cell? ⟨gb525, 2, none⟩ = some (.slice Ao25 t521.length co25) ∧ w'.cell? ad541 = some (.int .i64 (rd t526 0))) ∧ (Kd.R (Kd.int .i64) 3 w' w.heap.size (fun k_ => some k_ ≠ (s_.2.1 : Value).ownBlock ∧ some k_ ≠ (s_.2.2.1 : Value).ownBlock ∧ some k_ ≠ (.slice (some ad541) t526.length co29 : Value).ownBlock ∧ some k_ ≠ (.slice Ao22 t515.length co22 : Value).ownBlock ∧ some k_ ≠ (.slice Ao24 t518.length co24 : Value).ownBlock ∧ some k_ ≠ (.slice Ao25 t521.length co25 : Value).ownBlock) s_.1 t542) ∧ (Kd.R (Kd.int .i64) 3 w' w.heap.size (fun k_ => some k_ ≠ (s_.1 : Value).ownBlock ∧ some k_ ≠ (s_.2.2.1 : Value).ownBlock ∧ some k_ ≠ (.slice (some ad541) t526.length co29 : Value).ownBlock ∧ some k_ ≠ (.slice Ao22 t515.length co22 : Value).ownBlock ∧ some k_ ≠ (.slice Ao24 t518.length co24 : Value).ownBlock ∧ some k_ ≠ (.slice Ao25 t521.length co25 : Value).ownBlock) s_.2.1 t545) ∧ (Kd.R (Kd.int .i64) 3 w' w.heap.size (fun k_ => some k_ ≠ (s_.1 : Value).ownBlock ∧ some k_ ≠ (s_.2.1 : Value).ownBlock ∧ some k_ ≠ (.slice (some ad541) t526.length co29 : Value).ownBlock ∧ some k_ ≠ (.slice Ao22 t515.length co22 : Value).ownBlock ∧ some k_ ≠ (.slice Ao24 t518.length co24 : Value).ownBlock ∧ some k_ ≠ (.slice Ao25 t521.length co25 : Value).ownBlock) s_.2.2.1 t548) ∧ (Kd.R (Kd.int .i64) 3 w' w.heap.size (fun k_ => some k_ ≠ (s_.1 : Value).ownBlock ∧ some k_ ≠ (s_.2.1 : Value).ownBlock ∧ some k_ ≠ (s_.2.2.1 : Value).ownBlock ∧ some k_ ≠ (.slice Ao22 t515.length co22 : Value).ownBlock ∧ some k_ ≠ (.slice Ao24 t518.length co24 : Value).ownBlock ∧ some k_ ≠ (.slice Ao25 t521.length co25 : Value).ownBlock) (.slice (some ad541) t526.length co29) t526) ∧ (Kd.R (Kd.int .i64) 3 w' w.heap.size (fun k_ => some k_ ≠ (s_.1 : Value).ownBlock ∧ some k_ ≠ (s_.2.1 : Value).ownBlock ∧ some k_ ≠ (s_.2.2.1 : Value).ownBlock ∧ some k_ ≠ (.slice (some ad541) t526.length co29 : Value).ownBlock ∧ some k_ ≠ (.slice Ao24 t518.length co24 : Value).ownBlock ∧ some k_ ≠ (.slice Ao25 t521.length co25 : Value).ownBlock) (.slice Ao22 t515.length co22) t515) ∧ (Kd.R (Kd.int .i64) 3 w' w.heap.size (fun k_ => some k_ ≠ (s_.1 : Value).ownBlock ∧ some k_ ≠ (s_.2.1 : Value).ownBlock ∧ some k_ ≠ (s_.2.2.1 : Value).ownBlock ∧ some k_ ≠ (.slice (some ad541) t526.length co29 : Value).ownBlock ∧ some k_ ≠ (.slice Ao22 t515.length co22 : Value).ownBlock ∧ some k_ ≠ (.slice Ao25 t521.length co25 : Value).ownBlock) (.slice Ao24 t518.length co24) t518) ∧ (Kd.R (Kd.int .i64) 3 w' w.heap.size (fun k_ => some k_ ≠ (s_.1 : Value).ownBlock ∧ some k_ ≠ (s_.2.1 : Value).ownBlock ∧ some k_ ≠ (s_.2.2.1 : Value).ownBlock ∧ some k_ ≠ (.slice (some ad541) t526.length co29 : Value).ownBlock ∧ some k_ ≠ (.slice Ao22 t515.length co22 : Value).ownBlock ∧ some k_ ≠ (.slice Ao24 t518.length co24 : Value).ownBlock) (.slice Ao25 t521.length co25) t521) ∧ (w'.heap[gb525]? = some (.cells #[.slice Ao22 t515.length co22, .slice Ao24 t518.length co24, .slice Ao25 t521.length co25] 25 (0, 0))) ∧ (w'.heap[s_.2.2.2]? = some (.cells #[.slice none 0 0, .slice none 0 0, .slice none 0 0] 25 (0, 0))) ∧ (w.heap.size ≤ s_.2.2.2) ∧ (w.heap.size ≤ s_.2.2.2) ∧ (gb525 ≠ s_.2.2.2) ∧ (s_.2.2.2 ≠ gb525) ∧ (Below w.heap.size w w')) ?_ ?_
          rotate_left
          ·intro hCont
           refine two_ (i := 4) (j := 8) (Ni := some 80) (Nj := some 7) #[true, true, true, true, true, false, false, false, false, false, false] #[true, true, true, true, false, false, false, false, true, false, false] rfl rfl rfl rfl (two_of HT_.out (by kernel_rfl)) (by decide) (by decide) (fun K hK => ?_) (fun K hK => ?_)
           ·skip
            refine goes_ Try.func16 (by kernel_rfl) rfl #[.agg #[.slice Ao22 t515.length co22, .slice Ao24 t518.length co24, .slice Ao25 t521.length co25], .int .i64 (rd t526 0), .int .i64 (-1)] (by rfl) rfl rfl (by (try simp only [List.map_toArray, List.map_cons, List.map_nil]); first | done | rfl | (simp only [List.length_drop, List.length_take]; rfl)) ?_
            with_reducible refine (impl_PutLeft.calls k1 _ _ t515 _ _ t518 _ _ t521 (rd t526 0) (-1) t542 t545 t548 true _ ?side1 ?side2 ?side3 ?side4 ?side5 ?side6 A53.out).mono ?_
            (case side1 => exact cl ((Kd.R_reads' HO_526000.out).2.2))
            (case side2 => exact (Kd.R_reads' HO_526000.out).2.1)
            (case side3 => exact cl ((Kd.R_reads' HO_526001.out).2.2))
            (case side4 => exact (Kd.R_reads' HO_526001.out).2.1)
            (case side5 => exact cl ((Kd.R_reads' HO_526002.out).2.2))
            (case side6 => exact (Kd.R_reads' HO_526002.out).2.1)
            rintro e w59 ⟨v543, v546, v549, rfl, ho0, ho1, ho2, hb⟩
            have HS3_ := (hb.cell (World.block_lt_of_cell? _ _ (hHeld.2.2.2))).trans (hHeld.2.2.2)
            refine ⟨_, rfl, ?_⟩
            have HO544 := am (Kd.R_lower (Kd.R_new' (Kd.R_new' (Kd.R_new' (Kd.R_new' ho0 (Kd.R_lt (rl HO_5.out))) (Kd.R_lt (rl HO_526000.out))) (Kd.R_lt (rl HO_526001.out))) (Kd.R_lt (rl HO_526002.out))) (below_size (bs1 GE525.out HB.out)))
            have HO547 := am (Kd.R_lower (Kd.R_new' (Kd.R_new' (Kd.R_new' (Kd.R_new' ho1 (Kd.R_lt (rl HO_5.out))) (Kd.R_lt (rl HO_526000.out))) (Kd.R_lt (rl HO_526001.out))) (Kd.R_lt (rl HO_526002.out))) (below_size (bs1 GE525.out HB.out)))
            have HO550 := am (Kd.R_lower (Kd.R_new' (Kd.R_new' (Kd.R_new' (Kd.R_new' ho2 (Kd.R_lt (rl HO_5.out))) (Kd.R_lt (rl HO_526000.out))) (Kd.R_lt (rl HO_526001.out))) (Kd.R_lt (rl HO_526002.out))) (below_size (bs1 GE525.out HB.out)))
            replace HO_5 := am (Kd.R_mono (Kd.R_told (Kd.R_told (Kd.R_told (Kd.R_old (rl HO_5.out) hb) (Kd.R_base ho0)) (Kd.R_base ho1)) (Kd.R_base ho2)) (fun _ h_ => h_.1))
            replace HO_526000 := am (Kd.R_mono (Kd.R_told (Kd.R_told (Kd.R_told (Kd.R_old (rl HO_526000.out) hb) (Kd.R_base ho0)) (Kd.R_base ho1)) (Kd.R_base ho2)) (fun _ h_ => h_.1))
            replace HO_526001 := am (Kd.R_mono (Kd.R_told (Kd.R_told (Kd.R_told (Kd.R_old (rl HO_526001.out) hb) (Kd.R_base ho0)) (Kd.R_base ho1)) (Kd.R_base ho2)) (fun _ h_ => h_.1))
            replace HO_526002 := am (Kd.R_mono (Kd.R_told (Kd.R_told (Kd.R_told (Kd.R_old (rl HO_526002.out) hb) (Kd.R_base ho0)) (Kd.R_base ho1)) (Kd.R_base ho2)) (fun _ h_ => h_.1))
            replace BK525 := am (blk_below (g := gb525) (o := .cells #[.slice Ao22 t515.length co22, .slice Ao24 t518.length co24, .slice Ao25 t521.length co25] 25 (0, 0)) (kl BK525.out) hb)
            replace HB := am (below_step (bs1 GE525.out HB.out) hb)
            (try clear hb)
            (try clear hb2)
            (try clear hk)
            (try clear hi)
            (try clear ho0)
            (try clear ho1)
            (try clear ho2)
            refine hK.out _ _ ⟨(blk_cell BK525.out 0).trans rfl, (blk_cell BK525.out 1).trans rfl, (blk_cell BK525.out 2).trans rfl, HS3_⟩ (fun hHeld => ?_)
            clear hK K
            refine norm_ (a' := ?_) ?_ ?_
            rotate_left
            ·show Act.put _ (some 80) _ = _
             simp only [Act.put, List.setIfInBounds_toArray, List.set_cons_zero, List.set_cons_succ, i64_w, i32_w]
             rfl
            refine pure_ (i := 5) (N := some 75) (v := ?_) (a' := ?_) #[true, true, true, true, true, true, false, false, false, false, false] rfl rfl (any_of HT_.out (by kernel_rfl)) (fun _ _ _ h => h) (Or.inl ⟨by rfl, ?_⟩) ?_ ?_
            rotate_left
            ·intro w'
             go_simp
             with_reducible rfl
            rotate_left
            ·simp only [Act.put, List.setIfInBounds_toArray, List.set_cons_zero, List.set_cons_succ, i64_w, i32_w]
             rfl
            refine pure_ (i := 6) (N := some 81) (v := ?_) (a' := ?_) #[true, true, true, true, true, true, true, false, false, false, false] rfl rfl (any_of HT_.out (by kernel_rfl)) (fun _ _ _ h => h) (Or.inl ⟨by rfl, ?_⟩) ?_ ?_
            rotate_left
            ·intro w'
             go_simp
             with_reducible rfl
            rotate_left
            ·simp only [Act.put, List.setIfInBounds_toArray, List.set_cons_zero, List.set_cons_succ, i64_w, i32_w]
             rfl
            refine pure_ (i := 7) (N := some 82) (v := ?_) (a' := ?_) #[true, true, true, true, true, true, true, true, false, false, false] rfl rfl (any_of HT_.out (by kernel_rfl)) (fun _ _ _ h => h) (Or.inl ⟨by rfl, ?_⟩) ?_ ?_
            rotate_left
            ·intro w'
             go_simp
             with_reducible rfl
            rotate_left
            ·simp only [Act.put, List.setIfInBounds_toArray, List.set_cons_zero, List.set_cons_succ, i64_w, i32_w]
             rfl
            refine one_ (i := 8) (N := some 7) #[true, true, true, true, true, true, true, true, true, false, false] rfl rfl (one_of HT_.out (by kernel_rfl)) (by decide) (fun K hK => ?_)
            refine box_step ?hg (N := 7) ?hd (cs := #[.slice none 0 0, .slice none 0 0, .slice none 0 0]) (t := 25) ?hr ?_; (case hd => rfl); (case hg => rfl); (case hr => first | (go_simp; done) | (go_simp; rfl))
            intro gb552 hg w60 hbox hb
            have HS3_ := (hb.cell (World.block_lt_of_cell? _ _ (hHeld.2.2.2))).trans (hHeld.2.2.2)
            replace HO_5 := am (Kd.R_below (rl HO_5.out) hb)
            replace HO_526000 := am (Kd.R_below (rl HO_526000.out) hb)
            replace HO_526001 := am (Kd.R_below (rl HO_526001.out) hb)
            replace HO_526002 := am (Kd.R_below (rl HO_526002.out) hb)
            replace HO544 := am (Kd.R_below (rl HO544.out) hb)
            replace HO547 := am (Kd.R_below (rl HO547.out) hb)
            replace HO550 := am (Kd.R_below (rl HO550.out) hb)
            have BK552 := am (hbox)
            have GW552 := am ((by rw [hg]; exact (below_size (bs1 GE525.out HB.out)) : w.heap.size ≤ gb552))
            have GE552 := am ((by rw [hg]; exact (below_size (bs1 GE525.out HB.out)) : w.heap.size ≤ gb552))
            replace HB := am (below_step (bs1 GE525.out HB.out) hb)
            have NB525_552 := am ((by rw [hg]; exact Nat.ne_of_lt (blk_lt (g := gb525) (o := .cells #[.slice Ao22 t515.length co22, .slice Ao24 t518.length co24, .slice Ao25 t521.length co25] 25 (0, 0)) (kl BK525.out)) : gb525 ≠ gb552))
            have NB552_525 := am ((by rw [hg]; exact Nat.ne_of_gt (blk_lt (g := gb525) (o := .cells #[.slice Ao22 t515.length co22, .slice Ao24 t518.length co24, .slice Ao25 t521.length co25] 25 (0, 0)) (kl BK525.out)) : gb552 ≠ gb525))
            replace BK525 := am (blk_below (g := gb525) (o := .cells #[.slice Ao22 t515.length co22, .slice Ao24 t518.length co24, .slice Ao25 t521.length co25] 25 (0, 0)) (kl BK525.out) hb)
            clear hb hbox hg
            refine hK.out _ _ ⟨(blk_cell BK525.out 0).trans rfl, (blk_cell BK525.out 1).trans rfl, (blk_cell BK525.out 2).trans rfl, HS3_⟩ (fun hHeld => ?_)
            clear hK K
            refine norm_ (a' := ?_) ?_ ?_
            rotate_left
            ·show Act.put _ (some 7) _ = _
             simp only [Act.put, List.setIfInBounds_toArray, List.set_cons_zero, List.set_cons_succ, i64_w, i32_w]
             rfl
            exact norm_ (by simp only [putAll, Act.put, List.setIfInBounds_toArray, List.set_cons_zero, List.set_cons_succ]) (hCont (v543, v546, v549, gb552) _ ⟨hHeld, (rl (Kd.R_mono HO544.out (fun _ hk => by simp only [ne_eq] at hk ⊢; simp only [hk, not_false_eq_true, and_self]))), (rl (Kd.R_mono HO547.out (fun _ hk => by simp only [ne_eq] at hk ⊢; simp only [hk, not_false_eq_true, and_self]))), (rl (Kd.R_mono HO550.out (fun _ hk => by simp only [ne_eq] at hk ⊢; simp only [hk, not_false_eq_true, and_self]))), (rl (Kd.R_mono HO_5.out (fun _ hk => by simp only [ne_eq] at hk ⊢; simp only [hk, not_false_eq_true, and_self]))), (rl (Kd.R_mono HO_526000.out (fun _ hk => by simp only [ne_eq] at hk ⊢; simp only [hk, not_false_eq_true, and_self]))), (rl (Kd.R_mono HO_526001.out (fun _ hk => by simp only [ne_eq] at hk ⊢; simp only [hk, not_false_eq_true, and_self]))), (rl (Kd.R_mono HO_526002.out (fun _ hk => by simp only [ne_eq] at hk ⊢; simp only [hk, not_false_eq_true, and_self]))), (kl BK525.out), (kl BK552.out), GW552.out, GE552.out, NB525_552.out, NB552_525.out, (bs2 GE525.out GE552.out HB.out)⟩)
           ·skip
            refine box_step ?hg (N := 7) ?hd (cs := #[.slice none 0 0, .slice none 0 0, .slice none 0 0]) (t := 25) ?hr ?_; (case hd => rfl); (case hg => rfl); (case hr => first | (go_simp; done) | (go_simp; rfl))
            intro gb552 hg w59 hbox hb
            have HS3_ := (hb.cell (World.block_lt_of_cell? _ _ (hHeld.2.2.2))).trans (hHeld.2.2.2)
            replace HO_5 := am (Kd.R_below (rl HO_5.out) hb)
            replace HO_526000 := am (Kd.R_below (rl HO_526000.out) hb)
            replace HO_526001 := am (Kd.R_below (rl HO_526001.out) hb)
            replace HO_526002 := am (Kd.R_below (rl HO_526002.out) hb)
            have BK552 := am (hbox)
            have GW552 := am ((by rw [hg]; exact (below_size (bs1 GE525.out HB.out)) : w.heap.size ≤ gb552))
            have GE552 := am ((by rw [hg]; exact (below_size (bs1 GE525.out HB.out)) : w.heap.size ≤ gb552))
            replace HB := am (below_step (bs1 GE525.out HB.out) hb)
            have NB525_552 := am ((by rw [hg]; exact Nat.ne_of_lt (blk_lt (g := gb525) (o := .cells #[.slice Ao22 t515.length co22, .slice Ao24 t518.length co24, .slice Ao25 t521.length co25] 25 (0, 0)) (kl BK525.out)) : gb525 ≠ gb552))
            have NB552_525 := am ((by rw [hg]; exact Nat.ne_of_gt (blk_lt (g := gb525) (o := .cells #[.slice Ao22 t515.length co22, .slice Ao24 t518.length co24, .slice Ao25 t521.length co25] 25 (0, 0)) (kl BK525.out)) : gb552 ≠ gb525))
            replace BK525 := am (blk_below (g := gb525) (o := .cells #[.slice Ao22 t515.length co22, .slice Ao24 t518.length co24, .slice Ao25 t521.length co25] 25 (0, 0)) (kl BK525.out) hb)
            clear hb hbox hg
            refine hK.out _ _ ⟨(blk_cell BK525.out 0).trans rfl, (blk_cell BK525.out 1).trans rfl, (blk_cell BK525.out 2).trans rfl, HS3_⟩ (fun hHeld => ?_)
            clear hK K
            refine norm_ (a' := ?_) ?_ ?_
            rotate_left
            ·show Act.put _ (some 7) _ = _
             simp only [Act.put, List.setIfInBounds_toArray, List.set_cons_zero, List.set_cons_succ, i64_w, i32_w]
             rfl
            refine one_ (i := 4) (N := some 80) #[true, true, true, true, true, false, false, false, true, false, false] rfl rfl (one_of HT_.out (by kernel_rfl)) (by decide) (fun K hK => ?_)
            refine goes_ Try.func16 (by kernel_rfl) rfl #[.agg #[.slice Ao22 t515.length co22, .slice Ao24 t518.length co24, .slice Ao25 t521.length co25], .int .i64 (rd t526 0), .int .i64 (-1)] (by rfl) rfl rfl (by (try simp only [List.map_toArray, List.map_cons, List.map_nil]); first | done | rfl | (simp only [List.length_drop, List.length_take]; rfl)) ?_
            with_reducible refine (impl_PutLeft.calls k1 _ _ t515 _ _ t518 _ _ t521 (rd t526 0) (-1) t542 t545 t548 true _ ?side1 ?side2 ?side3 ?side4 ?side5 ?side6 A53.out).mono ?_
            (case side1 => exact cl ((Kd.R_reads' HO_526000.out).2.2))
            (case side2 => exact (Kd.R_reads' HO_526000.out).2.1)
            (case side3 => exact cl ((Kd.R_reads' HO_526001.out).2.2))
            (case side4 => exact (Kd.R_reads' HO_526001.out).2.1)
            (case side5 => exact cl ((Kd.R_reads' HO_526002.out).2.2))
            (case side6 => exact (Kd.R_reads' HO_526002.out).2.1)
            rintro e w60 ⟨v543, v546, v549, rfl, ho0, ho1, ho2, hb⟩
            have HS3_ := (hb.cell (World.block_lt_of_cell? _ _ (hHeld.2.2.2))).trans (hHeld.2.2.2)
            refine ⟨_, rfl, ?_⟩
            have HO544 := am (Kd.R_lower (Kd.R_new' (Kd.R_new' (Kd.R_new' (Kd.R_new' ho0 (Kd.R_lt (rl HO_5.out))) (Kd.R_lt (rl HO_526000.out))) (Kd.R_lt (rl HO_526001.out))) (Kd.R_lt (rl HO_526002.out))) (below_size (bs2 GE525.out GE552.out HB.out)))
            have HO547 := am (Kd.R_lower (Kd.R_new' (Kd.R_new' (Kd.R_new' (Kd.R_new' ho1 (Kd.R_lt (rl HO_5.out))) (Kd.R_lt (rl HO_526000.out))) (Kd.R_lt (rl HO_526001.out))) (Kd.R_lt (rl HO_526002.out))) (below_size (bs2 GE525.out GE552.out HB.out)))
            have HO550 := am (Kd.R_lower (Kd.R_new' (Kd.R_new' (Kd.R_new' (Kd.R_new' ho2 (Kd.R_lt (rl HO_5.out))) (Kd.R_lt (rl HO_526000.out))) (Kd.R_lt (rl HO_526001.out))) (Kd.R_lt (rl HO_526002.out))) (below_size (bs2 GE525.out GE552.out HB.out)))
            replace HO_5 := am (Kd.R_mono (Kd.R_told (Kd.R_told (Kd.R_told (Kd.R_old (rl HO_5.out) hb) (Kd.R_base ho0)) (Kd.R_base ho1)) (Kd.R_base ho2)) (fun _ h_ => h_.1))
            replace HO_526000 := am (Kd.R_mono (Kd.R_told (Kd.R_told (Kd.R_told (Kd.R_old (rl HO_526000.out) hb) (Kd.R_base ho0)) (Kd.R_base ho1)) (Kd.R_base ho2)) (fun _ h_ => h_.1))
            replace HO_526001 := am (Kd.R_mono (Kd.R_told (Kd.R_told (Kd.R_told (Kd.R_old (rl HO_526001.out) hb) (Kd.R_base ho0)) (Kd.R_base ho1)) (Kd.R_base ho2)) (fun _ h_ => h_.1))
            replace HO_526002 := am (Kd.R_mono (Kd.R_told (Kd.R_told (Kd.R_told (Kd.R_old (rl HO_526002.out) hb) (Kd.R_base ho0)) (Kd.R_base ho1)) (Kd.R_base ho2)) (fun _ h_ => h_.1))
            replace BK525 := am (blk_below (g := gb525) (o := .cells #[.slice Ao22 t515.length co22, .slice Ao24 t518.length co24, .slice Ao25 t521.length co25] 25 (0, 0)) (kl BK525.out) hb)
            replace BK552 := am (blk_below (g := gb552) (o := .cells #[.slice none 0 0, .slice none 0 0, .slice none 0 0] 25 (0, 0)) (kl BK552.out) hb)
            replace HB := am (below_step (bs2 GE525.out GE552.out HB.out) hb)
            (try clear hb)
            (try clear hb2)
            (try clear hk)
            (try clear hi)
            (try clear ho0)
            (try clear ho1)
            (try clear ho2)
            refine hK.out _ _ ⟨(blk_cell BK525.out 0).trans rfl, (blk_cell BK525.out 1).trans rfl, (blk_cell BK525.out 2).trans rfl, HS3_⟩ (fun hHeld => ?_)
            clear hK K
            refine norm_ (a' := ?_) ?_ ?_
            rotate_left
            ·show Act.put _ (some 80) _ = _
             simp only [Act.put, List.setIfInBounds_toArray, List.set_cons_zero, List.set_cons_succ, i64_w, i32_w]
             rfl
            refine pure_ (i := 5) (N := some 75) (v := ?_) (a' := ?_) #[true, true, true, true, true, true, false, false, true, false, false] rfl rfl (any_of HT_.out (by kernel_rfl)) (fun _ _ _ h => h) (Or.inl ⟨by rfl, ?_⟩) ?_ ?_
            rotate_left
            ·intro w'
             go_simp
             with_reducible rfl
            rotate_left
            ·simp only [Act.put, List.setIfInBounds_toArray, List.set_cons_zero, List.set_cons_succ, i64_w, i32_w]
             rfl
            refine pure_ (i := 6) (N := some 81) (v := ?_) (a' := ?_) #[true, true, true, true, true, true, true, false, true, false, false] rfl rfl (any_of HT_.out (by kernel_rfl)) (fun _ _ _ h => h) (Or.inl ⟨by rfl, ?_⟩) ?_ ?_
            rotate_left
            ·intro w'
             go_simp
             with_reducible rfl
            rotate_left
            ·simp only [Act.put, List.setIfInBounds_toArray, List.set_cons_zero, List.set_cons_succ, i64_w, i32_w]
             rfl
            refine pure_ (i := 7) (N := some 82) (v := ?_) (a' := ?_) #[true, true, true, true, true, true, true, true, true, false, false] rfl rfl (any_of HT_.out (by kernel_rfl)) (fun _ _ _ h => h) (Or.inl ⟨by rfl, ?_⟩) ?_ ?_
            rotate_left
            ·intro w'
             go_simp
             with_reducible rfl
            rotate_left
            ·simp only [Act.put, List.setIfInBounds_toArray, List.set_cons_zero, List.set_cons_succ, i64_w, i32_w]
             rfl
            exact norm_ (by simp only [putAll, Act.put, List.setIfInBounds_toArray, List.set_cons_zero, List.set_cons_succ]) (hCont (v543, v546, v549, gb552) _ ⟨hHeld, (rl (Kd.R_mono HO544.out (fun _ hk => by simp only [ne_eq] at hk ⊢; simp only [hk, not_false_eq_true, and_self]))), (rl (Kd.R_mono HO547.out (fun _ hk => by simp only [ne_eq] at hk ⊢; simp only [hk, not_false_eq_true, and_self]))), (rl (Kd.R_mono HO550.out (fun _ hk => by simp only [ne_eq] at hk ⊢; simp only [hk, not_false_eq_true, and_self]))), (rl (Kd.R_mono HO_5.out (fun _ hk => by simp only [ne_eq] at hk ⊢; simp only [hk, not_false_eq_true, and_self]))), (rl (Kd.R_mono HO_526000.out (fun _ hk => by simp only [ne_eq] at hk ⊢; simp only [hk, not_false_eq_true, and_self]))), (rl (Kd.R_mono HO_526001.out (fun _ hk => by simp only [ne_eq] at hk ⊢; simp only [hk, not_false_eq_true, and_self]))), (rl (Kd.R_mono HO_526002.out (fun _ hk => by simp only [ne_eq] at hk ⊢; simp only [hk, not_false_eq_true, and_self]))), (kl BK525.out), (kl BK552.out), GW552.out, GE552.out, NB525_552.out, NB552_525.out, (bs2 GE525.out GE552.out HB.out)⟩)
          rintro ⟨v543, v546, v549, gb552⟩ w61 ⟨hS_, h0_, h1_, h2_, h3_, h4_, h5_, h6_, h7_, h8_, h9_, h10_, h11_, h12_, h13_⟩
          have HO544 : Aside0 (Kd.R (Kd.int .i64) 3 w61 w.heap.size (fun k_ => some k_ ≠ (v546 : Value).ownBlock ∧ some k_ ≠ (v549 : Value).ownBlock ∧ some k_ ≠ (.slice (some ad541) t526.length co29 : Value).ownBlock ∧ some k_ ≠ (.slice Ao22 t515.length co22 : Value).ownBlock ∧ some k_ ≠ (.slice Ao24 t518.length co24 : Value).ownBlock ∧ some k_ ≠ (.slice Ao25 t521.length co25 : Value).ownBlock) v543 t542) := ⟨h0_⟩
          have HO547 : Aside0 (Kd.R (Kd.int .i64) 3 w61 w.heap.size (fun k_ => some k_ ≠ (v543 : Value).ownBlock ∧ some k_ ≠ (v549 : Value).ownBlock ∧ some k_ ≠ (.slice (some ad541) t526.length co29 : Value).ownBlock ∧ some k_ ≠ (.slice Ao22 t515.length co22 : Value).ownBlock ∧ some k_ ≠ (.slice Ao24 t518.length co24 : Value).ownBlock ∧ some k_ ≠ (.slice Ao25 t521.length co25 : Value).ownBlock) v546 t545) := ⟨h1_⟩
          have HO550 : Aside0 (Kd.R (Kd.int .i64) 3 w61 w.heap.size (fun k_ => some k_ ≠ (v543 : Value).ownBlock ∧ some k_ ≠ (v546 : Value).ownBlock ∧ some k_ ≠ (.slice (some ad541) t526.length co29 : Value).ownBlock ∧ some k_ ≠ (.slice Ao22 t515.length co22 : Value).ownBlock ∧ some k_ ≠ (.slice Ao24 t518.length co24 : Value).ownBlock ∧ some k_ ≠ (.slice Ao25 t521.length co25 : Value).ownBlock) v549 t548) := ⟨h2_⟩
          replace HO_5 : Aside0 (Kd.R (Kd.int .i64) 3 w61 w.heap.size (fun k_ => some k_ ≠ (v543 : Value).ownBlock ∧ some k_ ≠ (v546 : Value).ownBlock ∧ some k_ ≠ (v549 : Value).ownBlock ∧ some k_ ≠ (.slice Ao22 t515.length co22 : Value).ownBlock ∧ some k_ ≠ (.slice Ao24 t518.length co24 : Value).ownBlock ∧ some k_ ≠ (.slice Ao25 t521.length co25 : Value).ownBlock) (.slice (some ad541) t526.length co29) t526) := ⟨h3_⟩
          replace HO_526000 : Aside0 (Kd.R (Kd.int .i64) 3 w61 w.heap.size (fun k_ => some k_ ≠ (v543 : Value).ownBlock ∧ some k_ ≠ (v546 : Value).ownBlock ∧ some k_ ≠ (v549 : Value).ownBlock ∧ some k_ ≠ (.slice (some ad541) t526.length co29 : Value).ownBlock ∧ some k_ ≠ (.slice Ao24 t518.length co24 : Value).ownBlock ∧ some k_ ≠ (.slice Ao25 t521.length co25 : Value).ownBlock) (.slice Ao22 t515.length co22) t515) := ⟨h4_⟩
          replace HO_526001 : Aside0 (Kd.R (Kd.int .i64) 3 w61 w.heap.size (fun k_ => some k_ ≠ (v543 : Value).ownBlock ∧ some k_ ≠ (v546 : Value).ownBlock ∧ some k_ ≠ (v549 : Value).ownBlock ∧ some k_ ≠ (.slice (some ad541) t526.length co29 : Value).ownBlock ∧ some k_ ≠ (.slice Ao22 t515.length co22 : Value).ownBlock ∧ some k_ ≠ (.slice Ao25 t521.length co25 : Value).ownBlock) (.slice Ao24 t518.length co24) t518) := ⟨h5_⟩
          replace HO_526002 : Aside0 (Kd.R (Kd.int .i64) 3 w61 w.heap.size (fun k_ => some k_ ≠ (v543 : Value).ownBlock ∧ some k_ ≠ (v546 : Value).ownBlock ∧ some k_ ≠ (v549 : Value).ownBlock ∧ some k_ ≠ (.slice (some ad541) t526.length co29 : Value).ownBlock ∧ some k_ ≠ (.slice Ao22 t515.length co22 : Value).ownBlock ∧ some k_ ≠ (.slice Ao24 t518.length co24 : Value).ownBlock) (.slice Ao25 t521.length co25) t521) := ⟨h6_⟩
          replace BK525 : Aside0 (w61.heap[gb525]? = some (.cells #[.slice Ao22 t515.length co22, .slice Ao24 t518.length co24, .slice Ao25 t521.length co25] 25 (0, 0))) := ⟨h7_⟩
          have BK552 : Aside0 (w61.heap[gb552]? = some (.cells #[.slice none 0 0, .slice none 0 0, .slice none 0 0] 25 (0, 0))) := ⟨h8_⟩
          have GW552 : Aside0 (w.heap.size ≤ gb552) := ⟨h9_⟩
          have GE552 : Aside0 (w.heap.size ≤ gb552) := ⟨h10_⟩
          have NB525_552 : Aside0 (gb525 ≠ gb552) := ⟨h11_⟩
          have NB552_525 : Aside0 (gb552 ≠ gb525) := ⟨h12_⟩
          replace HB : Aside0 (Below w.heap.size w w61) := ⟨h13_⟩
          clear h0_ h1_ h2_ h3_ h4_ h5_ h6_ h7_ h8_ h9_ h10_ h11_ h12_ h13_
          have hHeld : w61.cell? ⟨gb525, 0, none⟩ = some (.slice Ao22 t515.length co22) ∧ w61.cell? ⟨gb525, 1, none⟩ = some (.slice Ao24 t518.length co24) ∧ w61.cell? ⟨gb525, 2, none⟩ = some (.slice Ao25 t521.length co25) ∧ w61.cell? ad541 = some (.int .i64 (rd t526 0)) := hS_
          obtain ⟨Ao62, co62, eo62⟩ := Kd.R_slice HO544.out
          (first | subst eo62 | (injection eo62 with f1_ f2_ f3_; have f4_ := f1_.symm; have f5_ := f3_.symm; clear f1_ f2_ f3_; subst f4_; subst f5_))
          obtain ⟨Ao64, co64, eo64⟩ := Kd.R_slice HO547.out
          (first | subst eo64 | (injection eo64 with f1_ f2_ f3_; have f4_ := f1_.symm; have f5_ := f3_.symm; clear f1_ f2_ f3_; subst f4_; subst f5_))
          obtain ⟨Ao66, co66, eo66⟩ := Kd.R_slice HO550.out
          (first | subst eo66 | (injection eo66 with f1_ f2_ f3_; have f4_ := f1_.symm; have f5_ := f3_.symm; clear f1_ f2_ f3_; subst f4_; subst f5_))
          refine norm_ (a' := ?_) ?_ ?_
          rotate_left
          ·simp only [putAll, Act.put, List.setIfInBounds_toArray, List.set_cons_zero, List.set_cons_succ]
           rfl
          refine one_ (i := 9) (N := none) #[true, true, true, true, true, true, true, true, true, true, false] rfl rfl (one_of HT_.out (by kernel_rfl)) (by decide) (fun K hK => ?_)
          have hs63 : w61.cell? ⟨gb552, 0, none⟩ = some (.slice none 0 0) := (blk_cell BK552.out 0).trans rfl
          have hfs63 := blk_frozen BK552.out 0
          have hns63_0 := NB525_552.out
          have hms63_0 := NB552_525.out
          have hs65 : w61.cell? ⟨gb552, 1, none⟩ = some (.slice none 0 0) := (blk_cell BK552.out 1).trans rfl
          have hfs65 := blk_frozen BK552.out 1
          have hns65_0 := NB525_552.out
          have hms65_0 := NB552_525.out
          have hs67 : w61.cell? ⟨gb552, 2, none⟩ = some (.slice none 0 0) := (blk_cell BK552.out 2).trans rfl
          have hfs67 := blk_frozen BK552.out 2
          have hns67_0 := NB525_552.out
          have hms67_0 := NB552_525.out
          refine skip_ (w1 := ?_) (by rfl) rfl ?_ ?_
          rotate_left
          ·go_simp
           rfl
          refine hK.out _ _ ⟨((cell_far (p := ⟨gb552, _, none⟩) NB525_552.out _).trans (((cell_far (p := ⟨gb552, _, none⟩) NB525_552.out _).trans (((cell_far (p := ⟨gb552, _, none⟩) NB525_552.out _).trans (hHeld.1)))))), ((cell_far (p := ⟨gb552, _, none⟩) NB525_552.out _).trans (((cell_far (p := ⟨gb552, _, none⟩) NB525_552.out _).trans (((cell_far (p := ⟨gb552, _, none⟩) NB525_552.out _).trans (hHeld.2.1)))))), ((cell_far (p := ⟨gb552, _, none⟩) NB525_552.out _).trans (((cell_far (p := ⟨gb552, _, none⟩) NB525_552.out _).trans (((cell_far (p := ⟨gb552, _, none⟩) NB525_552.out _).trans (hHeld.2.2.1)))))), ((cell_far (p := ⟨gb552, _, none⟩) (by first | exact Kd.own_blk (Kd.R_ne HO_5.out BK552.out (by decide)) | (rw [add_block]; exact Kd.own_blk (Kd.R_ne HO_5.out BK552.out (by decide))) | (show (Addr.add _ _).block ≠ _; rw [add_block]; exact Kd.own_blk (Kd.R_ne HO_5.out BK552.out (by decide))) | (dsimp only; exact Kd.own_blk (Kd.R_ne HO_5.out BK552.out (by decide)))) _).trans (((cell_far (p := ⟨gb552, _, none⟩) (by first | exact Kd.own_blk (Kd.R_ne HO_5.out BK552.out (by decide)) | (rw [add_block]; exact Kd.own_blk (Kd.R_ne HO_5.out BK552.out (by decide))) | (show (Addr.add _ _).block ≠ _; rw [add_block]; exact Kd.own_blk (Kd.R_ne HO_5.out BK552.out (by decide))) | (dsimp only; exact Kd.own_blk (Kd.R_ne HO_5.out BK552.out (by decide)))) _).trans (((cell_far (p := ⟨gb552, _, none⟩) (by first | exact Kd.own_blk (Kd.R_ne HO_5.out BK552.out (by decide)) | (rw [add_block]; exact Kd.own_blk (Kd.R_ne HO_5.out BK552.out (by decide))) | (show (Addr.add _ _).block ≠ _; rw [add_block]; exact Kd.own_blk (Kd.R_ne HO_5.out BK552.out (by decide))) | (dsimp only; exact Kd.own_blk (Kd.R_ne HO_5.out BK552.out (by decide)))) _).trans (hHeld.2.2.2))))))⟩ (fun hHeld => ?_)
          clear hK K
          refine pure_ (i := 10) (N := some 8) (v := ?_) (a' := ?_) #[true, true, true, true, true, true, true, true, true, true, true] rfl rfl (any_of HT_.out (by kernel_rfl)) (fun _ _ _ h => h) (Or.inl ⟨by rfl, ?_⟩) ?_ ?_
          rotate_left
          ·intro w'
           go_simp
           with_reducible rfl
          rotate_left
          ·simp only [Act.put, List.setIfInBounds_toArray, List.set_cons_zero, List.set_cons_succ, i64_w, i32_w]
           rfl
          refine done_ (done_of HT_.out (by kernel_rfl)) ?_
          try go_wp2
          have n0_ : Aside0 (Kd.R (Kd.int .i64) 3 (((w61.setCell ⟨gb552, 0, none⟩ (.slice Ao62 t542.length co62)).setCell ⟨gb552, 1, none⟩ (.slice Ao64 t545.length co64)).setCell ⟨gb552, 2, none⟩ (.slice Ao66 t548.length co66)) w.heap.size (fun k_ => some k_ ≠ (.slice Ao22 t515.length co22 : Value).ownBlock ∧ some k_ ≠ (.slice Ao24 t518.length co24 : Value).ownBlock ∧ some k_ ≠ (.slice Ao25 t521.length co25 : Value).ownBlock ∧ some k_ ≠ (.slice Ao62 t542.length co62 : Value).ownBlock ∧ some k_ ≠ (.slice Ao64 t545.length co64 : Value).ownBlock ∧ some k_ ≠ (.slice Ao66 t548.length co66 : Value).ownBlock) (.slice (some ad541) t526.length co29) t526) := ⟨rl (Kd.R_mono (Kd.R_far (p := ⟨gb552, 2, none⟩) (Kd.R_far (p := ⟨gb552, 1, none⟩) (Kd.R_far (p := ⟨gb552, 0, none⟩) (Kd.R_types HO_5.out BK552.out (by decide)) (fun _ hk => hk.2) (.slice Ao62 t542.length co62)) (fun _ hk => hk.2) (.slice Ao64 t545.length co64)) (fun _ hk => hk.2) (.slice Ao66 t548.length co66)) (fun _ hk => by simp only [ne_eq] at hk ⊢; simp only [hk, not_false_eq_true, and_self]))⟩
          have n1_ : Aside0 (Kd.R (Kd.int .i64) 3 (((w61.setCell ⟨gb552, 0, none⟩ (.slice Ao62 t542.length co62)).setCell ⟨gb552, 1, none⟩ (.slice Ao64 t545.length co64)).setCell ⟨gb552, 2, none⟩ (.slice Ao66 t548.length co66)) w.heap.size (fun k_ => some k_ ≠ (.slice (some ad541) t526.length co29 : Value).ownBlock ∧ some k_ ≠ (.slice Ao24 t518.length co24 : Value).ownBlock ∧ some k_ ≠ (.slice Ao25 t521.length co25 : Value).ownBlock ∧ some k_ ≠ (.slice Ao62 t542.length co62 : Value).ownBlock ∧ some k_ ≠ (.slice Ao64 t545.length co64 : Value).ownBlock ∧ some k_ ≠ (.slice Ao66 t548.length co66 : Value).ownBlock) (.slice Ao22 t515.length co22) t515) := ⟨rl (Kd.R_mono (Kd.R_far (p := ⟨gb552, 2, none⟩) (Kd.R_far (p := ⟨gb552, 1, none⟩) (Kd.R_far (p := ⟨gb552, 0, none⟩) (Kd.R_types HO_526000.out BK552.out (by decide)) (fun _ hk => hk.2) (.slice Ao62 t542.length co62)) (fun _ hk => hk.2) (.slice Ao64 t545.length co64)) (fun _ hk => hk.2) (.slice Ao66 t548.length co66)) (fun _ hk => by simp only [ne_eq] at hk ⊢; simp only [hk, not_false_eq_true, and_self]))⟩
          have n2_ : Aside0 (Kd.R (Kd.int .i64) 3 (((w61.setCell ⟨gb552, 0, none⟩ (.slice Ao62 t542.length co62)).setCell ⟨gb552, 1, none⟩ (.slice Ao64 t545.length co64)).setCell ⟨gb552, 2, none⟩ (.slice Ao66 t548.length co66)) w.heap.size (fun k_ => some k_ ≠ (.slice (some ad541) t526.length co29 : Value).ownBlock ∧ some k_ ≠ (.slice Ao22 t515.length co22 : Value).ownBlock ∧ some k_ ≠ (.slice Ao25 t521.length co25 : Value).ownBlock ∧ some k_ ≠ (.slice Ao62 t542.length co62 : Value).ownBlock ∧ some k_ ≠ (.slice Ao64 t545.length co64 : Value).ownBlock ∧ some k_ ≠ (.slice Ao66 t548.length co66 : Value).ownBlock) (.slice Ao24 t518.length co24) t518) := ⟨rl (Kd.R_mono (Kd.R_far (p := ⟨gb552, 2, none⟩) (Kd.R_far (p := ⟨gb552, 1, none⟩) (Kd.R_far (p := ⟨gb552, 0, none⟩) (Kd.R_types HO_526001.out BK552.out (by decide)) (fun _ hk => hk.2) (.slice Ao62 t542.length co62)) (fun _ hk => hk.2) (.slice Ao64 t545.length co64)) (fun _ hk => hk.2) (.slice Ao66 t548.length co66)) (fun _ hk => by simp only [ne_eq] at hk ⊢; simp only [hk, not_false_eq_true, and_self]))⟩
          have n3_ : Aside0 (Kd.R (Kd.int .i64) 3 (((w61.setCell ⟨gb552, 0, none⟩ (.slice Ao62 t542.length co62)).setCell ⟨gb552, 1, none⟩ (.slice Ao64 t545.length co64)).setCell ⟨gb552, 2, none⟩ (.slice Ao66 t548.length co66)) w.heap.size (fun k_ => some k_ ≠ (.slice (some ad541) t526.length co29 : Value).ownBlock ∧ some k_ ≠ (.slice Ao22 t515.length co22 : Value).ownBlock ∧ some k_ ≠ (.slice Ao24 t518.length co24 : Value).ownBlock ∧ some k_ ≠ (.slice Ao62 t542.length co62 : Value).ownBlock ∧ some k_ ≠ (.slice Ao64 t545.length co64 : Value).ownBlock ∧ some k_ ≠ (.slice Ao66 t548.length co66 : Value).ownBlock) (.slice Ao25 t521.length co25) t521) := ⟨rl (Kd.R_mono (Kd.R_far (p := ⟨gb552, 2, none⟩) (Kd.R_far (p := ⟨gb552, 1, none⟩) (Kd.R_far (p := ⟨gb552, 0, none⟩) (Kd.R_types HO_526002.out BK552.out (by decide)) (fun _ hk => hk.2) (.slice Ao62 t542.length co62)) (fun _ hk => hk.2) (.slice Ao64 t545.length co64)) (fun _ hk => hk.2) (.slice Ao66 t548.length co66)) (fun _ hk => by simp only [ne_eq] at hk ⊢; simp only [hk, not_false_eq_true, and_self]))⟩
          have n4_ : Aside0 (Kd.R (Kd.int .i64) 3 (((w61.setCell ⟨gb552, 0, none⟩ (.slice Ao62 t542.length co62)).setCell ⟨gb552, 1, none⟩ (.slice Ao64 t545.length co64)).setCell ⟨gb552, 2, none⟩ (.slice Ao66 t548.length co66)) w.heap.size (fun k_ => some k_ ≠ (.slice (some ad541) t526.length co29 : Value).ownBlock ∧ some k_ ≠ (.slice Ao22 t515.length co22 : Value).ownBlock ∧ some k_ ≠ (.slice Ao24 t518.length co24 : Value).ownBlock ∧ some k_ ≠ (.slice Ao25 t521.length co25 : Value).ownBlock ∧ some k_ ≠ (.slice Ao64 t545.length co64 : Value).ownBlock ∧ some k_ ≠ (.slice Ao66 t548.length co66 : Value).ownBlock) (.slice Ao62 t542.length co62) t542) := ⟨rl (Kd.R_mono (Kd.R_far (p := ⟨gb552, 2, none⟩) (Kd.R_far (p := ⟨gb552, 1, none⟩) (Kd.R_far (p := ⟨gb552, 0, none⟩) (Kd.R_types HO544.out BK552.out (by decide)) (fun _ hk => hk.2) (.slice Ao62 t542.length co62)) (fun _ hk => hk.2) (.slice Ao64 t545.length co64)) (fun _ hk => hk.2) (.slice Ao66 t548.length co66)) (fun _ hk => by simp only [ne_eq] at hk ⊢; simp only [hk, not_false_eq_true, and_self]))⟩
          have n5_ : Aside0 (Kd.R (Kd.int .i64) 3 (((w61.setCell ⟨gb552, 0, none⟩ (.slice Ao62 t542.length co62)).setCell ⟨gb552, 1, none⟩ (.slice Ao64 t545.length co64)).setCell ⟨gb552, 2, none⟩ (.slice Ao66 t548.length co66)) w.heap.size (fun k_ => some k_ ≠ (.slice (some ad541) t526.length co29 : Value).ownBlock ∧ some k_ ≠ (.slice Ao22 t515.length co22 : Value).ownBlock ∧ some k_ ≠ (.slice Ao24 t518.length co24 : Value).ownBlock ∧ some k_ ≠ (.slice Ao25 t521.length co25 : Value).ownBlock ∧ some k_ ≠ (.slice Ao62 t542.length co62 : Value).ownBlock ∧ some k_ ≠ (.slice Ao66 t548.length co66 : Value).ownBlock) (.slice Ao64 t545.length co64) t545) := ⟨rl (Kd.R_mono (Kd.R_far (p := ⟨gb552, 2, none⟩) (Kd.R_far (p := ⟨gb552, 1, none⟩) (Kd.R_far (p := ⟨gb552, 0, none⟩) (Kd.R_types HO547.out BK552.out (by decide)) (fun _ hk => hk.2) (.slice Ao62 t542.length co62)) (fun _ hk => hk.2) (.slice Ao64 t545.length co64)) (fun _ hk => hk.2) (.slice Ao66 t548.length co66)) (fun _ hk => by simp only [ne_eq] at hk ⊢; simp only [hk, not_false_eq_true, and_self]))⟩
          have n6_ : Aside0 (Kd.R (Kd.int .i64) 3 (((w61.setCell ⟨gb552, 0, none⟩ (.slice Ao62 t542.length co62)).setCell ⟨gb552, 1, none⟩ (.slice Ao64 t545.length co64)).setCell ⟨gb552, 2, none⟩ (.slice Ao66 t548.length co66)) w.heap.size (fun k_ => some k_ ≠ (.slice (some ad541) t526.length co29 : Value).ownBlock ∧ some k_ ≠ (.slice Ao22 t515.length co22 : Value).ownBlock ∧ some k_ ≠ (.slice Ao24 t518.length co24 : Value).ownBlock ∧ some k_ ≠ (.slice Ao25 t521.length co25 : Value).ownBlock ∧ some k_ ≠ (.slice Ao62 t542.length co62 : Value).ownBlock ∧ some k_ ≠ (.slice Ao64 t545.length co64 : Value).ownBlock) (.slice Ao66 t548.length co66) t548) := ⟨rl (Kd.R_mono (Kd.R_far (p := ⟨gb552, 2, none⟩) (Kd.R_far (p := ⟨gb552, 1, none⟩) (Kd.R_far (p := ⟨gb552, 0, none⟩) (Kd.R_types HO550.out BK552.out (by decide)) (fun _ hk => hk.2) (.slice Ao62 t542.length co62)) (fun _ hk => hk.2) (.slice Ao64 t545.length co64)) (fun _ hk => hk.2) (.slice Ao66 t548.length co66)) (fun _ hk => by simp only [ne_eq] at hk ⊢; simp only [hk, not_false_eq_true, and_self]))⟩
          have n7_ : Aside0 ((((w61.setCell ⟨gb552, 0, none⟩ (.slice Ao62 t542.length co62)).setCell ⟨gb552, 1, none⟩ (.slice Ao64 t545.length co64)).setCell ⟨gb552, 2, none⟩ (.slice Ao66 t548.length co66)).heap[gb525]? = some (.cells #[.slice Ao22 t515.length co22, .slice Ao24 t518.length co24, .slice Ao25 t521.length co25] 25 (0, 0))) := ⟨kf1 NB525_552.out BK525.out⟩
          have n8_ : Aside0 ((((w61.setCell ⟨gb552, 0, none⟩ (.slice Ao62 t542.length co62)).setCell ⟨gb552, 1, none⟩ (.slice Ao64 t545.length co64)).setCell ⟨gb552, 2, none⟩ (.slice Ao66 t548.length co66)).heap[gb552]? = some (.cells #[.slice Ao62 t542.length co62, .slice Ao64 t545.length co64, .slice Ao66 t548.length co66] 25 (0, 0))) := ⟨kp3 (kf0 BK552.out)⟩
          have n9_ : Aside0 (Below w.heap.size w (((w61.setCell ⟨gb552, 0, none⟩ (.slice Ao62 t542.length co62)).setCell ⟨gb552, 1, none⟩ (.slice Ao64 t545.length co64)).setCell ⟨gb552, 2, none⟩ (.slice Ao66 t548.length co66))) := ⟨by exact bs2 GE525.out GE552.out HB.out⟩
          (try clear HO_5)
          (try clear HO_526000)
          (try clear HO_526001)
          (try clear HO_526002)
          (try clear HO544)
          (try clear HO547)
          (try clear HO550)
          (try clear BK525)
          (try clear BK552)
          (try clear HB)
          generalize (((w61.setCell ⟨gb552, 0, none⟩ (.slice Ao62 t542.length co62)).setCell ⟨gb552, 1, none⟩ (.slice Ao64 t545.length co64)).setCell ⟨gb552, 2, none⟩ (.slice Ao66 t548.length co66)) = w68 at n0_ n1_ n2_ n3_ n4_ n5_ n6_ n7_ n8_ n9_ ⊢
          have HO_5 := n0_
          have HO_526000 := n1_
          have HO_526001 := n2_
          have HO_526002 := n3_
          have HO544 := n4_
          have HO547 := n5_
          have HO550 := n6_
          have BK525 := n7_
          have BK552 := n8_
          have HB := n9_
          clear n0_ n1_ n2_ n3_ n4_ n5_ n6_ n7_ n8_ n9_
          replace HO_5 := am (Kd.R_drew HO_5.out)
          replace HO_526000 := am (Kd.R_drew HO_526000.out)
          replace HO_526001 := am (Kd.R_drew HO_526001.out)
          replace HO_526002 := am (Kd.R_drew HO_526002.out)
          replace HO544 := am (Kd.R_drew HO544.out)
          replace HO547 := am (Kd.R_drew HO547.out)
          replace HO550 := am (Kd.R_drew HO550.out)
          replace BK525 := am (blk_drew BK525.out)
          replace BK552 := am (blk_drew BK552.out)
          replace HB := am (below_drew1 HB.out)
          have p553 : 0 ≤ (0 : Int) := (by omega)
          have q553 : 0 < (t526.length : Int) := of_decide_eq_true (by first | (with_reducible assumption) | assumption)
          obtain ⟨ad553, e553, hx553_0⟩ := Kd.at_int (Kd.R_reads' HO_5.out).2.2 0 p553 q553
          obtain rfl : ad541 = ad553 := (by injection e553)
          have qi553 : (0 < t526.length) = True := eq_true (by omega)
          (try rw [show ((0 : Int)).toNat = 0 from rfl] at hx553_0)
          (try rw [Addr.add_zero'] at hx553_0)
          replace p553 := eq_true p553
          replace q553 := eq_true q553
          refine start_ (n := 11) (S := fun w' => w'.cell? ⟨gb552, 0, none⟩ = some (.slice Ao62 t542.length co62) ∧ w'.cell? ⟨gb552, 1, none⟩ = some (.slice Ao64 t545.length co64) ∧ w'.cell? ⟨gb552, 2, none⟩ = some (.slice Ao66 t548.length co66) ∧ w'.cell? ad541 = some (.int .i64 (rd t526 0))) (ds := []) #[false, false, false, false, false, false, false, false, false, false, false] (by kernel_rfl) rfl rfl ⟨(blk_cell BK552.out 0).trans rfl, (blk_cell BK552.out 1).trans rfl, (blk_cell BK552.out 2).trans rfl, hx553_0⟩ (fun hHeld => ?_); refine with_tabW laws_FnSourcesOf.tab15 laws_FnSourcesOf.bits15 (fun HT_ HW_ => ?_)
          generalize w68.drew = w69 at HO_5 HO_526000 HO_526001 HO_526002 HO544 HO547 HO550 BK525 BK552 HB hx553_0 hHeld ⊢
          refine pure_ (i := 1) (N := some 85) (v := ?_) (a' := ?_) #[false, true, false, false, false, false, false, false, false, false, false] rfl rfl (any_of HT_.out (by kernel_rfl)) (fun _ _ _ h => h) (Or.inl ⟨by rfl, ?_⟩) ?_ ?_
          rotate_left
          ·intro w'
           go_simp
           with_reducible rfl
          rotate_left
          ·simp only [Act.put, List.setIfInBounds_toArray, List.set_cons_zero, List.set_cons_succ, i64_w, i32_w]
           rfl
          refine pure_ (i := 2) (N := some 86) (v := ?_) (a' := ?_) #[false, true, true, false, false, false, false, false, false, false, false] rfl rfl (any_of HT_.out (by kernel_rfl)) (fun _ _ _ h => h) (Or.inl ⟨by rfl, ?_⟩) ?_ ?_
          rotate_left
          ·intro w'
           go_simp
           with_reducible rfl
          rotate_left
          ·simp only [Act.put, List.setIfInBounds_toArray, List.set_cons_zero, List.set_cons_succ, i64_w, i32_w]
           rfl
          refine take_ (i := 0) (N := some 84) (v := ?_) (a' := ?_) #[true, true, true, false, false, false, false, false, false, false, false] rfl rfl (take_ofW HT_.out HW_.out (by kernel_rfl)) (fun _ _ _ h => h) (Or.inl ⟨by rfl, ?_⟩) hHeld ?_ ?_
          rotate_left
          ·rintro w' ⟨s0, s1, s2, s3⟩
           go_simp
           with_reducible rfl
          rotate_left
          ·simp only [Act.put, List.setIfInBounds_toArray, List.set_cons_zero, List.set_cons_succ, i64_w, i32_w]
           rfl
          refine take_ (i := 3) (N := some 87) (v := ?_) (a' := ?_) #[true, true, true, true, false, false, false, false, false, false, false] rfl rfl (take_ofW HT_.out HW_.out (by kernel_rfl)) (fun _ _ _ h => h) (Or.inl ⟨by rfl, ?_⟩) hHeld ?_ ?_
          rotate_left
          ·rintro w' ⟨s0, s1, s2, s3⟩
           go_simp
           with_reducible rfl
          rotate_left
          ·simp only [Act.put, List.setIfInBounds_toArray, List.set_cons_zero, List.set_cons_succ, i64_w, i32_w]
           rfl
          refine join_ (σ := Value × Value × Value × Nat) 2 #[true, true, true, true, true, true, true, true, true, false, false] (fun s_ => [(88, .tuple #[.agg #[s_.1, s_.2.1, s_.2.2.1], .bool true]), (9, .pointer (some ⟨s_.2.2.2, 0, none⟩)), (83, .tuple #[.agg #[s_.1, s_.2.1, s_.2.2.1], .bool true]), (89, .agg #[s_.1, s_.2.1, s_.2.2.1]), (90, .bool true)]) (fun s_ w' => (w'.cell? ⟨gb552, 0, none⟩ = some (.slice Ao62 t542.length co62) ∧ w'.cell? ⟨gb552, 1, none⟩ = some (.slice Ao64 t545.length co64) ∧ w'.cell? ⟨gb552, 2, none⟩ = some (.slice Ao66 t548.length co66) ∧ w'.cell? ad541 = some (.int .i64 (rd t526 0))) ∧ (Kd.R (Kd.int .i64) 3 w' w.heap.size (fun k_ => some k_ ≠ (.slice Ao64 t545.length co64 : Value).ownBlock ∧ some k_ ≠ (.slice Ao66 t548.length co66 : Value).ownBlock ∧ some k_ ≠ (s_.1 : Value).ownBlock ∧ some k_ ≠ (s_.2.1 : Value).ownBlock ∧ some k_ ≠ (s_.2.2.1 : Value).ownBlock ∧ some k_ ≠ (.slice (some ad541) t526.length co29 : Value).ownBlock ∧ some k_ ≠ (.slice Ao22 t515.length co22 : Value).ownBlock ∧ some k_ ≠ (.slice Ao24 t518.length co24 : Value).ownBlock ∧ some k_ ≠ (.slice Ao25 t521.length co25 : Value).ownBlock) (.slice Ao62 t542.length co62) t542) ∧ (Kd.R (Kd.int .i64) 3 w' w.heap.size (fun k_ => some k_ ≠ (.slice Ao62 t542.length co62 : Value).ownBlock ∧ some k_ ≠ (.slice Ao66 t548.length co66 : Value).ownBlock ∧ some k_ ≠ (s_.1 : Value).ownBlock ∧ some k_ ≠ (s_.2.1 : Value).ownBlock ∧ some k_ ≠ (s_.2.2.1 : Value).ownBlock ∧ some k_ ≠ (.slice (some ad541) t526.length co29 : Value).ownBlock ∧ some k_ ≠ (.slice Ao22 t515.length co22 : Value).ownBlock ∧ some k_ ≠ (.slice Ao24 t518.length co24 : Value).ownBlock ∧ some k_ ≠ (.slice Ao25 t521.length co25 : Value).ownBlock) (.slice Ao64 t545.length co64) t545) ∧ (Kd.R (Kd.int .i64) 3 w' w.heap.size (fun k_ => some k_ ≠ (.slice Ao62 t542.length co62 : Value).ownBlock ∧ some k_ ≠ (.slice Ao64 t545.length co64 : Value).ownBlock ∧ some k_ ≠ (s_.1 : Value).ownBlock ∧ some k_ ≠ (s_.2.1 : Value).ownBlock ∧ some k_ ≠ (s_.2.2.1 : Value).ownBlock ∧ some k_ ≠ (.slice (some ad541) t526.length co29 : Value).ownBlock ∧ some k_ ≠ (.slice Ao22 t515.length co22 : Value).ownBlock ∧ some k_ ≠ (.slice Ao24 t518.length co24 : Value).ownBlock ∧ some k_ ≠ (.slice Ao25 t521.length co25 : Value).ownBlock) (.slice Ao66 t548.length co66) t548) ∧ (Kd.R (Kd.int .i64) 3 w' w.heap.size (fun k_ => some k_ ≠ (.slice Ao62 t542.length co62 : Value).ownBlock ∧ some k_ ≠ (.slice Ao64 t545.length co64 : Value).ownBlock ∧ some k_ ≠ (.slice Ao66 t548.length co66 : Value).ownBlock ∧ some k_ ≠ (s_.2.1 : Value).ownBlock ∧ some k_ ≠ (s_.2.2.1 : Value).ownBlock ∧ some k_ ≠ (.slice (some ad541) t526.length co29 : Value).ownBlock ∧ some k_ ≠ (.slice Ao22 t515.length co22 : Value).ownBlock ∧ some k_ ≠ (.slice Ao24 t518.length co24 : Value).ownBlock ∧ some k_ ≠ (.slice Ao25 t521.length co25 : Value).ownBlock) s_.1 t554) ∧ (Kd.R (Kd.int .i64) 3 w' w.heap.size (fun k_ => some k_ ≠ (.slice Ao62 t542.length co62 : Value).ownBlock ∧ some k_ ≠ (.slice Ao64 t545.length co64 : Value).ownBlock ∧ some k_ ≠ (.slice Ao66 t548.length co66 : Value).ownBlock ∧ some k_ ≠ (s_.1 : Value).ownBlock ∧ some k_ ≠ (s_.2.2.1 : Value).ownBlock ∧ some k_ ≠ (.slice (some ad541) t526.length co29 : Value).ownBlock ∧ some k_ ≠ (.slice Ao22 t515.length co22 : Value).ownBlock ∧ some k_ ≠ (.slice Ao24 t518.length co24 : Value).ownBlock ∧ some k_ ≠ (.slice Ao25 t521.length co25 : Value).ownBlock) s_.2.1 t557) ∧ (Kd.R (Kd.int .i64) 3 w' w.heap.size (fun k_ => some k_ ≠ (.slice Ao62 t542.length co62 : Value).ownBlock ∧ some k_ ≠ (.slice Ao64 t545.length co64 : Value).ownBlock ∧ some k_ ≠ (.slice Ao66 t548.length co66 : Value).ownBlock ∧ some k_ ≠ (s_.1 : Value).ownBlock ∧ some k_ ≠ (s_.2.1 : Value).ownBlock ∧ some k_ ≠ (.slice (some ad541) t526.length co29 : Value).ownBlock ∧ some k_ ≠ (.slice Ao22 t515.length co22 : Value).ownBlock ∧ some k_ ≠ (.slice Ao24 t518.length co24 : Value).ownBlock ∧ some k_ ≠ (.slice Ao25 t521.length co25 : Value).ownBlock) s_.2.2.1 t560) ∧ (Kd.R (Kd.int .i64) 3 w' w.heap.size (fun k_ => some k_ ≠ (.slice Ao62 t542.length co62 : Value).ownBlock ∧ some k_ ≠ (.slice Ao64 t545.length co64 : Value).ownBlock ∧ some k_ ≠ (.slice Ao66 t548.length co66 : Value).ownBlock ∧ some k_ ≠ (s_.1 : Value).ownBlock ∧ some k_ ≠ (s_.2.1 : Value).ownBlock ∧ some k_ ≠ (s_.2.2.1 : Value).ownBlock ∧ some k_ ≠ (.slice Ao22 t515.length co22 : Value).ownBlock ∧ some k_ ≠ (.slice Ao24 t518.length co24 : Value).ownBlock ∧ some k_ ≠ (.slice Ao25 t521.length co25 : Value).ownBlock) (.slice (some ad541) t526.length co29) t526) ∧ (Kd.R (Kd.int .i64) 3 w' w.heap.size (fun k_ => some k_ ≠ (.slice Ao62 t542.length co62 : Value).ownBlock ∧ some k_ ≠ (.slice Ao64 t545.length co64 : Value).ownBlock ∧ some k_ ≠ (.slice Ao66 t548.length co66 : Value).ownBlock ∧ some k_ ≠ (s_.1 : Value).ownBlock ∧ some k_ ≠ (s_.2.1 : Value).ownBlock ∧ some k_ ≠ (s_.2.2.1 : Value).ownBlock ∧ some k_ ≠ (.slice (some ad541) t526.length co29 : Value).ownBlock ∧ some k_ ≠ (.slice Ao24 t518.length co24 : Value).ownBlock ∧ some k_ ≠ (.slice Ao25 t521.length co25 : Value).ownBlock) (.slice Ao22 t515.length co22) t515) ∧ (Kd.R (Kd.int .i64) 3 w' w.heap.size (fun k_ => some k_ ≠ (.slice Ao62 t542.length co62 : Value).ownBlock ∧ some k_ ≠ (.slice Ao64 t545.length co64 : Value).ownBlock ∧ some k_ ≠ (.slice Ao66 t548.length co66 : Value).ownBlock ∧ some k_ ≠ (s_.1 : Value).ownBlock ∧ some k_ ≠ (s_.2.1 : Value).ownBlock ∧ some k_ ≠ (s_.2.2.1 : Value).ownBlock ∧ some k_ ≠ (.slice (some ad541) t526.length co29 : Value).ownBlock ∧ some k_ ≠ (.slice Ao22 t515.length co22 : Value).ownBlock ∧ some k_ ≠ (.slice Ao25 t521.length co25 : Value).ownBlock) (.slice Ao24 t518.length co24) t518) ∧ (Kd.R (Kd.int .i64) 3 w' w.heap.size (fun k_ => some k_ ≠ (.slice Ao62 t542.length co62 : Value).ownBlock ∧ some k_ ≠ (.slice Ao64 t545.length co64 : Value).ownBlock ∧ some k_ ≠ (.slice Ao66 t548.length co66 : Value).ownBlock ∧ some k_ ≠ (s_.1 : Value).ownBlock ∧ some k_ ≠ (s_.2.1 : Value).ownBlock ∧ some k_ ≠ (s_.2.2.1 : Value).ownBlock ∧ some k_ ≠ (.slice (some ad541) t526.length co29 : Value).ownBlock ∧ some k_ ≠ (.slice Ao22 t515.length co22 : Value).ownBlock ∧ some k_ ≠ (.slice Ao24 t518.length co24 : Value).ownBlock) (.slice Ao25 t521.length co25) t521) ∧ (w'.heap[gb525]? = some (.cells #[.slice Ao22 t515.length co22, .slice Ao24 t518.length co24, .slice Ao25 t521.length co25] 25 (0, 0))) ∧ (w'.heap[gb552]? = some (.cells #[.slice Ao62 t542.length co62, .slice Ao64 t545.length co64, .slice Ao66 t548.length co66] 25 (0, 0))) ∧ (w'.heap[s_.2.2.2]? = some (.cells #[.slice none 0 0, .slice none 0 0, .slice none 0 0] 25 (0, 0))) ∧ (w.heap.size ≤ s_.2.2.2) ∧ (w.heap.size ≤ s_.2.2.2) ∧ (gb525 ≠ s_.2.2.2) ∧ (s_.2.2.2 ≠ gb525) ∧ (gb552 ≠ s_.2.2.2) ∧ (s_.2.2.2 ≠ gb552) ∧ (Below w.heap.size w w')) ?_ ?_
          rotate_left
          ·intro hCont
           refine two_ (i := 4) (j := 8) (Ni := some 88) (Nj := some 9) #[true, true, true, true, true, false, false, false, false, false, false] #[true, true, true, true, false, false, false, false, true, false, false] rfl rfl rfl rfl (two_of HT_.out (by kernel_rfl)) (by decide) (by decide) (fun K hK => ?_) (fun K hK => ?_)
           ·skip
            refine goes_ Try.func19 (by kernel_rfl) rfl #[.agg #[.slice Ao62 t542.length co62, .slice Ao64 t545.length co64, .slice Ao66 t548.length co66], .int .i64 (rd t526 0), .int .i64 (-1)] (by rfl) rfl rfl (by (try simp only [List.map_toArray, List.map_cons, List.map_nil]); first | done | rfl | (simp only [List.length_drop, List.length_take]; rfl)) ?_
            with_reducible refine (impl_PutRight.calls k1 _ _ t542 _ _ t545 _ _ t548 (rd t526 0) (-1) t554 t557 t560 true _ ?side1 ?side2 ?side3 ?side4 ?side5 ?side6 A54.out).mono ?_
            (case side1 => exact cl ((Kd.R_reads' HO544.out).2.2))
            (case side2 => exact (Kd.R_reads' HO544.out).2.1)
            (case side3 => exact cl ((Kd.R_reads' HO547.out).2.2))
            (case side4 => exact (Kd.R_reads' HO547.out).2.1)
            (case side5 => exact cl ((Kd.R_reads' HO550.out).2.2))
            (case side6 => exact (Kd.R_reads' HO550.out).2.1)
            rintro e w70 ⟨v555, v558, v561, rfl, ho0, ho1, ho2, hb⟩
            have HS3_ := (hb.cell (World.block_lt_of_cell? _ _ (hHeld.2.2.2))).trans (hHeld.2.2.2)
            refine ⟨_, rfl, ?_⟩
            have HO556 := am (Kd.R_lower (Kd.R_new' (Kd.R_new' (Kd.R_new' (Kd.R_new' (Kd.R_new' (Kd.R_new' (Kd.R_new' ho0 (Kd.R_lt (rl HO_5.out))) (Kd.R_lt (rl HO_526000.out))) (Kd.R_lt (rl HO_526001.out))) (Kd.R_lt (rl HO_526002.out))) (Kd.R_lt (rl HO544.out))) (Kd.R_lt (rl HO547.out))) (Kd.R_lt (rl HO550.out))) (below_size (bs2 GE525.out GE552.out HB.out)))
            have HO559 := am (Kd.R_lower (Kd.R_new' (Kd.R_new' (Kd.R_new' (Kd.R_new' (Kd.R_new' (Kd.R_new' (Kd.R_new' ho1 (Kd.R_lt (rl HO_5.out))) (Kd.R_lt (rl HO_526000.out))) (Kd.R_lt (rl HO_526001.out))) (Kd.R_lt (rl HO_526002.out))) (Kd.R_lt (rl HO544.out))) (Kd.R_lt (rl HO547.out))) (Kd.R_lt (rl HO550.out))) (below_size (bs2 GE525.out GE552.out HB.out)))
            have HO562 := am (Kd.R_lower (Kd.R_new' (Kd.R_new' (Kd.R_new' (Kd.R_new' (Kd.R_new' (Kd.R_new' (Kd.R_new' ho2 (Kd.R_lt (rl HO_5.out))) (Kd.R_lt (rl HO_526000.out))) (Kd.R_lt (rl HO_526001.out))) (Kd.R_lt (rl HO_526002.out))) (Kd.R_lt (rl HO544.out))) (Kd.R_lt (rl HO547.out))) (Kd.R_lt (rl HO550.out))) (below_size (bs2 GE525.out GE552.out HB.out)))
            replace HO_5 := am (Kd.R_mono (Kd.R_told (Kd.R_told (Kd.R_told (Kd.R_old (rl HO_5.out) hb) (Kd.R_base ho0)) (Kd.R_base ho1)) (Kd.R_base ho2)) (fun _ h_ => h_.1))
            replace HO_526000 := am (Kd.R_mono (Kd.R_told (Kd.R_told (Kd.R_told (Kd.R_old (rl HO_526000.out) hb) (Kd.R_base ho0)) (Kd.R_base ho1)) (Kd.R_base ho2)) (fun _ h_ => h_.1))
            replace HO_526001 := am (Kd.R_mono (Kd.R_told (Kd.R_told (Kd.R_told (Kd.R_old (rl HO_526001.out) hb) (Kd.R_base ho0)) (Kd.R_base ho1)) (Kd.R_base ho2)) (fun _ h_ => h_.1))
            replace HO_526002 := am (Kd.R_mono (Kd.R_told (Kd.R_told (Kd.R_told (Kd.R_old (rl HO_526002.out) hb) (Kd.R_base ho0)) (Kd.R_base ho1)) (Kd.R_base ho2)) (fun _ h_ => h_.1))
            replace HO544 := am (Kd.R_mono (Kd.R_told (Kd.R_told (Kd.R_told (Kd.R_old (rl HO544.out) hb) (Kd.R_base ho0)) (Kd.R_base ho1)) (Kd.R_base ho2)) (fun _ h_ => h_.1))
            replace HO547 := am (Kd.R_mono (Kd.R_told (Kd.R_told (Kd.R_told (Kd.R_old (rl HO547.out) hb) (Kd.R_base ho0)) (Kd.R_base ho1)) (Kd.R_base ho2)) (fun _ h_ => h_.1))
            replace HO550 := am (Kd.R_mono (Kd.R_told (Kd.R_told (Kd.R_told (Kd.R_old (rl HO550.out) hb) (Kd.R_base ho0)) (Kd.R_base ho1)) (Kd.R_base ho2)) (fun _ h_ => h_.1))
            replace BK525 := am (blk_below (g := gb525) (o := .cells #[.slice Ao22 t515.length co22, .slice Ao24 t518.length co24, .slice Ao25 t521.length co25] 25 (0, 0)) (kl BK525.out) hb)
            replace BK552 := am (blk_below (g := gb552) (o := .cells #[.slice Ao62 t542.length co62, .slice Ao64 t545.length co64, .slice Ao66 t548.length co66] 25 (0, 0)) (kl BK552.out) hb)
            replace HB := am (below_step (bs2 GE525.out GE552.out HB.out) hb)
            (try clear hb)
            (try clear hb2)
            (try clear hk)
            (try clear hi)
            (try clear ho0)
            (try clear ho1)
            (try clear ho2)
            refine hK.out _ _ ⟨(blk_cell BK552.out 0).trans rfl, (blk_cell BK552.out 1).trans rfl, (blk_cell BK552.out 2).trans rfl, HS3_⟩ (fun hHeld => ?_)
            clear hK K
            refine norm_ (a' := ?_) ?_ ?_
            rotate_left
            ·show Act.put _ (some 88) _ = _
             simp only [Act.put, List.setIfInBounds_toArray, List.set_cons_zero, List.set_cons_succ, i64_w, i32_w]
             rfl
            refine pure_ (i := 5) (N := some 83) (v := ?_) (a' := ?_) #[true, true, true, true, true, true, false, false, false, false, false] rfl rfl (any_of HT_.out (by kernel_rfl)) (fun _ _ _ h => h) (Or.inl ⟨by rfl, ?_⟩) ?_ ?_
            rotate_left
            ·intro w'
             go_simp
             with_reducible rfl
            rotate_left
            ·simp only [Act.put, List.setIfInBounds_toArray, List.set_cons_zero, List.set_cons_succ, i64_w, i32_w]
             rfl
            refine pure_ (i := 6) (N := some 89) (v := ?_) (a' := ?_) #[true, true, true, true, true, true, true, false, false, false, false] rfl rfl (any_of HT_.out (by kernel_rfl)) (fun _ _ _ h => h) (Or.inl ⟨by rfl, ?_⟩) ?_ ?_
            rotate_left
            ·intro w'
             go_simp
             with_reducible rfl
            rotate_left
            ·simp only [Act.put, List.setIfInBounds_toArray, List.set_cons_zero, List.set_cons_succ, i64_w, i32_w]
             rfl
            refine pure_ (i := 7) (N := some 90) (v := ?_) (a' := ?_) #[true, true, true, true, true, true, true, true, false, false, false] rfl rfl (any_of HT_.out (by kernel_rfl)) (fun _ _ _ h => h) (Or.inl ⟨by rfl, ?_⟩) ?_ ?_
            rotate_left
            ·intro w'
             go_simp
             with_reducible rfl
            rotate_left
            ·simp only [Act.put, List.setIfInBounds_toArray, List.set_cons_zero, List.set_cons_succ, i64_w, i32_w]
             rfl
            refine one_ (i := 8) (N := some 9) #[true, true, true, true, true, true, true, true, true, false, false] rfl rfl (one_of HT_.out (by kernel_rfl)) (by decide) (fun K hK => ?_)
            refine box_step ?hg (N := 9) ?hd (cs := #[.slice none 0 0, .slice none 0 0, .slice none 0 0]) (t := 25) ?hr ?_; (case hd => rfl); (case hg => rfl); (case hr => first | (go_simp; done) | (go_simp; rfl))
            intro gb564 hg w71 hbox hb
            have HS3_ := (hb.cell (World.block_lt_of_cell? _ _ (hHeld.2.2.2))).trans (hHeld.2.2.2)
            replace HO_5 := am (Kd.R_below (rl HO_5.out) hb)
            replace HO_526000 := am (Kd.R_below (rl HO_526000.out) hb)
            replace HO_526001 := am (Kd.R_below (rl HO_526001.out) hb)
            replace HO_526002 := am (Kd.R_below (rl HO_526002.out) hb)
            replace HO544 := am (Kd.R_below (rl HO544.out) hb)
            replace HO547 := am (Kd.R_below (rl HO547.out) hb)
            replace HO550 := am (Kd.R_below (rl HO550.out) hb)
            replace HO556 := am (Kd.R_below (rl HO556.out) hb)
            replace HO559 := am (Kd.R_below (rl HO559.out) hb)
            replace HO562 := am (Kd.R_below (rl HO562.out) hb)
            have BK564 := am (hbox)
            have GW564 := am ((by rw [hg]; exact (below_size (bs2 GE525.out GE552.out HB.out)) : w.heap.size ≤ gb564))
            have GE564 := am ((by rw [hg]; exact (below_size (bs2 GE525.out GE552.out HB.out)) : w.heap.size ≤ gb564))
            replace HB := am (below_step (bs2 GE525.out GE552.out HB.out) hb)
            have NB525_564 := am ((by rw [hg]; exact Nat.ne_of_lt (blk_lt (g := gb525) (o := .cells #[.slice Ao22 t515.length co22, .slice Ao24 t518.length co24, .slice Ao25 t521.length co25] 25 (0, 0)) (kl BK525.out)) : gb525 ≠ gb564))
            have NB564_525 := am ((by rw [hg]; exact Nat.ne_of_gt (blk_lt (g := gb525) (o := .cells #[.slice Ao22 t515.length co22, .slice Ao24 t518.length co24, .slice Ao25 t521.length co25] 25 (0, 0)) (kl BK525.out)) : gb564 ≠ gb525))
            replace BK525 := am (blk_below (g := gb525) (o := .cells #[.slice Ao22 t515.length co22, .slice Ao24 t518.length co24, .slice Ao25 t521.length co25] 25 (0, 0)) (kl BK525.out) hb)
            have NB552_564 := am ((by rw [hg]; exact Nat.ne_of_lt (blk_lt (g := gb552) (o := .cells #[.slice Ao62 t542.length co62, .slice Ao64 t545.length co64, .slice Ao66 t548.length co66] 25 (0, 0)) (kl BK552.out)) : gb552 ≠ gb564))
            have NB564_552 := am ((by rw [hg]; exact Nat.ne_of_gt (blk_lt (g := gb552) (o := .cells #[.slice Ao62 t542.length co62, .slice Ao64 t545.length co64, .slice Ao66 t548.length co66] 25 (0, 0)) (kl BK552.out)) : gb564 ≠ gb552))
            replace BK552 := am (blk_below (g := gb552) (o := .cells #[.slice Ao62 t542.length co62, .slice Ao64 t545.length co64, .slice Ao66 t548.length co66] 25 (0, 0)) (kl BK552.out) hb)
            clear hb hbox hg
            refine hK.out _ _ ⟨(blk_cell BK552.out 0).trans rfl, (blk_cell BK552.out 1).trans rfl, (blk_cell BK552.out 2).trans rfl, HS3_⟩ (fun hHeld => ?_)
            clear hK K
            refine norm_ (a' := ?_) ?_ ?_
            rotate_left
            ·show Act.put _ (some 9) _ = _
             simp only [Act.put, List.setIfInBounds_toArray, List.set_cons_zero, List.set_cons_succ, i64_w, i32_w]
             rfl
            exact norm_ (by simp only [putAll, Act.put, List.setIfInBounds_toArray, List.set_cons_zero, List.set_cons_succ]) (hCont (v555, v558, v561, gb564) _ ⟨hHeld, (rl (Kd.R_mono HO544.out (fun _ hk => by simp only [ne_eq] at hk ⊢; simp only [hk, not_false_eq_true, and_self]))), (rl (Kd.R_mono HO547.out (fun _ hk => by simp only [ne_eq] at hk ⊢; simp only [hk, not_false_eq_true, and_self]))), (rl (Kd.R_mono HO550.out (fun _ hk => by simp only [ne_eq] at hk ⊢; simp only [hk, not_false_eq_true, and_self]))), (rl (Kd.R_mono HO556.out (fun _ hk => by simp only [ne_eq] at hk ⊢; simp only [hk, not_false_eq_true, and_self]))), (rl (Kd.R_mono HO559.out (fun _ hk => by simp only [ne_eq] at hk ⊢; simp only [hk, not_false_eq_true, and_self]))), (rl (Kd.R_mono HO562.out (fun _ hk => by simp only [ne_eq] at hk ⊢; simp only [hk, not_false_eq_true, and_self]))), (rl (Kd.R_mono HO_5.out (fun _ hk => by simp only [ne_eq] at hk ⊢; simp only [hk, not_false_eq_true, and_self]))), (rl (Kd.R_mono HO_526000.out (fun _ hk => by simp only [ne_eq] at hk ⊢; simp only [hk, not_false_eq_true, and_self]))), (rl (Kd.R_mono HO_526001.out (fun _ hk => by simp only [ne_eq] at hk ⊢; simp only [hk, not_false_eq_true, and_self]))), (rl (Kd.R_mono HO_526002.out (fun _ hk => by simp only [ne_eq] at hk ⊢; simp only [hk, not_false_eq_true, and_self]))), (kl BK525.out), (kl BK552.out), (kl BK564.out), GW564.out, GE564.out, NB525_564.out, NB564_525.out, NB552_564.out, NB564_552.out, (bs3 GE525.out GE552.out GE564.out HB.out)⟩)
           ·skip
            refine box_step ?hg (N := 9) ?hd (cs := #[.slice none 0 0, .slice none 0 0, .slice none 0 0]) (t := 25) ?hr ?_; (case hd => rfl); (case hg => rfl); (case hr => first | (go_simp; done) | (go_simp; rfl))
            intro gb564 hg w70 hbox hb
            have HS3_ := (hb.cell (World.block_lt_of_cell? _ _ (hHeld.2.2.2))).trans (hHeld.2.2.2)
            replace HO_5 := am (Kd.R_below (rl HO_5.out) hb)
            replace HO_526000 := am (Kd.R_below (rl HO_526000.out) hb)
            replace HO_526001 := am (Kd.R_below (rl HO_526001.out) hb)
            replace HO_526002 := am (Kd.R_below (rl HO_526002.out) hb)
            replace HO544 := am (Kd.R_below (rl HO544.out) hb)
            replace HO547 := am (Kd.R_below (rl HO547.out) hb)
            replace HO550 := am (Kd.R_below (rl HO550.out) hb)
            have BK564 := am (hbox)
            have GW564 := am ((by rw [hg]; exact (below_size (bs2 GE525.out GE552.out HB.out)) : w.heap.size ≤ gb564))
            have GE564 := am ((by rw [hg]; exact (below_size (bs2 GE525.out GE552.out HB.out)) : w.heap.size ≤ gb564))
            replace HB := am (below_step (bs2 GE525.out GE552.out HB.out) hb)
            have NB525_564 := am ((by rw [hg]; exact Nat.ne_of_lt (blk_lt (g := gb525) (o := .cells #[.slice Ao22 t515.length co22, .slice Ao24 t518.length co24, .slice Ao25 t521.length co25] 25 (0, 0)) (kl BK525.out)) : gb525 ≠ gb564))
            have NB564_525 := am ((by rw [hg]; exact Nat.ne_of_gt (blk_lt (g := gb525) (o := .cells #[.slice Ao22 t515.length co22, .slice Ao24 t518.length co24, .slice Ao25 t521.length co25] 25 (0, 0)) (kl BK525.out)) : gb564 ≠ gb525))
            replace BK525 := am (blk_below (g := gb525) (o := .cells #[.slice Ao22 t515.length co22, .slice Ao24 t518.length co24, .slice Ao25 t521.length co25] 25 (0, 0)) (kl BK525.out) hb)
            have NB552_564 := am ((by rw [hg]; exact Nat.ne_of_lt (blk_lt (g := gb552) (o := .cells #[.slice Ao62 t542.length co62, .slice Ao64 t545.length co64, .slice Ao66 t548.length co66] 25 (0, 0)) (kl BK552.out)) : gb552 ≠ gb564))
            have NB564_552 := am ((by rw [hg]; exact Nat.ne_of_gt (blk_lt (g := gb552) (o := .cells #[.slice Ao62 t542.length co62, .slice Ao64 t545.length co64, .slice Ao66 t548.length co66] 25 (0, 0)) (kl BK552.out)) : gb564 ≠ gb552))
            replace BK552 := am (blk_below (g := gb552) (o := .cells #[.slice Ao62 t542.length co62, .slice Ao64 t545.length co64, .slice Ao66 t548.length co66] 25 (0, 0)) (kl BK552.out) hb)
            clear hb hbox hg
            refine hK.out _ _ ⟨(blk_cell BK552.out 0).trans rfl, (blk_cell BK552.out 1).trans rfl, (blk_cell BK552.out 2).trans rfl, HS3_⟩ (fun hHeld => ?_)
            clear hK K
            refine norm_ (a' := ?_) ?_ ?_
            rotate_left
            ·show Act.put _ (some 9) _ = _
             simp only [Act.put, List.setIfInBounds_toArray, List.set_cons_zero, List.set_cons_succ, i64_w, i32_w]
             rfl
            refine one_ (i := 4) (N := some 88) #[true, true, true, true, true, false, false, false, true, false, false] rfl rfl (one_of HT_.out (by kernel_rfl)) (by decide) (fun K hK => ?_)
            refine goes_ Try.func19 (by kernel_rfl) rfl #[.agg #[.slice Ao62 t542.length co62, .slice Ao64 t545.length co64, .slice Ao66 t548.length co66], .int .i64 (rd t526 0), .int .i64 (-1)] (by rfl) rfl rfl (by (try simp only [List.map_toArray, List.map_cons, List.map_nil]); first | done | rfl | (simp only [List.length_drop, List.length_take]; rfl)) ?_
            with_reducible refine (impl_PutRight.calls k1 _ _ t542 _ _ t545 _ _ t548 (rd t526 0) (-1) t554 t557 t560 true _ ?side1 ?side2 ?side3 ?side4 ?side5 ?side6 A54.out).mono ?_
            (case side1 => exact cl ((Kd.R_reads' HO544.out).2.2))
            (case side2 => exact (Kd.R_reads' HO544.out).2.1)
            (case side3 => exact cl ((Kd.R_reads' HO547.out).2.2))
            (case side4 => exact (Kd.R_reads' HO547.out).2.1)
            (case side5 => exact cl ((Kd.R_reads' HO550.out).2.2))
            (case side6 => exact (Kd.R_reads' HO550.out).2.1)
            rintro e w71 ⟨v555, v558, v561, rfl, ho0, ho1, ho2, hb⟩
            have HS3_ := (hb.cell (World.block_lt_of_cell? _ _ (hHeld.2.2.2))).trans (hHeld.2.2.2)
            refine ⟨_, rfl, ?_⟩
            have HO556 := am (Kd.R_lower (Kd.R_new' (Kd.R_new' (Kd.R_new' (Kd.R_new' (Kd.R_new' (Kd.R_new' (Kd.R_new' ho0 (Kd.R_lt (rl HO_5.out))) (Kd.R_lt (rl HO_526000.out))) (Kd.R_lt (rl HO_526001.out))) (Kd.R_lt (rl HO_526002.out))) (Kd.R_lt (rl HO544.out))) (Kd.R_lt (rl HO547.out))) (Kd.R_lt (rl HO550.out))) (below_size (bs3 GE525.out GE552.out GE564.out HB.out)))
            have HO559 := am (Kd.R_lower (Kd.R_new' (Kd.R_new' (Kd.R_new' (Kd.R_new' (Kd.R_new' (Kd.R_new' (Kd.R_new' ho1 (Kd.R_lt (rl HO_5.out))) (Kd.R_lt (rl HO_526000.out))) (Kd.R_lt (rl HO_526001.out))) (Kd.R_lt (rl HO_526002.out))) (Kd.R_lt (rl HO544.out))) (Kd.R_lt (rl HO547.out))) (Kd.R_lt (rl HO550.out))) (below_size (bs3 GE525.out GE552.out GE564.out HB.out)))
            have HO562 := am (Kd.R_lower (Kd.R_new' (Kd.R_new' (Kd.R_new' (Kd.R_new' (Kd.R_new' (Kd.R_new' (Kd.R_new' ho2 (Kd.R_lt (rl HO_5.out))) (Kd.R_lt (rl HO_526000.out))) (Kd.R_lt (rl HO_526001.out))) (Kd.R_lt (rl HO_526002.out))) (Kd.R_lt (rl HO544.out))) (Kd.R_lt (rl HO547.out))) (Kd.R_lt (rl HO550.out))) (below_size (bs3 GE525.out GE552.out GE564.out HB.out)))
            replace HO_5 := am (Kd.R_mono (Kd.R_told (Kd.R_told (Kd.R_told (Kd.R_old (rl HO_5.out) hb) (Kd.R_base ho0)) (Kd.R_base ho1)) (Kd.R_base ho2)) (fun _ h_ => h_.1))
            replace HO_526000 := am (Kd.R_mono (Kd.R_told (Kd.R_told (Kd.R_told (Kd.R_old (rl HO_526000.out) hb) (Kd.R_base ho0)) (Kd.R_base ho1)) (Kd.R_base ho2)) (fun _ h_ => h_.1))
            replace HO_526001 := am (Kd.R_mono (Kd.R_told (Kd.R_told (Kd.R_told (Kd.R_old (rl HO_526001.out) hb) (Kd.R_base ho0)) (Kd.R_base ho1)) (Kd.R_base ho2)) (fun _ h_ => h_.1))
            replace HO_526002 := am (Kd.R_mono (Kd.R_told (Kd.R_told (Kd.R_told (Kd.R_old (rl HO_526002.out) hb) (Kd.R_base ho0)) (Kd.R_base ho1)) (Kd.R_base ho2)) (fun _ h_ => h_.1))
            replace HO544 := am (Kd.R_mono (Kd.R_told (Kd.R_told (Kd.R_told (Kd.R_old (rl HO544.out) hb) (Kd.R_base ho0)) (Kd.R_base ho1)) (Kd.R_base ho2)) (fun _ h_ => h_.1))
            replace HO547 := am (Kd.R_mono (Kd.R_told (Kd.R_told (Kd.R_told (Kd.R_old (rl HO547.out) hb) (Kd.R_base ho0)) (Kd.R_base ho1)) (Kd.R_base ho2)) (fun _ h_ => h_.1))
            replace HO550 := am (Kd.R_mono (Kd.R_told (Kd.R_told (Kd.R_told (Kd.R_old (rl HO550.out) hb) (Kd.R_base ho0)) (Kd.R_base ho1)) (Kd.R_base ho2)) (fun _ h_ => h_.1))
            replace BK525 := am (blk_below (g := gb525) (o := .cells #[.slice Ao22 t515.length co22, .slice Ao24 t518.length co24, .slice Ao25 t521.length co25] 25 (0, 0)) (kl BK525.out) hb)
            replace BK552 := am (blk_below (g := gb552) (o := .cells #[.slice Ao62 t542.length co62, .slice Ao64 t545.length co64, .slice Ao66 t548.length co66] 25 (0, 0)) (kl BK552.out) hb)
            replace BK564 := am (blk_below (g := gb564) (o := .cells #[.slice none 0 0, .slice none 0 0, .slice none 0 0] 25 (0, 0)) (kl BK564.out) hb)
            replace HB := am (below_step (bs3 GE525.out GE552.out GE564.out HB.out) hb)
            (try clear hb)
            (try clear hb2)
            (try clear hk)
            (try clear hi)
            (try clear ho0)
            (try clear ho1)
            (try clear ho2)
            refine hK.out _ _ ⟨(blk_cell BK552.out 0).trans rfl, (blk_cell BK552.out 1).trans rfl, (blk_cell BK552.out 2).trans rfl, HS3_⟩ (fun hHeld => ?_)
            clear hK K
            refine norm_ (a' := ?_) ?_ ?_
            rotate_left
            ·show Act.put _ (some 88) _ = _
             simp only [Act.put, List.setIfInBounds_toArray, List.set_cons_zero, List.set_cons_succ, i64_w, i32_w]
             rfl
            refine pure_ (i := 5) (N := some 83) (v := ?_) (a' := ?_) #[true, true, true, true, true, true, false, false, true, false, false] rfl rfl (any_of HT_.out (by kernel_rfl)) (fun _ _ _ h => h) (Or.inl ⟨by rfl, ?_⟩) ?_ ?_
            rotate_left
            ·intro w'
             go_simp
             with_reducible rfl
            rotate_left
            ·simp only [Act.put, List.setIfInBounds_toArray, List.set_cons_zero, List.set_cons_succ, i64_w, i32_w]
             rfl
            refine pure_ (i := 6) (N := some 89) (v := ?_) (a' := ?_) #[true, true, true, true, true, true, true, false, true, false, false] rfl rfl (any_of HT_.out (by kernel_rfl)) (fun _ _ _ h => h) (Or.inl ⟨by rfl, ?_⟩) ?_ ?_
            rotate_left
            ·intro w'
             go_simp
             with_reducible rfl
            rotate_left
            ·simp only [Act.put, List.setIfInBounds_toArray, List.set_cons_zero, List.set_cons_succ, i64_w, i32_w]
             rfl
            refine pure_ (i := 7) (N := some 90) (v := ?_) (a' := ?_) #[true, true, true, true, true, true, true, true, true, false, false] rfl rfl (any_of HT_.out (by kernel_rfl)) (fun _ _ _ h => h) (Or.inl ⟨by rfl, ?_⟩) ?_ ?_
            rotate_left
            ·intro w'
             go_simp
             with_reducible rfl
            rotate_left
            ·simp only [Act.put, List.setIfInBounds_toArray, List.set_cons_zero, List.set_cons_succ, i64_w, i32_w]
             rfl
            exact norm_ (by simp only [putAll, Act.put, List.setIfInBounds_toArray, List.set_cons_zero, List.set_cons_succ]) (hCont (v555, v558, v561, gb564) _ ⟨hHeld, (rl (Kd.R_mono HO544.out (fun _ hk => by simp only [ne_eq] at hk ⊢; simp only [hk, not_false_eq_true, and_self]))), (rl (Kd.R_mono HO547.out (fun _ hk => by simp only [ne_eq] at hk ⊢; simp only [hk, not_false_eq_true, and_self]))), (rl (Kd.R_mono HO550.out (fun _ hk => by simp only [ne_eq] at hk ⊢; simp only [hk, not_false_eq_true, and_self]))), (rl (Kd.R_mono HO556.out (fun _ hk => by simp only [ne_eq] at hk ⊢; simp only [hk, not_false_eq_true, and_self]))), (rl (Kd.R_mono HO559.out (fun _ hk => by simp only [ne_eq] at hk ⊢; simp only [hk, not_false_eq_true, and_self]))), (rl (Kd.R_mono HO562.out (fun _ hk => by simp only [ne_eq] at hk ⊢; simp only [hk, not_false_eq_true, and_self]))), (rl (Kd.R_mono HO_5.out (fun _ hk => by simp only [ne_eq] at hk ⊢; simp only [hk, not_false_eq_true, and_self]))), (rl (Kd.R_mono HO_526000.out (fun _ hk => by simp only [ne_eq] at hk ⊢; simp only [hk, not_false_eq_true, and_self]))), (rl (Kd.R_mono HO_526001.out (fun _ hk => by simp only [ne_eq] at hk ⊢; simp only [hk, not_false_eq_true, and_self]))), (rl (Kd.R_mono HO_526002.out (fun _ hk => by simp only [ne_eq] at hk ⊢; simp only [hk, not_false_eq_true, and_self]))), (kl BK525.out), (kl BK552.out), (kl BK564.out), GW564.out, GE564.out, NB525_564.out, NB564_525.out, NB552_564.out, NB564_552.out, (bs3 GE525.out GE552.out GE564.out HB.out)⟩)
          rintro ⟨v555, v558, v561, gb564⟩ w72 ⟨hS_, h0_, h1_, h2_, h3_, h4_, h5_, h6_, h7_, h8_, h9_, h10_, h11_, h12_, h13_, h14_, h15_, h16_, h17_, h18_, h19_⟩
          replace HO544 : Aside0 (Kd.R (Kd.int .i64) 3 w72 w.heap.size (fun k_ => some k_ ≠ (.slice Ao64 t545.length co64 : Value).ownBlock ∧ some k_ ≠ (.slice Ao66 t548.length co66 : Value).ownBlock ∧ some k_ ≠ (v555 : Value).ownBlock ∧ some k_ ≠ (v558 : Value).ownBlock ∧ some k_ ≠ (v561 : Value).ownBlock ∧ some k_ ≠ (.slice (some ad541) t526.length co29 : Value).ownBlock ∧ some k_ ≠ (.slice Ao22 t515.length co22 : Value).ownBlock ∧ some k_ ≠ (.slice Ao24 t518.length co24 : Value).ownBlock ∧ some k_ ≠ (.slice Ao25 t521.length co25 : Value).ownBlock) (.slice Ao62 t542.length co62) t542) := ⟨h0_⟩
          replace HO547 : Aside0 (Kd.R (Kd.int .i64) 3 w72 w.heap.size (fun k_ => some k_ ≠ (.slice Ao62 t542.length co62 : Value).ownBlock ∧ some k_ ≠ (.slice Ao66 t548.length co66 : Value).ownBlock ∧ some k_ ≠ (v555 : Value).ownBlock ∧ some k_ ≠ (v558 : Value).ownBlock ∧ some k_ ≠ (v561 : Value).ownBlock ∧ some k_ ≠ (.slice (some ad541) t526.length co29 : Value).ownBlock ∧ some k_ ≠ (.slice Ao22 t515.length co22 : Value).ownBlock ∧ some k_ ≠ (.slice Ao24 t518.length co24 : Value).ownBlock ∧ some k_ ≠ (.slice Ao25 t521.length co25 : Value).ownBlock) (.slice Ao64 t545.length co64) t545) := ⟨h1_⟩
          replace HO550 : Aside0 (Kd.R (Kd.int .i64) 3 w72 w.heap.size (fun k_ => some k_ ≠ (.slice Ao62 t542.length co62 : Value).ownBlock ∧ some k_ ≠ (.slice Ao64 t545.length co64 : Value).ownBlock ∧ some k_ ≠ (v555 : Value).ownBlock ∧ some k_ ≠ (v558 : Value).ownBlock ∧ some k_ ≠ (v561 : Value).ownBlock ∧ some k_ ≠ (.slice (some ad541) t526.length co29 : Value).ownBlock ∧ some k_ ≠ (.slice Ao22 t515.length co22 : Value).ownBlock ∧ some k_ ≠ (.slice Ao24 t518.length co24 : Value).ownBlock ∧ some k_ ≠ (.slice Ao25 t521.length co25 : Value).ownBlock) (.slice Ao66 t548.length co66) t548) := ⟨h2_⟩
          have HO556 : Aside0 (Kd.R (Kd.int .i64) 3 w72 w.heap.size (fun k_ => some k_ ≠ (.slice Ao62 t542.length co62 : Value).ownBlock ∧ some k_ ≠ (.slice Ao64 t545.length co64 : Value).ownBlock ∧ some k_ ≠ (.slice Ao66 t548.length co66 : Value).ownBlock ∧ some k_ ≠ (v558 : Value).ownBlock ∧ some k_ ≠ (v561 : Value).ownBlock ∧ some k_ ≠ (.slice (some ad541) t526.length co29 : Value).ownBlock ∧ some k_ ≠ (.slice Ao22 t515.length co22 : Value).ownBlock ∧ some k_ ≠ (.slice Ao24 t518.length co24 : Value).ownBlock ∧ some k_ ≠ (.slice Ao25 t521.length co25 : Value).ownBlock) v555 t554) := ⟨h3_⟩
          have HO559 : Aside0 (Kd.R (Kd.int .i64) 3 w72 w.heap.size (fun k_ => some k_ ≠ (.slice Ao62 t542.length co62 : Value).ownBlock ∧ some k_ ≠ (.slice Ao64 t545.length co64 : Value).ownBlock ∧ some k_ ≠ (.slice Ao66 t548.length co66 : Value).ownBlock ∧ some k_ ≠ (v555 : Value).ownBlock ∧ some k_ ≠ (v561 : Value).ownBlock ∧ some k_ ≠ (.slice (some ad541) t526.length co29 : Value).ownBlock ∧ some k_ ≠ (.slice Ao22 t515.length co22 : Value).ownBlock ∧ some k_ ≠ (.slice Ao24 t518.length co24 : Value).ownBlock ∧ some k_ ≠ (.slice Ao25 t521.length co25 : Value).ownBlock) v558 t557) := ⟨h4_⟩
          have HO562 : Aside0 (Kd.R (Kd.int .i64) 3 w72 w.heap.size (fun k_ => some k_ ≠ (.slice Ao62 t542.length co62 : Value).ownBlock ∧ some k_ ≠ (.slice Ao64 t545.length co64 : Value).ownBlock ∧ some k_ ≠ (.slice Ao66 t548.length co66 : Value).ownBlock ∧ some k_ ≠ (v555 : Value).ownBlock ∧ some k_ ≠ (v558 : Value).ownBlock ∧ some k_ ≠ (.slice (some ad541) t526.length co29 : Value).ownBlock ∧ some k_ ≠ (.slice Ao22 t515.length co22 : Value).ownBlock ∧ some k_ ≠ (.slice Ao24 t518.length co24 : Value).ownBlock ∧ some k_ ≠ (.slice Ao25 t521.length co25 : Value).ownBlock) v561 t560) := ⟨h5_⟩
          replace HO_5 : Aside0 (Kd.R (Kd.int .i64) 3 w72 w.heap.size (fun k_ => some k_ ≠ (.slice Ao62 t542.length co62 : Value).ownBlock ∧ some k_ ≠ (.slice Ao64 t545.length co64 : Value).ownBlock ∧ some k_ ≠ (.slice Ao66 t548.length co66 : Value).ownBlock ∧ some k_ ≠ (v555 : Value).ownBlock ∧ some k_ ≠ (v558 : Value).ownBlock ∧ some k_ ≠ (v561 : Value).ownBlock ∧ some k_ ≠ (.slice Ao22 t515.length co22 : Value).ownBlock ∧ some k_ ≠ (.slice Ao24 t518.length co24 : Value).ownBlock ∧ some k_ ≠ (.slice Ao25 t521.length co25 : Value).ownBlock) (.slice (some ad541) t526.length co29) t526) := ⟨h6_⟩
          replace HO_526000 : Aside0 (Kd.R (Kd.int .i64) 3 w72 w.heap.size (fun k_ => some k_ ≠ (.slice Ao62 t542.length co62 : Value).ownBlock ∧ some k_ ≠ (.slice Ao64 t545.length co64 : Value).ownBlock ∧ some k_ ≠ (.slice Ao66 t548.length co66 : Value).ownBlock ∧ some k_ ≠ (v555 : Value).ownBlock ∧ some k_ ≠ (v558 : Value).ownBlock ∧ some k_ ≠ (v561 : Value).ownBlock ∧ some k_ ≠ (.slice (some ad541) t526.length co29 : Value).ownBlock ∧ some k_ ≠ (.slice Ao24 t518.length co24 : Value).ownBlock ∧ some k_ ≠ (.slice Ao25 t521.length co25 : Value).ownBlock) (.slice Ao22 t515.length co22) t515) := ⟨h7_⟩
          replace HO_526001 : Aside0 (Kd.R (Kd.int .i64) 3 w72 w.heap.size (fun k_ => some k_ ≠ (.slice Ao62 t542.length co62 : Value).ownBlock ∧ some k_ ≠ (.slice Ao64 t545.length co64 : Value).ownBlock ∧ some k_ ≠ (.slice Ao66 t548.length co66 : Value).ownBlock ∧ some k_ ≠ (v555 : Value).ownBlock ∧ some k_ ≠ (v558 : Value).ownBlock ∧ some k_ ≠ (v561 : Value).ownBlock ∧ some k_ ≠ (.slice (some ad541) t526.length co29 : Value).ownBlock ∧ some k_ ≠ (.slice Ao22 t515.length co22 : Value).ownBlock ∧ some k_ ≠ (.slice Ao25 t521.length co25 : Value).ownBlock) (.slice Ao24 t518.length co24) t518) := ⟨h8_⟩
          replace HO_526002 : Aside0 (Kd.R (Kd.int .i64) 3 w72 w.heap.size (fun k_ => some k_ ≠ (.slice Ao62 t542.length co62 : Value).ownBlock ∧ some k_ ≠ (.slice Ao64 t545.length co64 : Value).ownBlock ∧ some k_ ≠ (.slice Ao66 t548.length co66 : Value).ownBlock ∧ some k_ ≠ (v555 : Value).ownBlock ∧ some k_ ≠ (v558 : Value).ownBlock ∧ some k_ ≠ (v561 : Value).ownBlock ∧ some k_ ≠ (.slice (some ad541) t526.length co29 : Value).ownBlock ∧ some k_ ≠ (.slice Ao22 t515.length co22 : Value).ownBlock ∧ some k_ ≠ (.slice Ao24 t518.length co24 : Value).ownBlock) (.slice Ao25 t521.length co25) t521) := ⟨h9_⟩
          replace BK525 : Aside0 (w72.heap[gb525]? = some (.cells #[.slice Ao22 t515.length co22, .slice Ao24 t518.length co24, .slice Ao25 t521.length co25] 25 (0, 0))) := ⟨h10_⟩
          replace BK552 : Aside0 (w72.heap[gb552]? = some (.cells #[.slice Ao62 t542.length co62, .slice Ao64 t545.length co64, .slice Ao66 t548.length co66] 25 (0, 0))) := ⟨h11_⟩
          have BK564 : Aside0 (w72.heap[gb564]? = some (.cells #[.slice none 0 0, .slice none 0 0, .slice none 0 0] 25 (0, 0))) := ⟨h12_⟩
          have GW564 : Aside0 (w.heap.size ≤ gb564) := ⟨h13_⟩
          have GE564 : Aside0 (w.heap.size ≤ gb564) := ⟨h14_⟩
          have NB525_564 : Aside0 (gb525 ≠ gb564) := ⟨h15_⟩
          have NB564_525 : Aside0 (gb564 ≠ gb525) := ⟨h16_⟩
          have NB552_564 : Aside0 (gb552 ≠ gb564) := ⟨h17_⟩
          have NB564_552 : Aside0 (gb564 ≠ gb552) := ⟨h18_⟩
          replace HB : Aside0 (Below w.heap.size w w72) := ⟨h19_⟩
          clear h0_ h1_ h2_ h3_ h4_ h5_ h6_ h7_ h8_ h9_ h10_ h11_ h12_ h13_ h14_ h15_ h16_ h17_ h18_ h19_
          have hHeld : w72.cell? ⟨gb552, 0, none⟩ = some (.slice Ao62 t542.length co62) ∧ w72.cell? ⟨gb552, 1, none⟩ = some (.slice Ao64 t545.length co64) ∧ w72.cell? ⟨gb552, 2, none⟩ = some (.slice Ao66 t548.length co66) ∧ w72.cell? ad541 = some (.int .i64 (rd t526 0)) := hS_
          obtain ⟨Ao73, co73, eo73⟩ := Kd.R_slice HO556.out
          (first | subst eo73 | (injection eo73 with f1_ f2_ f3_; have f4_ := f1_.symm; have f5_ := f3_.symm; clear f1_ f2_ f3_; subst f4_; subst f5_))
          obtain ⟨Ao75, co75, eo75⟩ := Kd.R_slice HO559.out
          (first | subst eo75 | (injection eo75 with f1_ f2_ f3_; have f4_ := f1_.symm; have f5_ := f3_.symm; clear f1_ f2_ f3_; subst f4_; subst f5_))
          obtain ⟨Ao77, co77, eo77⟩ := Kd.R_slice HO562.out
          (first | subst eo77 | (injection eo77 with f1_ f2_ f3_; have f4_ := f1_.symm; have f5_ := f3_.symm; clear f1_ f2_ f3_; subst f4_; subst f5_))
          refine norm_ (a' := ?_) ?_ ?_
          rotate_left
          ·simp only [putAll, Act.put, List.setIfInBounds_toArray, List.set_cons_zero, List.set_cons_succ]
           rfl
          refine one_ (i := 9) (N := none) #[true, true, true, true, true, true, true, true, true, true, false] rfl rfl (one_of HT_.out (by kernel_rfl)) (by decide) (fun K hK => ?_)
          have hs74 : w72.cell? ⟨gb564, 0, none⟩ = some (.slice none 0 0) := (blk_cell BK564.out 0).trans rfl
          have hfs74 := blk_frozen BK564.out 0
          have hns74_0 := NB525_564.out
          have hns74_1 := NB552_564.out
          have hms74_0 := NB564_525.out
          have hms74_1 := NB564_552.out
          have hs76 : w72.cell? ⟨gb564, 1, none⟩ = some (.slice none 0 0) := (blk_cell BK564.out 1).trans rfl
          have hfs76 := blk_frozen BK564.out 1
          have hns76_0 := NB525_564.out
          have hns76_1 := NB552_564.out
          have hms76_0 := NB564_525.out
          have hms76_1 := NB564_552.out
          have hs78 : w72.cell? ⟨gb564, 2, none⟩ = some (.slice none 0 0) := (blk_cell BK564.out 2).trans rfl
          have hfs78 := blk_frozen BK564.out 2
          have hns78_0 := NB525_564.out
          have hns78_1 := NB552_564.out
          have hms78_0 := NB564_525.out
          have hms78_1 := NB564_552.out
          refine skip_ (w1 := ?_) (by rfl) rfl ?_ ?_
          rotate_left
          ·go_simp
           rfl
          refine hK.out _ _ ⟨((cell_far (p := ⟨gb564, _, none⟩) NB552_564.out _).trans (((cell_far (p := ⟨gb564, _, none⟩) NB552_564.out _).trans (((cell_far (p := ⟨gb564, _, none⟩) NB552_564.out _).trans (hHeld.1)))))), ((cell_far (p := ⟨gb564, _, none⟩) NB552_564.out _).trans (((cell_far (p := ⟨gb564, _, none⟩) NB552_564.out _).trans (((cell_far (p := ⟨gb564, _, none⟩) NB552_564.out _).trans (hHeld.2.1)))))), ((cell_far (p := ⟨gb564, _, none⟩) NB552_564.out _).trans (((cell_far (p := ⟨gb564, _, none⟩) NB552_564.out _).trans (((cell_far (p := ⟨gb564, _, none⟩) NB552_564.out _).trans (hHeld.2.2.1)))))), ((cell_far (p := ⟨gb564, _, none⟩) (by first | exact Kd.own_blk (Kd.R_ne HO_5.out BK564.out (by decide)) | (rw [add_block]; exact Kd.own_blk (Kd.R_ne HO_5.out BK564.out (by decide))) | (show (Addr.add _ _).block ≠ _; rw [add_block]; exact Kd.own_blk (Kd.R_ne HO_5.out BK564.out (by decide))) | (dsimp only; exact Kd.own_blk (Kd.R_ne HO_5.out BK564.out (by decide)))) _).trans (((cell_far (p := ⟨gb564, _, none⟩) (by first | exact Kd.own_blk (Kd.R_ne HO_5.out BK564.out (by decide)) | (rw [add_block]; exact Kd.own_blk (Kd.R_ne HO_5.out BK564.out (by decide))) | (show (Addr.add _ _).block ≠ _; rw [add_block]; exact Kd.own_blk (Kd.R_ne HO_5.out BK564.out (by decide))) | (dsimp only; exact Kd.own_blk (Kd.R_ne HO_5.out BK564.out (by decide)))) _).trans (((cell_far (p := ⟨gb564, _, none⟩) (by first | exact Kd.own_blk (Kd.R_ne HO_5.out BK564.out (by decide)) | (rw [add_block]; exact Kd.own_blk (Kd.R_ne HO_5.out BK564.out (by decide))) | (show (Addr.add _ _).block ≠ _; rw [add_block]; exact Kd.own_blk (Kd.R_ne HO_5.out BK564.out (by decide))) | (dsimp only; exact Kd.own_blk (Kd.R_ne HO_5.out BK564.out (by decide)))) _).trans (hHeld.2.2.2))))))⟩ (fun hHeld => ?_)
          clear hK K
          refine pure_ (i := 10) (N := some 10) (v := ?_) (a' := ?_) #[true, true, true, true, true, true, true, true, true, true, true] rfl rfl (any_of HT_.out (by kernel_rfl)) (fun _ _ _ h => h) (Or.inl ⟨by rfl, ?_⟩) ?_ ?_
          rotate_left
          ·intro w'
           go_simp
           with_reducible rfl
          rotate_left
          ·simp only [Act.put, List.setIfInBounds_toArray, List.set_cons_zero, List.set_cons_succ, i64_w, i32_w]
           rfl
          refine done_ (done_of HT_.out (by kernel_rfl)) ?_
          have hnb79 := NB564_525.out
          have hnc79 := NB525_564.out
          have hnb80 := NB564_552.out
          have hnc80 := NB552_564.out
          have hcz81_0 : w72.cell? ⟨gb564, 0, none⟩ = some (.slice none 0 0) := (blk_cell BK564.out 0).trans rfl
          have hcz81_1 : w72.cell? ⟨gb564, 1, none⟩ = some (.slice none 0 0) := (blk_cell BK564.out 1).trans rfl
          have hcz81_2 : w72.cell? ⟨gb564, 2, none⟩ = some (.slice none 0 0) := (blk_cell BK564.out 2).trans rfl
          have hfz81_0 := blk_frozen BK564.out 0
          have hfz81_1 := blk_frozen BK564.out 1
          have hfz81_2 := blk_frozen BK564.out 2
          try go_wp2_with (first | (go_at_call 22; (with_reducible refine (impl_SourcesOf.calls k1 _ _ t554 _ _ t557 _ _ t560 t524 t565 _ ?side1 ?side2 ?side3 ?side4 ?side5 ?side6 A57.out).mono ?_); (case side1 => exact (Kd.R_reads' (rf1 BK564.out HO556.out)).2.2); (case side2 => exact (Kd.R_reads' HO556.out).2.1); (case side3 => exact (Kd.R_reads' (rf1 BK564.out HO559.out)).2.2); (case side4 => exact (Kd.R_reads' HO559.out).2.1); (case side5 => exact (Kd.R_reads' (rf1 BK564.out HO562.out)).2.2); (case side6 => exact (Kd.R_reads' HO562.out).2.1); rintro e w82 ⟨v566, rfl, ho0, hb⟩; have HO567 := am (Kd.R_lower (Kd.R_new' (Kd.R_new' (Kd.R_new' (Kd.R_new' (Kd.R_new' (Kd.R_new' (Kd.R_new' (Kd.R_new' (Kd.R_new' (Kd.R_new' ho0 (Kd.R_lt (rf1 BK564.out HO_5.out))) (Kd.R_lt (rf1 BK564.out HO_526000.out))) (Kd.R_lt (rf1 BK564.out HO_526001.out))) (Kd.R_lt (rf1 BK564.out HO_526002.out))) (Kd.R_lt (rf1 BK564.out HO544.out))) (Kd.R_lt (rf1 BK564.out HO547.out))) (Kd.R_lt (rf1 BK564.out HO550.out))) (Kd.R_lt (rf1 BK564.out HO556.out))) (Kd.R_lt (rf1 BK564.out HO559.out))) (Kd.R_lt (rf1 BK564.out HO562.out))) (below_size (bs3 GE525.out GE552.out GE564.out HB.out))); replace HO_5 := am (Kd.R_elder' (rf1 BK564.out HO_5.out) (Kd.R_base ho0) hb); replace HO_526000 := am (Kd.R_elder' (rf1 BK564.out HO_526000.out) (Kd.R_base ho0) hb); replace HO_526001 := am (Kd.R_elder' (rf1 BK564.out HO_526001.out) (Kd.R_base ho0) hb); replace HO_526002 := am (Kd.R_elder' (rf1 BK564.out HO_526002.out) (Kd.R_base ho0) hb); replace HO544 := am (Kd.R_elder' (rf1 BK564.out HO544.out) (Kd.R_base ho0) hb); replace HO547 := am (Kd.R_elder' (rf1 BK564.out HO547.out) (Kd.R_base ho0) hb); replace HO550 := am (Kd.R_elder' (rf1 BK564.out HO550.out) (Kd.R_base ho0) hb); replace HO556 := am (Kd.R_elder' (rf1 BK564.out HO556.out) (Kd.R_base ho0) hb); replace HO559 := am (Kd.R_elder' (rf1 BK564.out HO559.out) (Kd.R_base ho0) hb); replace HO562 := am (Kd.R_elder' (rf1 BK564.out HO562.out) (Kd.R_base ho0) hb); replace BK525 := am (blk_below (g := gb525) (o := .cells #[.slice Ao22 t515.length co22, .slice Ao24 t518.length co24, .slice Ao25 t521.length co25] 25 (0, 0)) (kf1 NB525_564.out BK525.out) hb); replace BK552 := am (blk_below (g := gb552) (o := .cells #[.slice Ao62 t542.length co62, .slice Ao64 t545.length co64, .slice Ao66 t548.length co66] 25 (0, 0)) (kf1 NB552_564.out BK552.out) hb); replace BK564 := am (blk_below (g := gb564) (o := .cells #[.slice Ao73 t554.length co73, .slice Ao75 t557.length co75, .slice Ao77 t560.length co77] 25 (0, 0)) (kp3 (kf0 BK564.out)) hb); replace HB := am (below_step (bs3 GE525.out GE552.out GE564.out HB.out) hb); (try clear hb); (try clear hb2); (try clear hk); (try clear hi); (try clear ho0); obtain ⟨Ao83, co83, eo83⟩ := Kd.R_slice HO567.out; subst eo83))
          go_ret
          exact ⟨by first | rfl | (simp [errW_none, errW_some] <;> rfl) | (simp [*, errW_none, errW_some] <;> rfl), by exact bs3 GE525.out GE552.out GE564.out HB.out⟩
         ·replace c56 := Bool.eq_false_iff.mpr c56
          subst c56
          have H1 : (none) = some r := by rw [if_neg (show ¬ (false = true) by decide)] at H; exact H
          clear H
          have H := H1
          clear H1
          exact absurd H (by simp)
        ·replace c55 := Bool.eq_false_iff.mpr c55
         subst c55
         have H1 : (none) = some r := by rw [if_neg (show ¬ (false = true) by decide)] at H; exact H
         clear H
         have H := H1
         clear H1
         exact absurd H (by simp)
       ·rw [if_neg c52] at H
        exact absurd H (by simp)
  ·replace c7 := Bool.eq_false_iff.mpr c7
   subst c7
   have H1 : (none) = some r := by rw [if_neg (show ¬ (false = true) by decide)] at H; exact H
   clear H
   have H := H1
   clear H1
   exact absurd H (by simp)

/-- THE ONE PURE STATEMENT of laws_FnSourcesOf: yours. -/
def laws_FnSourcesOf.Pure : Prop := ∀ (l0 : List Int), l0.length ≤ maxLen → l0.length * 1 ≤ 140737488351232 → (∀ x ∈ l0, (Lit.int .u8 x).wf = true) → ∃ k, laws_FnSourcesOf.f k l0 = some true
theorem laws_FnSourcesOf.walk (P : laws_FnSourcesOf.Pure) (a0 : Option Addr) (len0 cap0 : Nat) (z0 : List Int) (w : World) (w0 : (a0 = none ∧ len0 = 0 ∧ cap0 = 0 ∧ z0 = []) ∨ ∃ x, a0 = some x ∧ len0 ≤ cap0 ∧ cap0 ≤ maxLen ∧ z0.length = cap0 ∧ (∀ i, i < z0.length → w.cell? (x.add i) = some (.int .u8 (z0.getD i 0))) ∧ ∀ n ∈ z0, (Lit.int .u8 n).wf = true) (y0 : len0 * 1 ≤ 140737488351232) :
  Calls Try.prog 5 #[.slice a0 len0 cap0] w fun e w' => e = .returned (.bool true) ∧ Below w.heap.size w w' := by
 obtain ⟨l0, rfl, hr0, hm0, hw0, hc0⟩ := ReadsInt.ofRowC w0
 obtain ⟨k, h⟩ := P l0 hm0 y0 hw0
 refine (laws_FnSourcesOf.calls k _ _ l0 true w (Kd.C_of_reads (d := (0 : Int)) (h1 := fun _ => rfl) hr0) hc0 h).mono ?_
 rintro e w' ⟨rfl, hd⟩
 exact ⟨rfl, hd⟩

end Go.Proofs.Ytcofdgeelojebab.A
