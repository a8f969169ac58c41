/- Contracts of functions of the given program (CLawsFnCountColor). No conditions beyond those stated. -/
import Derived.Test.YtkbaggfkidalfaaA0
import Derived.Test.YtkbaggfkidalfaaAImplColoredValid
import Derived.Test.YtkbaggfkidalfaaAImplCountColor
import Derived.Test.YtkbaggfkidalfaaASpecCountColor
import Derived.Test.YtkbaggfkidalfaaASpecDrawCountColor
import Derived.Test.YtkbaggfkidalfaaA0
namespace Go.Proofs.Ytkbaggfkidalfaa.A
open Go.RowKit Go.Proofs.YtkbaggfkidalfaaW.PrintWords Go.Proofs.YtkbaggfkidalfaaW.PrintLast Go.Proofs.YtkbaggfkidalfaaW.PrintMore
attribute [local go_sem] max2_int min2_int max_two min_two max_three min_three max_four min_four   -- for this text's walks alone
set_option linter.unusedVariables false
set_option linter.unusedSimpArgs false

/-! ### laws_FnCountColor -/
def laws_FnCountColor.j0 : Nat → Int → Int → Bool → List Int → List Int → List Int → List Int → Option (Bool)
 | 0, _, _, _, _, _, _, _ => none
 | k + 1, x4, x5, x26, x914000, x914001, x914002, x914003 => if x26 = true then ((spec_CountColor.f k x914000 x914001 x914002 x914003 x4).bind fun t917 => (if x5 = t917 then (some (x5 == 0)) else (none))) else ((impl_CountColor.f k x914000 x914001 x914002 x914003 0).bind fun t918 => ((impl_CountColor.f k x914000 x914001 x914002 x914003 1).bind fun t919 => ((impl_CountColor.f k x914000 x914001 x914002 x914003 2).bind fun t920 => (if (wrap64 ((wrap64 (t918 + t919)) + t920)) = (x914003.length : Int) then (some (decide (x5 ≥ 0))) else (none)))))
def laws_FnCountColor.f (k : Nat) (l0 : List Int) : Option (Bool) := if (l0.length : Int) > 1048576 then (some true) else ((spec_DrawCountColor.f k l0).bind fun bt900 => ((impl_CountColor.f k bt900.1 bt900.2.1 bt900.2.2.1 bt900.2.2.2.1 bt900.2.2.2.2).bind fun t914 => ((spec_CountColor.f k bt900.1 bt900.2.1 bt900.2.2.1 bt900.2.2.2.1 bt900.2.2.2.2).bind fun t915 => (if t914 = t915 then ((impl_ColoredValid.f k bt900.1 bt900.2.1 bt900.2.2.1 bt900.2.2.2.1).bind fun t916 => (laws_FnCountColor.j0 k bt900.2.2.2.2 t914 (!t916) bt900.1 bt900.2.1 bt900.2.2.1 bt900.2.2.2.1)) else (laws_FnCountColor.j0 k bt900.2.2.2.2 t914 true bt900.1 bt900.2.1 bt900.2.2.1 bt900.2.2.2.1)))))
theorem laws_FnCountColor.mono_l : ∀ k, (∀ y0 y1 y2 y3 y4 y5 y6, LeO (laws_FnCountColor.j0 k y0 y1 y2 y3 y4 y5 y6) (laws_FnCountColor.j0 (k + 1) y0 y1 y2 y3 y4 y5 y6))
 | 0 => fun _ _ _ _ _ _ _ r h => by simp [laws_FnCountColor.j0] at h
 | k + 1 => by
  have ih0 := laws_FnCountColor.mono_l k
  ·intro y0 y1 y2 y3 y4 y5 y6
   unfold laws_FnCountColor.j0
   repeat' first
   | (with_reducible exact ih0 _ _ _ _ _ _ _)
   | (with_reducible exact impl_ColoredValid.mono _ _ _ _ _)
   | (with_reducible exact impl_CountColor.mono _ _ _ _ _ _)
   | (with_reducible exact spec_CountColor.mono _ _ _ _ _ _)
   | (with_reducible exact spec_DrawCountColor.mono _ _)
   | (with_reducible exact LeO.refl _)
   | (with_reducible exact LeO.none _)
   | (with_reducible refine LeO.ite ?_ ?_)
   | (with_reducible refine LeO.bind ?_ (fun _ => ?_))
   | exact ih0 _ _ _ _ _ _ _
   | exact impl_ColoredValid.mono _ _ _ _ _
   | exact impl_CountColor.mono _ _ _ _ _ _
   | exact spec_CountColor.mono _ _ _ _ _ _
   | exact spec_DrawCountColor.mono _ _
   | exact LeO.none _
   | refine LeO.ite ?_ ?_
   | refine LeO.bind ?_ (fun _ => ?_)
theorem laws_FnCountColor.mono : ∀ a0 k, LeO (laws_FnCountColor.f k a0) (laws_FnCountColor.f (k + 1) a0) := by
 intro a0 k
 have ih0 := laws_FnCountColor.mono_l k
 unfold laws_FnCountColor.f
 repeat' first
   | (with_reducible exact ih0 _ _ _ _ _ _ _)
   | (with_reducible exact impl_ColoredValid.mono _ _ _ _ _)
   | (with_reducible exact impl_CountColor.mono _ _ _ _ _ _)
   | (with_reducible exact spec_CountColor.mono _ _ _ _ _ _)
   | (with_reducible exact spec_DrawCountColor.mono _ _)
   | (with_reducible exact LeO.refl _)
   | (with_reducible exact LeO.none _)
   | (with_reducible refine LeO.ite ?_ ?_)
   | (with_reducible refine LeO.bind ?_ (fun _ => ?_))
   | exact ih0 _ _ _ _ _ _ _
   | exact impl_ColoredValid.mono _ _ _ _ _
   | exact impl_CountColor.mono _ _ _ _ _ _
   | exact spec_CountColor.mono _ _ _ _ _ _
   | exact spec_DrawCountColor.mono _ _
   | exact LeO.none _
   | refine LeO.ite ?_ ?_
   | refine LeO.bind ?_ (fun _ => ?_)
def laws_FnCountColor.T7 : Bool × List (List Nat × List Nat) := (true, [([], []), ([0], [0]), ([], []), ([2, 1], [2]), ([1, 3], [1, 3]), ([], []), ([5, 3], [5]), ([4, 6], [4, 6]), ([], []), ([8], [8]), ([9], [9]), ([7, 10], [7, 10]), ([11, 6], [11]), ([12], [12]), ([13, 12], [12, 13]), ([12, 14], [12, 14]), ([15, 12, 0, 1, 2, 3, 4, 5, 6, 7, 8, 9, 10, 11, 12, 13, 14, 15], [15])])
def laws_FnCountColor.B7 : List Nat := [0, 1, 0, 7, 15, 0, 47, 127, 0, 256, 768, 2047, 4095, 8191, 16383, 32767, 65535]
theorem laws_FnCountColor.tab7 : rtab .any (opsOf Try.f6 7) = laws_FnCountColor.T7 := by kernel_rfl
theorem laws_FnCountColor.bits7 : waitsOk laws_FnCountColor.T7.2 laws_FnCountColor.B7 = true := by kernel_rfl
set_option maxHeartbeats 8000000 in
set_option maxRecDepth 100000 in
theorem laws_FnCountColor.calls (k : Nat) (A0 : Option Addr) (c0 : Nat) (l0 : List Int) (r : Bool) (w : World) (hr0 : Kd.C (Kd.int .u8) w A0 l0.length l0) (hc0 : l0.length ≤ c0) (h : laws_FnCountColor.f k l0 = some r) :
  Calls Try.prog 6 #[.slice A0 l0.length c0] w fun e w' => e = .returned (.bool r) ∧ Below w.heap.size w w' := by
 have hu30 := Try.underlying30
 have HR0 := am hr0
 have HC0 := am hc0
 clear hr0 hc0
 have HB := am (Below.refl w.heap.size w)
 have H : (if (l0.length : Int) > 1048576 then (some true) else ((spec_DrawCountColor.f k l0).bind fun bt900 => ((impl_CountColor.f k bt900.1 bt900.2.1 bt900.2.2.1 bt900.2.2.2.1 bt900.2.2.2.2).bind fun t914 => ((spec_CountColor.f k bt900.1 bt900.2.1 bt900.2.2.1 bt900.2.2.2.1 bt900.2.2.2.2).bind fun t915 => (if t914 = t915 then ((impl_ColoredValid.f k bt900.1 bt900.2.1 bt900.2.2.1 bt900.2.2.2.1).bind fun t916 => (laws_FnCountColor.j0 k bt900.2.2.2.2 t914 (!t916) bt900.1 bt900.2.1 bt900.2.2.1 bt900.2.2.2.1)) else (laws_FnCountColor.j0 k bt900.2.2.2.2 t914 true bt900.1 bt900.2.1 bt900.2.2.1 bt900.2.2.2.1)))))) = some r := h
 clear h
 by_cases c2 : (l0.length : Int) > 1048576
 ·rw [if_pos c2] at H
  have c2b0 : decide (1048576 < (l0.length : Int)) = true := decide_eq_true c2
  have c2b1 : decide (1048576 < l0.length) = true := decide_eq_true (by omega)
  clear c2
  obtain rfl := Option.some.inj H
  go_enter Try.func6, Try.ntmps6
  go_wp2
  go_ret
  exact ⟨by first | rfl | (simp [errW_none, errW_some] <;> rfl) | (simp [*, errW_none, errW_some] <;> rfl), by exact bs0 HB.out⟩
 ·rw [if_neg c2] at H
  have c2b0 : decide (1048576 < (l0.length : Int)) = false := decide_eq_false c2
  have c2b1 : decide (1048576 < l0.length) = false := decide_eq_false (by omega)
  clear c2
  replace H := Option.bind_eq_some_iff.mp H
  obtain ⟨⟨t900, t903, t906, t909, t912⟩, A30, H⟩ := H
  replace H : ((impl_CountColor.f k t900 t903 t906 t909 t912).bind fun t914 => ((spec_CountColor.f k t900 t903 t906 t909 t912).bind fun t915 => (if t914 = t915 then ((impl_ColoredValid.f k t900 t903 t906 t909).bind fun t916 => (laws_FnCountColor.j0 k t912 t914 (!t916) t900 t903 t906 t909)) else (laws_FnCountColor.j0 k t912 t914 true t900 t903 t906 t909)))) = some r := H
  have A3 := am A30
  clear A30
  replace H := Option.bind_eq_some_iff.mp H
  obtain ⟨t914, A40, H⟩ := H
  replace H : ((spec_CountColor.f k t900 t903 t906 t909 t912).bind fun t915 => (if t914 = t915 then ((impl_ColoredValid.f k t900 t903 t906 t909).bind fun t916 => (laws_FnCountColor.j0 k t912 t914 (!t916) t900 t903 t906 t909)) else (laws_FnCountColor.j0 k t912 t914 true t900 t903 t906 t909))) = some r := H
  have A4 := am A40
  clear A40
  have HC5 := am H
  clear H
  go_enter Try.func6, Try.ntmps6
  go_upto_region 5 with (first | ((with_reducible refine gate_callee (f := 26) rfl ?_); refine goesL_ (some 11) rfl rfl Try.func26 (by kernel_rfl) rfl #[.slice A0 l0.length c0] rfl (by (try simp only [List.map_toArray, List.map_cons, List.map_nil]); first | done | rfl | (simp only [List.length_drop, List.length_take]; rfl)) ?_; (with_reducible refine (spec_DrawCountColor.calls k _ _ l0 t900 t903 t906 t909 t912 _ ?side1 ?side2 A3.out).mono ?_); (case side1 => exact cl (HR0.out)); (case side2 => exact HC0.out); rintro e w6 ⟨v901, v904, v907, v910, rfl, ho0, ho1, ho2, ho3, hb⟩; refine ⟨_, rfl, ?_⟩; have HO902 := am (Kd.R_lower ho0 (below_size (bl HB.out))); have HO905 := am (Kd.R_lower ho1 (below_size (bl HB.out))); have HO908 := am (Kd.R_lower ho2 (below_size (bl HB.out))); have HO911 := am (Kd.R_lower ho3 (below_size (bl HB.out))); replace HB := am (below_step (bl HB.out) hb); (try clear hb); (try clear hb2); (try clear hk); (try clear hi); (try clear ho0); (try clear ho1); (try clear ho2); (try clear ho3)) | ((with_reducible refine gate_dst (N := 3) rfl ?_); refine box_event ?hg (N := 3) ?hd (cs := #[.slice none 0 0, .slice none 0 0, .slice none 0 0, .slice none 0 0]) (t := 30) ?hr ?_; (case hd => rfl); (case hg => rfl); (case hr => first | (go_simp; done) | (go_simp; rfl)); intro gb913 hg w7 hbox hb; replace HO902 := am (Kd.R_below (rl HO902.out) hb); replace HO905 := am (Kd.R_below (rl HO905.out) hb); replace HO908 := am (Kd.R_below (rl HO908.out) hb); replace HO911 := am (Kd.R_below (rl HO911.out) hb); have BK913 := am (hbox); have GW913 := am ((by rw [hg]; exact (below_size (bl HB.out)) : w.heap.size ≤ gb913)); have GE913 := am ((by rw [hg]; exact (below_size (bl HB.out)) : w.heap.size ≤ gb913)); replace HB := am (below_step (bl HB.out) hb); clear hb hbox hg; obtain ⟨Ao8, co8, eo8⟩ := Kd.R_slice HO902.out; subst eo8; have hcz9_0 : w7.cell? ⟨gb913, 0, none⟩ = some (.slice none 0 0) := (blk_cell BK913.out 0).trans rfl; have hcz9_1 : w7.cell? ⟨gb913, 1, none⟩ = some (.slice none 0 0) := (blk_cell BK913.out 1).trans rfl; have hcz9_2 : w7.cell? ⟨gb913, 2, none⟩ = some (.slice none 0 0) := (blk_cell BK913.out 2).trans rfl; have hcz9_3 : w7.cell? ⟨gb913, 3, none⟩ = some (.slice none 0 0) := (blk_cell BK913.out 3).trans rfl; have hfz9_0 := blk_frozen BK913.out 0; have hfz9_1 := blk_frozen BK913.out 1; have hfz9_2 := blk_frozen BK913.out 2; have hfz9_3 := blk_frozen BK913.out 3; obtain ⟨Ao10, co10, eo10⟩ := Kd.R_slice HO905.out; subst eo10; obtain ⟨Ao11, co11, eo11⟩ := Kd.R_slice HO908.out; subst eo11; obtain ⟨Ao12, co12, eo12⟩ := Kd.R_slice HO911.out; subst eo12) | ((with_reducible refine gate_callee (f := 27) rfl ?_); refine goesL_ (some 16) rfl rfl Try.func27 (by kernel_rfl) rfl #[.agg #[.slice Ao8 t900.length co8, .slice Ao10 t903.length co10, .slice Ao11 t906.length co11, .slice Ao12 t909.length co12], .int .i64 t912] rfl (by (try simp only [List.map_toArray, List.map_cons, List.map_nil]); first | done | rfl | (simp only [List.length_drop, List.length_take]; rfl)) ?_; (with_reducible refine (impl_CountColor.calls k _ _ t900 _ _ t903 _ _ t906 _ _ t909 t912 t914 _ ?side1 ?side2 ?side3 ?side4 ?side5 ?side6 ?side7 ?side8 A4.out).mono ?_); (case side1 => exact (Kd.R_reads' (rf1 BK913.out HO902.out)).2.2); (case side2 => exact (Kd.R_reads' HO902.out).2.1); (case side3 => exact (Kd.R_reads' (rf1 BK913.out HO905.out)).2.2); (case side4 => exact (Kd.R_reads' HO905.out).2.1); (case side5 => exact (Kd.R_reads' (rf1 BK913.out HO908.out)).2.2); (case side6 => exact (Kd.R_reads' HO908.out).2.1); (case side7 => exact (Kd.R_reads' (rf1 BK913.out HO911.out)).2.2); (case side8 => exact (Kd.R_reads' HO911.out).2.1); rintro e w13 ⟨rfl, hb⟩; refine ⟨_, rfl, ?_⟩; replace HO902 := am (Kd.R_below (rf1 BK913.out HO902.out) hb); replace HO905 := am (Kd.R_below (rf1 BK913.out HO905.out) hb); replace HO908 := am (Kd.R_below (rf1 BK913.out HO908.out) hb); replace HO911 := am (Kd.R_below (rf1 BK913.out HO911.out) hb); replace BK913 := am (blk_below (g := gb913) (o := .cells #[.slice Ao8 t900.length co8, .slice Ao10 t903.length co10, .slice Ao11 t906.length co11, .slice Ao12 t909.length co12] 30 (0, 0)) (kp4 (kf0 BK913.out)) hb); replace HB := am (below_step (bs1 GE913.out HB.out) hb); (try clear hb); (try clear hb2); (try clear hk); (try clear hi)))
  (try simp only [Act.put, List.setIfInBounds_toArray, List.set_cons_zero, List.set_cons_succ])
  go_cut [26] (fun v26 wc => ∃ (kq : Nat) (x26_4 : Bool), v26 = .bool x26_4 ∧ Aside0 (laws_FnCountColor.j0 kq t912 t914 x26_4 t900 t903 t906 t909 = some r) ∧ Aside0 (kq ≤ k) ∧ Aside0 (Kd.R (Kd.int .i64) 3 wc w.heap.size (fun k_ => some k_ ≠ ((.slice Ao10 t903.length co10) : Value).ownBlock ∧ some k_ ≠ ((.slice Ao11 t906.length co11) : Value).ownBlock ∧ some k_ ≠ ((.slice Ao12 t909.length co12) : Value).ownBlock) (.slice Ao8 t900.length co8) t900) ∧ Aside0 (Kd.R (Kd.int .i64) 3 wc w.heap.size (fun k_ => some k_ ≠ ((.slice Ao8 t900.length co8) : Value).ownBlock ∧ some k_ ≠ ((.slice Ao11 t906.length co11) : Value).ownBlock ∧ some k_ ≠ ((.slice Ao12 t909.length co12) : Value).ownBlock) (.slice Ao10 t903.length co10) t903) ∧ Aside0 (Kd.R (Kd.int .i64) 3 wc w.heap.size (fun k_ => some k_ ≠ ((.slice Ao8 t900.length co8) : Value).ownBlock ∧ some k_ ≠ ((.slice Ao10 t903.length co10) : Value).ownBlock ∧ some k_ ≠ ((.slice Ao12 t909.length co12) : Value).ownBlock) (.slice Ao11 t906.length co11) t906) ∧ Aside0 (Kd.R (Kd.int .i64) 3 wc w.heap.size (fun k_ => some k_ ≠ ((.slice Ao8 t900.length co8) : Value).ownBlock ∧ some k_ ≠ ((.slice Ao10 t903.length co10) : Value).ownBlock ∧ some k_ ≠ ((.slice Ao11 t906.length co11) : Value).ownBlock) (.slice Ao12 t909.length co12) t909) ∧ Aside0 (wc.heap[gb913]? = some (.cells #[(.slice Ao8 t900.length co8), (.slice Ao10 t903.length co10), (.slice Ao11 t906.length co11), (.slice Ao12 t909.length co12)] 30 (0, 0))) ∧ Aside0 (Below w.heap.size w wc))
  case first =>
   have H := HC5.out
   clear HC5
   replace H := Option.bind_eq_some_iff.mp H
   obtain ⟨t915, A140, H⟩ := H
   replace H : (if t914 = t915 then ((impl_ColoredValid.f k t900 t903 t906 t909).bind fun t916 => (laws_FnCountColor.j0 k t912 t914 (!t916) t900 t903 t906 t909)) else (laws_FnCountColor.j0 k t912 t914 true t900 t903 t906 t909)) = some r := H
   have A14 := am A140
   clear A140
   by_cases c15 : t914 = t915
   ·rw [if_pos c15] at H
    have c15b0 : (t914 == t915) = true := beq_iff_eq.mpr c15
    have c15b1 : (t914 != t915) = false := bne_eq_false_iff_eq.mpr c15
    clear c15
    (first | rw [c15b0] | (simp only [i64_w, i32_w]; rw [c15b0]) | skip)
    replace H := Option.bind_eq_some_iff.mp H
    obtain ⟨t916, A160, H⟩ := H
    replace H : (laws_FnCountColor.j0 k t912 t914 (!t916) t900 t903 t906 t909) = some r := H
    have A16 := am A160
    clear A160
    have H' := am H
    clear H
    have hcz17_0 : w13.cell? ⟨gb913, 0, none⟩ = some (.slice Ao8 t900.length co8) := (blk_cell BK913.out 0).trans rfl
    have hcz17_1 : w13.cell? ⟨gb913, 1, none⟩ = some (.slice Ao10 t903.length co10) := (blk_cell BK913.out 1).trans rfl
    have hcz17_2 : w13.cell? ⟨gb913, 2, none⟩ = some (.slice Ao11 t906.length co11) := (blk_cell BK913.out 2).trans rfl
    have hcz17_3 : w13.cell? ⟨gb913, 3, none⟩ = some (.slice Ao12 t909.length co12) := (blk_cell BK913.out 3).trans rfl
    have hfz17_0 := blk_frozen BK913.out 0
    have hfz17_1 := blk_frozen BK913.out 1
    have hfz17_2 := blk_frozen BK913.out 2
    have hfz17_3 := blk_frozen BK913.out 3
    go_wp2_with (first | ((with_reducible refine gate_callee (f := 28) rfl ?_); refine goesL_ (some 20) rfl rfl Try.func28 (by kernel_rfl) rfl #[.agg #[.slice Ao8 t900.length co8, .slice Ao10 t903.length co10, .slice Ao11 t906.length co11, .slice Ao12 t909.length co12], .int .i64 t912] rfl (by (try simp only [List.map_toArray, List.map_cons, List.map_nil]); first | done | rfl | (simp only [List.length_drop, List.length_take]; rfl)) ?_; (with_reducible refine (spec_CountColor.calls k _ _ t900 _ _ t903 _ _ t906 _ _ t909 t912 t915 _ ?side1 ?side2 ?side3 ?side4 ?side5 ?side6 ?side7 ?side8 A14.out).mono ?_); (case side1 => exact cl ((Kd.R_reads' HO902.out).2.2)); (case side2 => exact (Kd.R_reads' HO902.out).2.1); (case side3 => exact cl ((Kd.R_reads' HO905.out).2.2)); (case side4 => exact (Kd.R_reads' HO905.out).2.1); (case side5 => exact cl ((Kd.R_reads' HO908.out).2.2)); (case side6 => exact (Kd.R_reads' HO908.out).2.1); (case side7 => exact cl ((Kd.R_reads' HO911.out).2.2)); (case side8 => exact (Kd.R_reads' HO911.out).2.1); rintro e w18 ⟨rfl, hb⟩; refine ⟨_, rfl, ?_⟩; replace HO902 := am (Kd.R_below (rl HO902.out) hb); replace HO905 := am (Kd.R_below (rl HO905.out) hb); replace HO908 := am (Kd.R_below (rl HO908.out) hb); replace HO911 := am (Kd.R_below (rl HO911.out) hb); replace BK913 := am (blk_below (g := gb913) (o := .cells #[.slice Ao8 t900.length co8, .slice Ao10 t903.length co10, .slice Ao11 t906.length co11, .slice Ao12 t909.length co12] 30 (0, 0)) (kl BK913.out) hb); replace HB := am (below_step (bs1 GE913.out HB.out) hb); (try clear hb); (try clear hb2); (try clear hk); (try clear hi); have hcz19_0 : w18.cell? ⟨gb913, 0, none⟩ = some (.slice Ao8 t900.length co8) := (blk_cell BK913.out 0).trans rfl; have hcz19_1 : w18.cell? ⟨gb913, 1, none⟩ = some (.slice Ao10 t903.length co10) := (blk_cell BK913.out 1).trans rfl; have hcz19_2 : w18.cell? ⟨gb913, 2, none⟩ = some (.slice Ao11 t906.length co11) := (blk_cell BK913.out 2).trans rfl; have hcz19_3 : w18.cell? ⟨gb913, 3, none⟩ = some (.slice Ao12 t909.length co12) := (blk_cell BK913.out 3).trans rfl; have hfz19_0 := blk_frozen BK913.out 0; have hfz19_1 := blk_frozen BK913.out 1; have hfz19_2 := blk_frozen BK913.out 2; have hfz19_3 := blk_frozen BK913.out 3) | (go_at_call 29; (with_reducible refine (impl_ColoredValid.calls k _ _ t900 _ _ t903 _ _ t906 _ _ t909 t916 _ ?side1 ?side2 ?side3 ?side4 ?side5 ?side6 ?side7 ?side8 A16.out).mono ?_); (case side1 => exact cl ((Kd.R_reads' HO902.out).2.2)); (case side2 => exact (Kd.R_reads' HO902.out).2.1); (case side3 => exact cl ((Kd.R_reads' HO905.out).2.2)); (case side4 => exact (Kd.R_reads' HO905.out).2.1); (case side5 => exact cl ((Kd.R_reads' HO908.out).2.2)); (case side6 => exact (Kd.R_reads' HO908.out).2.1); (case side7 => exact cl ((Kd.R_reads' HO911.out).2.2)); (case side8 => exact (Kd.R_reads' HO911.out).2.1); rintro e w20 ⟨rfl, hb⟩; replace HO902 := am (Kd.R_below (rl HO902.out) hb); replace HO905 := am (Kd.R_below (rl HO905.out) hb); replace HO908 := am (Kd.R_below (rl HO908.out) hb); replace HO911 := am (Kd.R_below (rl HO911.out) hb); replace BK913 := am (blk_below (g := gb913) (o := .cells #[.slice Ao8 t900.length co8, .slice Ao10 t903.length co10, .slice Ao11 t906.length co11, .slice Ao12 t909.length co12] 30 (0, 0)) (kl BK913.out) hb); replace HB := am (below_step (bs1 GE913.out HB.out) hb); (try clear hb); (try clear hb2); (try clear hk); (try clear hi)))
    go_meet
    case rel => exact ⟨_, (!t916), (by first | rfl | (simp; done) | (simp [*]; done)), H', ⟨by first | omega | exact Nat.le_refl _⟩, ⟨rl HO902.out⟩, ⟨rl HO905.out⟩, ⟨rl HO908.out⟩, ⟨rl HO911.out⟩, ⟨kl BK913.out⟩, ⟨by exact bs1 GE913.out HB.out⟩⟩
   ·rw [if_neg c15] at H
    have c15b0 : (t914 == t915) = false := beq_eq_false_iff_ne.mpr c15
    have c15b1 : (t914 != t915) = true := bne_iff_ne.mpr c15
    (first | rw [c15b0] | (simp only [i64_w, i32_w]; rw [c15b0]) | skip)
    have H' := am H
    clear H
    have hcz21_0 : w13.cell? ⟨gb913, 0, none⟩ = some (.slice Ao8 t900.length co8) := (blk_cell BK913.out 0).trans rfl
    have hcz21_1 : w13.cell? ⟨gb913, 1, none⟩ = some (.slice Ao10 t903.length co10) := (blk_cell BK913.out 1).trans rfl
    have hcz21_2 : w13.cell? ⟨gb913, 2, none⟩ = some (.slice Ao11 t906.length co11) := (blk_cell BK913.out 2).trans rfl
    have hcz21_3 : w13.cell? ⟨gb913, 3, none⟩ = some (.slice Ao12 t909.length co12) := (blk_cell BK913.out 3).trans rfl
    have hfz21_0 := blk_frozen BK913.out 0
    have hfz21_1 := blk_frozen BK913.out 1
    have hfz21_2 := blk_frozen BK913.out 2
    have hfz21_3 := blk_frozen BK913.out 3
    go_wp2_with (first | ((with_reducible refine gate_callee (f := 28) rfl ?_); refine goesL_ (some 20) rfl rfl Try.func28 (by kernel_rfl) rfl #[.agg #[.slice Ao8 t900.length co8, .slice Ao10 t903.length co10, .slice Ao11 t906.length co11, .slice Ao12 t909.length co12], .int .i64 t912] rfl (by (try simp only [List.map_toArray, List.map_cons, List.map_nil]); first | done | rfl | (simp only [List.length_drop, List.length_take]; rfl)) ?_; (with_reducible refine (spec_CountColor.calls k _ _ t900 _ _ t903 _ _ t906 _ _ t909 t912 t915 _ ?side1 ?side2 ?side3 ?side4 ?side5 ?side6 ?side7 ?side8 A14.out).mono ?_); (case side1 => exact cl ((Kd.R_reads' HO902.out).2.2)); (case side2 => exact (Kd.R_reads' HO902.out).2.1); (case side3 => exact cl ((Kd.R_reads' HO905.out).2.2)); (case side4 => exact (Kd.R_reads' HO905.out).2.1); (case side5 => exact cl ((Kd.R_reads' HO908.out).2.2)); (case side6 => exact (Kd.R_reads' HO908.out).2.1); (case side7 => exact cl ((Kd.R_reads' HO911.out).2.2)); (case side8 => exact (Kd.R_reads' HO911.out).2.1); rintro e w22 ⟨rfl, hb⟩; refine ⟨_, rfl, ?_⟩; replace HO902 := am (Kd.R_below (rl HO902.out) hb); replace HO905 := am (Kd.R_below (rl HO905.out) hb); replace HO908 := am (Kd.R_below (rl HO908.out) hb); replace HO911 := am (Kd.R_below (rl HO911.out) hb); replace BK913 := am (blk_below (g := gb913) (o := .cells #[.slice Ao8 t900.length co8, .slice Ao10 t903.length co10, .slice Ao11 t906.length co11, .slice Ao12 t909.length co12] 30 (0, 0)) (kl BK913.out) hb); replace HB := am (below_step (bs1 GE913.out HB.out) hb); (try clear hb); (try clear hb2); (try clear hk); (try clear hi)))
    go_meet
    case rel => exact ⟨_, (true), (by first | rfl | (simp; done) | (simp [*]; done)), H', ⟨by first | omega | exact Nat.le_refl _⟩, ⟨rl HO902.out⟩, ⟨rl HO905.out⟩, ⟨rl HO908.out⟩, ⟨rl HO911.out⟩, ⟨kl BK913.out⟩, ⟨by exact bs1 GE913.out HB.out⟩⟩
  case rest =>
   clear HC5
   try clear c1
   try clear c2
   try clear c2b0
   try clear c2b1
   try clear p2
   try clear c6
   try clear c15
   try clear c15b0
   try clear c15b1
   try clear hcz17_0
   try clear hcz17_1
   try clear hcz17_2
   try clear hcz17_3
   try clear hcz19_0
   try clear hcz19_1
   try clear hcz19_2
   try clear hcz19_3
   try clear hcz21_0
   try clear hcz21_1
   try clear hcz21_2
   try clear hcz21_3
   try clear hcz9_0
   try clear hcz9_1
   try clear hcz9_2
   try clear hcz9_3
   try clear hfz17_0
   try clear hfz17_1
   try clear hfz17_2
   try clear hfz17_3
   try clear hfz19_0
   try clear hfz19_1
   try clear hfz19_2
   try clear hfz19_3
   try clear hfz21_0
   try clear hfz21_1
   try clear hfz21_2
   try clear hfz21_3
   try clear hfz9_0
   try clear hfz9_1
   try clear hfz9_2
   try clear hfz9_3
   obtain ⟨kq, x26_4, rfl, HA, HJ4, HO_914000, HO_914001, HO_914002, HO_914003, BK913, HB⟩ := hcut
   cases kq with
   | zero => exact absurd HA.out (by simp [laws_FnCountColor.j0])
   | succ kj4 =>
    have H := HA.out
    clear HA
    simp only [laws_FnCountColor.j0] at H
    by_cases c23 : x26_4 = true
    ·subst c23
     have H1 : ((spec_CountColor.f kj4 t900 t903 t906 t909 t912).bind fun t917 => (if t914 = t917 then (some (t914 == 0)) else (none))) = some r := by rw [if_pos rfl] at H; exact H
     clear H
     have H := H1
     clear H1
     replace H := Option.bind_eq_some_iff.mp H
     obtain ⟨t917, A240, H⟩ := H
     replace H : (if t914 = t917 then (some (t914 == 0)) else (none)) = some r := H
     have A24 := am A240
     clear A240
     by_cases c25 : t914 = t917
     ·rw [if_pos c25] at H
      have c25b0 : (t914 == t917) = true := beq_iff_eq.mpr c25
      have c25b1 : (t914 != t917) = false := bne_eq_false_iff_eq.mpr c25
      clear c25
      obtain rfl := Option.some.inj H
      have hcz26_0 : wc.cell? ⟨gb913, 0, none⟩ = some (.slice Ao8 t900.length co8) := (blk_cell BK913.out 0).trans rfl
      have hcz26_1 : wc.cell? ⟨gb913, 1, none⟩ = some (.slice Ao10 t903.length co10) := (blk_cell BK913.out 1).trans rfl
      have hcz26_2 : wc.cell? ⟨gb913, 2, none⟩ = some (.slice Ao11 t906.length co11) := (blk_cell BK913.out 2).trans rfl
      have hcz26_3 : wc.cell? ⟨gb913, 3, none⟩ = some (.slice Ao12 t909.length co12) := (blk_cell BK913.out 3).trans rfl
      have hfz26_0 := blk_frozen BK913.out 0
      have hfz26_1 := blk_frozen BK913.out 1
      have hfz26_2 := blk_frozen BK913.out 2
      have hfz26_3 := blk_frozen BK913.out 3
      go_wp2_with (first | ((with_reducible refine gate_callee (f := 28) rfl ?_); refine goesL_ (some 30) rfl rfl Try.func28 (by kernel_rfl) rfl #[.agg #[.slice Ao8 t900.length co8, .slice Ao10 t903.length co10, .slice Ao11 t906.length co11, .slice Ao12 t909.length co12], .int .i64 t912] rfl (by (try simp only [List.map_toArray, List.map_cons, List.map_nil]); first | done | rfl | (simp only [List.length_drop, List.length_take]; rfl)) ?_; (with_reducible refine (spec_CountColor.calls kj4 _ _ t900 _ _ t903 _ _ t906 _ _ t909 t912 t917 _ ?side1 ?side2 ?side3 ?side4 ?side5 ?side6 ?side7 ?side8 A24.out).mono ?_); (case side1 => exact cl ((Kd.R_reads' HO_914000.out).2.2)); (case side2 => exact (Kd.R_reads' HO_914000.out).2.1); (case side3 => exact cl ((Kd.R_reads' HO_914001.out).2.2)); (case side4 => exact (Kd.R_reads' HO_914001.out).2.1); (case side5 => exact cl ((Kd.R_reads' HO_914002.out).2.2)); (case side6 => exact (Kd.R_reads' HO_914002.out).2.1); (case side7 => exact cl ((Kd.R_reads' HO_914003.out).2.2)); (case side8 => exact (Kd.R_reads' HO_914003.out).2.1); rintro e w27 ⟨rfl, hb⟩; refine ⟨_, rfl, ?_⟩; replace HO_914000 := am (Kd.R_below (rl HO_914000.out) hb); replace HO_914001 := am (Kd.R_below (rl HO_914001.out) hb); replace HO_914002 := am (Kd.R_below (rl HO_914002.out) hb); replace HO_914003 := am (Kd.R_below (rl HO_914003.out) hb); replace BK913 := am (blk_below (g := gb913) (o := .cells #[.slice Ao8 t900.length co8, .slice Ao10 t903.length co10, .slice Ao11 t906.length co11, .slice Ao12 t909.length co12] 30 (0, 0)) (kl BK913.out) hb); replace HB := am (below_step (bs1 GE913.out HB.out) hb); (try clear hb); (try clear hb2); (try clear hk); (try clear hi)))
      go_ret
      exact ⟨by first | rfl | (simp [errW_none, errW_some] <;> rfl) | (simp [*, errW_none, errW_some] <;> rfl), by exact bs1 GE913.out HB.out⟩
     ·rw [if_neg c25] at H
      exact absurd H (by simp)
    ·replace c23 := Bool.eq_false_iff.mpr c23
     subst c23
     have H1 : ((impl_CountColor.f kj4 t900 t903 t906 t909 0).bind fun t918 => ((impl_CountColor.f kj4 t900 t903 t906 t909 1).bind fun t919 => ((impl_CountColor.f kj4 t900 t903 t906 t909 2).bind fun t920 => (if (wrap64 ((wrap64 (t918 + t919)) + t920)) = (t909.length : Int) then (some (decide (t914 ≥ 0))) else (none))))) = some r := by rw [if_neg (show ¬ (false = true) by decide)] at H; exact H
     clear H
     have H := H1
     clear H1
     replace H := Option.bind_eq_some_iff.mp H
     obtain ⟨t918, A280, H⟩ := H
     replace H : ((impl_CountColor.f kj4 t900 t903 t906 t909 1).bind fun t919 => ((impl_CountColor.f kj4 t900 t903 t906 t909 2).bind fun t920 => (if (wrap64 ((wrap64 (t918 + t919)) + t920)) = (t909.length : Int) then (some (decide (t914 ≥ 0))) else (none)))) = some r := H
     have A28 := am A280
     clear A280
     replace H := Option.bind_eq_some_iff.mp H
     obtain ⟨t919, A290, H⟩ := H
     replace H : ((impl_CountColor.f kj4 t900 t903 t906 t909 2).bind fun t920 => (if (wrap64 ((wrap64 (t918 + t919)) + t920)) = (t909.length : Int) then (some (decide (t914 ≥ 0))) else (none))) = some r := H
     have A29 := am A290
     clear A290
     replace H := Option.bind_eq_some_iff.mp H
     obtain ⟨t920, A300, H⟩ := H
     replace H : (if (wrap64 ((wrap64 (t918 + t919)) + t920)) = (t909.length : Int) then (some (decide (t914 ≥ 0))) else (none)) = some r := H
     have A30 := am A300
     clear A300
     by_cases c31 : (wrap64 ((wrap64 (t918 + t919)) + t920)) = (t909.length : Int)
     ·rw [if_pos c31] at H
      have c31b0 : ((wrap64 ((wrap64 (t918 + t919)) + t920)) == (t909.length : Int)) = true := beq_iff_eq.mpr c31
      have c31b1 : ((wrap64 ((wrap64 (t918 + t919)) + t920)) != (t909.length : Int)) = false := bne_eq_false_iff_eq.mpr c31
      clear c31
      obtain rfl := Option.some.inj H
      try go_wp2
      replace HO_914000 := am (Kd.R_drew HO_914000.out)
      replace HO_914001 := am (Kd.R_drew HO_914001.out)
      replace HO_914002 := am (Kd.R_drew HO_914002.out)
      replace HO_914003 := am (Kd.R_drew HO_914003.out)
      replace BK913 := am (blk_drew BK913.out)
      replace HB := am (below_drew1 HB.out)
      refine start_ (n := 17) (S := fun w' => w'.cell? ⟨gb913, 0, none⟩ = some (.slice Ao8 t900.length co8) ∧ w'.cell? ⟨gb913, 1, none⟩ = some (.slice Ao10 t903.length co10) ∧ w'.cell? ⟨gb913, 2, none⟩ = some (.slice Ao11 t906.length co11) ∧ w'.cell? ⟨gb913, 3, none⟩ = some (.slice Ao12 t909.length co12)) (ds := []) #[false, false, false, false, false, false, false, false, false, false, false, false, false, false, false, false, false] (by kernel_rfl) rfl rfl ⟨(blk_cell BK913.out 0).trans rfl, (blk_cell BK913.out 1).trans rfl, (blk_cell BK913.out 2).trans rfl, (blk_cell BK913.out 3).trans rfl⟩ (fun hHeld => ?_); refine with_tabW laws_FnCountColor.tab7 laws_FnCountColor.bits7 (fun HT_ HW_ => ?_)
      generalize wc.drew = w32 at HO_914000 HO_914001 HO_914002 HO_914003 BK913 HB hHeld ⊢
      refine pure_ (i := 8) (N := some 44) (v := ?_) (a' := ?_) #[false, false, false, false, false, false, false, false, true, false, false, false, false, false, false, false, false] rfl rfl (any_of HT_.out (by kernel_rfl)) (fun _ _ _ h => h) (Or.inl ⟨by rfl, ?_⟩) ?_ ?_
      rotate_left
      ·intro w'
       go_simp
       with_reducible rfl
      rotate_left
      ·simp only [Act.put, List.setIfInBounds_toArray, List.set_cons_zero, List.set_cons_succ, i64_w, i32_w]
       rfl
      refine take_ (i := 0) (N := some 36) (v := ?_) (a' := ?_) #[true, false, false, false, false, false, false, false, true, false, false, false, false, false, false, false, false] rfl rfl (take_ofW HT_.out HW_.out (by kernel_rfl)) (fun _ _ _ h => h) (Or.inl ⟨by rfl, ?_⟩) hHeld ?_ ?_
      rotate_left
      ·rintro w' ⟨s0, s1, s2, s3⟩
       go_simp
       with_reducible rfl
      rotate_left
      ·simp only [Act.put, List.setIfInBounds_toArray, List.set_cons_zero, List.set_cons_succ, i64_w, i32_w]
       rfl
      refine take_ (i := 2) (N := some 38) (v := ?_) (a' := ?_) #[true, false, true, false, false, false, false, false, true, false, false, false, false, false, false, false, false] rfl rfl (take_ofW HT_.out HW_.out (by kernel_rfl)) (fun _ _ _ h => h) (Or.inl ⟨by rfl, ?_⟩) hHeld ?_ ?_
      rotate_left
      ·rintro w' ⟨s0, s1, s2, s3⟩
       go_simp
       with_reducible rfl
      rotate_left
      ·simp only [Act.put, List.setIfInBounds_toArray, List.set_cons_zero, List.set_cons_succ, i64_w, i32_w]
       rfl
      refine take_ (i := 5) (N := some 41) (v := ?_) (a' := ?_) #[true, false, true, false, false, true, false, false, true, false, false, false, false, false, false, false, false] rfl rfl (take_ofW HT_.out HW_.out (by kernel_rfl)) (fun _ _ _ h => h) (Or.inl ⟨by rfl, ?_⟩) hHeld ?_ ?_
      rotate_left
      ·rintro w' ⟨s0, s1, s2, s3⟩
       go_simp
       with_reducible rfl
      rotate_left
      ·simp only [Act.put, List.setIfInBounds_toArray, List.set_cons_zero, List.set_cons_succ, i64_w, i32_w]
       rfl
      refine take_ (i := 9) (N := some 45) (v := ?_) (a' := ?_) #[true, false, true, false, false, true, false, false, true, true, false, false, false, false, false, false, false] rfl rfl (take_ofW HT_.out HW_.out (by kernel_rfl)) (fun _ _ _ h => h) (Or.inl ⟨by rfl, ?_⟩) hHeld ?_ ?_
      rotate_left
      ·rintro w' ⟨s0, s1, s2, s3⟩
       go_simp
       with_reducible rfl
      rotate_left
      ·simp only [Act.put, List.setIfInBounds_toArray, List.set_cons_zero, List.set_cons_succ, i64_w, i32_w]
       rfl
      refine pure_ (i := 10) (N := some 46) (v := ?_) (a' := ?_) #[true, false, true, false, false, true, false, false, true, true, true, false, false, false, false, false, false] rfl rfl (any_of HT_.out (by kernel_rfl)) (fun _ _ _ h => h) (Or.inl ⟨by rfl, ?_⟩) ?_ ?_
      rotate_left
      ·intro w'
       go_simp
       with_reducible rfl
      rotate_left
      ·simp only [Act.put, List.setIfInBounds_toArray, List.set_cons_zero, List.set_cons_succ, i64_w, i32_w]
       rfl
      refine one_ (i := 1) (N := some 37) #[true, true, true, false, false, true, false, false, true, true, true, false, false, false, false, false, false] rfl rfl (one_of HT_.out (by kernel_rfl)) (by decide) (fun K hK => ?_)
      refine goes_ Try.func27 (by kernel_rfl) rfl #[.agg #[.slice Ao8 t900.length co8, .slice Ao10 t903.length co10, .slice Ao11 t906.length co11, .slice Ao12 t909.length co12], .int .i64 0] (by rfl) rfl rfl (by (try simp only [List.map_toArray, List.map_cons, List.map_nil]); first | done | rfl | (simp only [List.length_drop, List.length_take]; rfl)) ?_
      with_reducible refine (impl_CountColor.calls kj4 _ _ t900 _ _ t903 _ _ t906 _ _ t909 0 t918 _ ?side1 ?side2 ?side3 ?side4 ?side5 ?side6 ?side7 ?side8 A28.out).mono ?_
      (case side1 => exact cl ((Kd.R_reads' HO_914000.out).2.2))
      (case side2 => exact (Kd.R_reads' HO_914000.out).2.1)
      (case side3 => exact cl ((Kd.R_reads' HO_914001.out).2.2))
      (case side4 => exact (Kd.R_reads' HO_914001.out).2.1)
      (case side5 => exact cl ((Kd.R_reads' HO_914002.out).2.2))
      (case side6 => exact (Kd.R_reads' HO_914002.out).2.1)
      (case side7 => exact cl ((Kd.R_reads' HO_914003.out).2.2))
      (case side8 => exact (Kd.R_reads' HO_914003.out).2.1)
      rintro e w33 ⟨rfl, hb⟩
      refine ⟨_, rfl, ?_⟩
      replace HO_914000 := am (Kd.R_below (rl HO_914000.out) hb)
      replace HO_914001 := am (Kd.R_below (rl HO_914001.out) hb)
      replace HO_914002 := am (Kd.R_below (rl HO_914002.out) hb)
      replace HO_914003 := am (Kd.R_below (rl HO_914003.out) hb)
      replace BK913 := am (blk_below (g := gb913) (o := .cells #[.slice Ao8 t900.length co8, .slice Ao10 t903.length co10, .slice Ao11 t906.length co11, .slice Ao12 t909.length co12] 30 (0, 0)) (kl BK913.out) hb)
      replace HB := am (below_step (bs1 GE913.out HB.out) hb)
      (try clear hb)
      (try clear hb2)
      (try clear hk)
      (try clear hi)
      refine hK.out _ _ ⟨(blk_cell BK913.out 0).trans rfl, (blk_cell BK913.out 1).trans rfl, (blk_cell BK913.out 2).trans rfl, (blk_cell BK913.out 3).trans rfl⟩ (fun hHeld => ?_)
      clear hK K
      refine norm_ (a' := ?_) ?_ ?_
      rotate_left
      ·show Act.put _ (some 37) _ = _
       simp only [Act.put, List.setIfInBounds_toArray, List.set_cons_zero, List.set_cons_succ, i64_w, i32_w]
       rfl
      refine one_ (i := 3) (N := some 39) #[true, true, true, true, false, true, false, false, true, true, true, false, false, false, false, false, false] rfl rfl (one_of HT_.out (by kernel_rfl)) (by decide) (fun K hK => ?_)
      refine goes_ Try.func27 (by kernel_rfl) rfl #[.agg #[.slice Ao8 t900.length co8, .slice Ao10 t903.length co10, .slice Ao11 t906.length co11, .slice Ao12 t909.length co12], .int .i64 1] (by rfl) rfl rfl (by (try simp only [List.map_toArray, List.map_cons, List.map_nil]); first | done | rfl | (simp only [List.length_drop, List.length_take]; rfl)) ?_
      with_reducible refine (impl_CountColor.calls kj4 _ _ t900 _ _ t903 _ _ t906 _ _ t909 1 t919 _ ?side1 ?side2 ?side3 ?side4 ?side5 ?side6 ?side7 ?side8 A29.out).mono ?_
      (case side1 => exact cl ((Kd.R_reads' HO_914000.out).2.2))
      (case side2 => exact (Kd.R_reads' HO_914000.out).2.1)
      (case side3 => exact cl ((Kd.R_reads' HO_914001.out).2.2))
      (case side4 => exact (Kd.R_reads' HO_914001.out).2.1)
      (case side5 => exact cl ((Kd.R_reads' HO_914002.out).2.2))
      (case side6 => exact (Kd.R_reads' HO_914002.out).2.1)
      (case side7 => exact cl ((Kd.R_reads' HO_914003.out).2.2))
      (case side8 => exact (Kd.R_reads' HO_914003.out).2.1)
      rintro e w34 ⟨rfl, hb⟩
      refine ⟨_, rfl, ?_⟩
      replace HO_914000 := am (Kd.R_below (rl HO_914000.out) hb)
      replace HO_914001 := am (Kd.R_below (rl HO_914001.out) hb)
      replace HO_914002 := am (Kd.R_below (rl HO_914002.out) hb)
      replace HO_914003 := am (Kd.R_below (rl HO_914003.out) hb)
      replace BK913 := am (blk_below (g := gb913) (o := .cells #[.slice Ao8 t900.length co8, .slice Ao10 t903.length co10, .slice Ao11 t906.length co11, .slice Ao12 t909.length co12] 30 (0, 0)) (kl BK913.out) hb)
      replace HB := am (below_step (bs1 GE913.out HB.out) hb)
      (try clear hb)
      (try clear hb2)
      (try clear hk)
      (try clear hi)
      refine hK.out _ _ ⟨(blk_cell BK913.out 0).trans rfl, (blk_cell BK913.out 1).trans rfl, (blk_cell BK913.out 2).trans rfl, (blk_cell BK913.out 3).trans rfl⟩ (fun hHeld => ?_)
      clear hK K
      refine norm_ (a' := ?_) ?_ ?_
      rotate_left
      ·show Act.put _ (some 39) _ = _
       simp only [Act.put, List.setIfInBounds_toArray, List.set_cons_zero, List.set_cons_succ, i64_w, i32_w]
       rfl
      refine pure_ (i := 4) (N := some 40) (v := ?_) (a' := ?_) #[true, true, true, true, true, true, false, false, true, true, true, false, false, false, false, false, false] rfl rfl (any_of HT_.out (by kernel_rfl)) (fun _ _ _ h => h) (Or.inl ⟨by rfl, ?_⟩) ?_ ?_
      rotate_left
      ·intro w'
       go_simp
       with_reducible rfl
      rotate_left
      ·simp only [Act.put, List.setIfInBounds_toArray, List.set_cons_zero, List.set_cons_succ, i64_w, i32_w]
       rfl
      refine one_ (i := 6) (N := some 42) #[true, true, true, true, true, true, true, false, true, true, true, false, false, false, false, false, false] rfl rfl (one_of HT_.out (by kernel_rfl)) (by decide) (fun K hK => ?_)
      refine goes_ Try.func27 (by kernel_rfl) rfl #[.agg #[.slice Ao8 t900.length co8, .slice Ao10 t903.length co10, .slice Ao11 t906.length co11, .slice Ao12 t909.length co12], .int .i64 2] (by rfl) rfl rfl (by (try simp only [List.map_toArray, List.map_cons, List.map_nil]); first | done | rfl | (simp only [List.length_drop, List.length_take]; rfl)) ?_
      with_reducible refine (impl_CountColor.calls kj4 _ _ t900 _ _ t903 _ _ t906 _ _ t909 2 t920 _ ?side1 ?side2 ?side3 ?side4 ?side5 ?side6 ?side7 ?side8 A30.out).mono ?_
      (case side1 => exact cl ((Kd.R_reads' HO_914000.out).2.2))
      (case side2 => exact (Kd.R_reads' HO_914000.out).2.1)
      (case side3 => exact cl ((Kd.R_reads' HO_914001.out).2.2))
      (case side4 => exact (Kd.R_reads' HO_914001.out).2.1)
      (case side5 => exact cl ((Kd.R_reads' HO_914002.out).2.2))
      (case side6 => exact (Kd.R_reads' HO_914002.out).2.1)
      (case side7 => exact cl ((Kd.R_reads' HO_914003.out).2.2))
      (case side8 => exact (Kd.R_reads' HO_914003.out).2.1)
      rintro e w35 ⟨rfl, hb⟩
      refine ⟨_, rfl, ?_⟩
      replace HO_914000 := am (Kd.R_below (rl HO_914000.out) hb)
      replace HO_914001 := am (Kd.R_below (rl HO_914001.out) hb)
      replace HO_914002 := am (Kd.R_below (rl HO_914002.out) hb)
      replace HO_914003 := am (Kd.R_below (rl HO_914003.out) hb)
      replace BK913 := am (blk_below (g := gb913) (o := .cells #[.slice Ao8 t900.length co8, .slice Ao10 t903.length co10, .slice Ao11 t906.length co11, .slice Ao12 t909.length co12] 30 (0, 0)) (kl BK913.out) hb)
      replace HB := am (below_step (bs1 GE913.out HB.out) hb)
      (try clear hb)
      (try clear hb2)
      (try clear hk)
      (try clear hi)
      refine hK.out _ _ ⟨(blk_cell BK913.out 0).trans rfl, (blk_cell BK913.out 1).trans rfl, (blk_cell BK913.out 2).trans rfl, (blk_cell BK913.out 3).trans rfl⟩ (fun hHeld => ?_)
      clear hK K
      refine norm_ (a' := ?_) ?_ ?_
      rotate_left
      ·show Act.put _ (some 42) _ = _
       simp only [Act.put, List.setIfInBounds_toArray, List.set_cons_zero, List.set_cons_succ, i64_w, i32_w]
       rfl
      refine pure_ (i := 7) (N := some 43) (v := ?_) (a' := ?_) #[true, true, true, true, true, true, true, true, true, true, true, false, false, false, false, false, false] rfl rfl (any_of HT_.out (by kernel_rfl)) (fun _ _ _ h => h) (Or.inl ⟨by rfl, ?_⟩) ?_ ?_
      rotate_left
      ·intro w'
       go_simp
       with_reducible rfl
      rotate_left
      ·simp only [Act.put, List.setIfInBounds_toArray, List.set_cons_zero, List.set_cons_succ, i64_w, i32_w]
       rfl
      refine pure_ (i := 11) (N := some 47) (v := ?_) (a' := ?_) #[true, true, true, true, true, true, true, true, true, true, true, true, false, false, false, false, false] rfl rfl (any_of HT_.out (by kernel_rfl)) (fun _ _ _ h => h) (Or.inl ⟨by rfl, ?_⟩) ?_ ?_
      rotate_left
      ·intro w'
       go_simp
       with_reducible rfl
      rotate_left
      ·simp only [Act.put, List.setIfInBounds_toArray, List.set_cons_zero, List.set_cons_succ, i64_w, i32_w]
       rfl
      refine pure_ (i := 12) (N := some 48) (v := ?_) (a' := ?_) #[true, true, true, true, true, true, true, true, true, true, true, true, true, false, false, false, false] rfl rfl (any_of HT_.out (by kernel_rfl)) (fun _ _ _ h => h) (Or.inl ⟨by rfl, ?_⟩) ?_ ?_
      rotate_left
      ·intro w'
       go_simp
       with_reducible rfl
      rotate_left
      ·simp only [Act.put, List.setIfInBounds_toArray, List.set_cons_zero, List.set_cons_succ, i64_w, i32_w]
       rfl
      refine pure_ (i := 13) (N := some 49) (v := ?_) (a' := ?_) #[true, true, true, true, true, true, true, true, true, true, true, true, true, true, false, false, false] rfl rfl (any_of HT_.out (by kernel_rfl)) (fun _ _ _ h => h) (Or.inl ⟨by rfl, ?_⟩) ?_ ?_
      rotate_left
      ·intro w'
       go_simp
       with_reducible rfl
      rotate_left
      ·simp only [Act.put, List.setIfInBounds_toArray, List.set_cons_zero, List.set_cons_succ, i64_w, i32_w]
       rfl
      refine pure_ (i := 14) (N := some 50) (v := ?_) (a' := ?_) #[true, true, true, true, true, true, true, true, true, true, true, true, true, true, true, false, false] rfl rfl (any_of HT_.out (by kernel_rfl)) (fun _ _ _ h => h) (Or.inl ⟨by rfl, ?_⟩) ?_ ?_
      rotate_left
      ·intro w'
       go_simp
       with_reducible rfl
      rotate_left
      ·simp only [Act.put, List.setIfInBounds_toArray, List.set_cons_zero, List.set_cons_succ, i64_w, i32_w]
       rfl
      refine pure_ (i := 15) (N := some 51) (v := ?_) (a' := ?_) #[true, true, true, true, true, true, true, true, true, true, true, true, true, true, true, true, false] rfl rfl (any_of HT_.out (by kernel_rfl)) (fun _ _ _ h => h) (Or.inl ⟨by rfl, ?_⟩) ?_ ?_
      rotate_left
      ·intro w'
       go_simp
       with_reducible rfl
      rotate_left
      ·simp only [Act.put, List.setIfInBounds_toArray, List.set_cons_zero, List.set_cons_succ, i64_w, i32_w]
       rfl
      refine pure_ (i := 16) (N := some 2) (v := ?_) (a' := ?_) #[true, true, true, true, true, true, true, true, true, true, true, true, true, true, true, true, true] rfl rfl (any_of HT_.out (by kernel_rfl)) (fun _ _ _ h => h) (Or.inl ⟨by rfl, ?_⟩) ?_ ?_
      rotate_left
      ·intro w'
       go_simp
       with_reducible rfl
      rotate_left
      ·simp only [Act.put, List.setIfInBounds_toArray, List.set_cons_zero, List.set_cons_succ, i64_w, i32_w]
       rfl
      refine done_ (done_of HT_.out (by kernel_rfl)) ?_
      try go_wp2
      go_ret
      exact ⟨by first | rfl | (simp [errW_none, errW_some] <;> rfl) | (simp [*, errW_none, errW_some] <;> rfl), by exact bs1 GE913.out HB.out⟩
     ·rw [if_neg c31] at H
      have c31b0 : ((wrap64 ((wrap64 (t918 + t919)) + t920)) == (t909.length : Int)) = false := beq_eq_false_iff_ne.mpr c31
      have c31b1 : ((wrap64 ((wrap64 (t918 + t919)) + t920)) != (t909.length : Int)) = true := bne_iff_ne.mpr c31
      exact absurd H (by simp)

/-- THE ONE PURE STATEMENT of laws_FnCountColor: yours. -/
def laws_FnCountColor.Pure : Prop := ∀ (l0 : List Int), l0.length ≤ maxLen → l0.length * 1 ≤ 140737488351232 → (∀ x ∈ l0, (Lit.int .u8 x).wf = true) → ∃ k, laws_FnCountColor.f k l0 = some true
theorem laws_FnCountColor.walk (P : laws_FnCountColor.Pure) (a0 : Option Addr) (len0 cap0 : Nat) (z0 : List Int) (w : World) (w0 : (a0 = none ∧ len0 = 0 ∧ cap0 = 0 ∧ z0 = []) ∨ ∃ x, a0 = some x ∧ len0 ≤ cap0 ∧ cap0 ≤ maxLen ∧ z0.length = cap0 ∧ (∀ i, i < z0.length → w.cell? (x.add i) = some (.int .u8 (z0.getD i 0))) ∧ ∀ n ∈ z0, (Lit.int .u8 n).wf = true) (y0 : len0 * 1 ≤ 140737488351232) :
  Calls Try.prog 6 #[.slice a0 len0 cap0] w fun e w' => e = .returned (.bool true) ∧ Below w.heap.size w w' := by
 obtain ⟨l0, rfl, hr0, hm0, hw0, hc0⟩ := ReadsInt.ofRowC w0
 obtain ⟨k, h⟩ := P l0 hm0 y0 hw0
 refine (laws_FnCountColor.calls k _ _ l0 true w (Kd.C_of_reads (d := (0 : Int)) (h1 := fun _ => rfl) hr0) hc0 h).mono ?_
 rintro e w' ⟨rfl, hd⟩
 exact ⟨rfl, hd⟩

end Go.Proofs.Ytkbaggfkidalfaa.A
