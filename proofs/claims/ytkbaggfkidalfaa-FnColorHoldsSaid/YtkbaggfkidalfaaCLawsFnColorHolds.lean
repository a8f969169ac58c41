/- Contracts of functions of the given program (CLawsFnColorHolds). No conditions beyond those stated. -/
import Derived.Test.YtkbaggfkidalfaaA0
import Derived.Test.YtkbaggfkidalfaaAImplColorHolds
import Derived.Test.YtkbaggfkidalfaaAImplColoredValid
import Derived.Test.YtkbaggfkidalfaaAImplCountColor
import Derived.Test.YtkbaggfkidalfaaASpecColorHolds
import Derived.Test.YtkbaggfkidalfaaASpecDrawColorHolds
import Derived.Test.YtkbaggfkidalfaaA0
namespace Go.Proofs.Ytkbaggfkidalfaa.A
open Go.RowKit Go.Proofs.YtkbaggfkidalfaaW.PrintWords Go.Proofs.YtkbaggfkidalfaaW.PrintLast Go.Proofs.YtkbaggfkidalfaaW.PrintMore
attribute [local go_sem] max2_int min2_int max_two min_two max_three min_three max_four min_four   -- for this text's walks alone
set_option linter.unusedVariables false
set_option linter.unusedSimpArgs false

/-! ### laws_FnColorHolds -/
def laws_FnColorHolds.j0 : Nat → Bool → Bool → List Int → List Int → List Int → List Int → Option (Bool)
 | 0, _, _, _, _, _, _ => none
 | k + 1, x4, x20, x956000, x956001, x956002, x956003 => if x20 = true then ((spec_ColorHolds.f k x956000 x956001 x956002 x956003).bind fun t959 => (if (x4 == t959) = true then (some (!x4)) else (none))) else ((impl_CountColor.f k x956000 x956001 x956002 x956003 2).bind fun t960 => (if t960 = 0 then (some x4) else ((impl_CountColor.f k x956000 x956001 x956002 x956003 0).bind fun t961 => (if t961 = 0 then (some x4) else (some true)))))
def laws_FnColorHolds.f (k : Nat) (l0 : List Int) : Option (Bool) := if (l0.length : Int) > 1048576 then (some true) else ((spec_DrawColorHolds.f k l0).bind fun bt943 => ((impl_ColorHolds.f bt943.1 bt943.2.1 bt943.2.2.1 bt943.2.2.2).bind fun t956 => ((spec_ColorHolds.f k bt943.1 bt943.2.1 bt943.2.2.1 bt943.2.2.2).bind fun t957 => (if (t956 != t957) = true then (laws_FnColorHolds.j0 k t956 true bt943.1 bt943.2.1 bt943.2.2.1 bt943.2.2.2) else ((impl_ColoredValid.f k bt943.1 bt943.2.1 bt943.2.2.1 bt943.2.2.2).bind fun t958 => (laws_FnColorHolds.j0 k t956 (!t958) bt943.1 bt943.2.1 bt943.2.2.1 bt943.2.2.2))))))
theorem laws_FnColorHolds.mono_l : ∀ k, (∀ y0 y1 y2 y3 y4 y5, LeO (laws_FnColorHolds.j0 k y0 y1 y2 y3 y4 y5) (laws_FnColorHolds.j0 (k + 1) y0 y1 y2 y3 y4 y5))
 | 0 => fun _ _ _ _ _ _ r h => by simp [laws_FnColorHolds.j0] at h
 | k + 1 => by
  have ih0 := laws_FnColorHolds.mono_l k
  ·intro y0 y1 y2 y3 y4 y5
   unfold laws_FnColorHolds.j0
   repeat' first
   | (with_reducible exact ih0 _ _ _ _ _ _)
   | (with_reducible exact impl_ColoredValid.mono _ _ _ _ _)
   | (with_reducible exact impl_CountColor.mono _ _ _ _ _ _)
   | (with_reducible exact spec_ColorHolds.mono _ _ _ _ _)
   | (with_reducible exact spec_DrawColorHolds.mono _ _)
   | (with_reducible exact LeO.refl _)
   | (with_reducible exact LeO.none _)
   | (with_reducible refine LeO.ite ?_ ?_)
   | (with_reducible refine LeO.bind ?_ (fun _ => ?_))
   | exact ih0 _ _ _ _ _ _
   | exact impl_ColoredValid.mono _ _ _ _ _
   | exact impl_CountColor.mono _ _ _ _ _ _
   | exact spec_ColorHolds.mono _ _ _ _ _
   | exact spec_DrawColorHolds.mono _ _
   | exact LeO.none _
   | refine LeO.ite ?_ ?_
   | refine LeO.bind ?_ (fun _ => ?_)
theorem laws_FnColorHolds.mono : ∀ a0 k, LeO (laws_FnColorHolds.f k a0) (laws_FnColorHolds.f (k + 1) a0) := by
 intro a0 k
 have ih0 := laws_FnColorHolds.mono_l k
 unfold laws_FnColorHolds.f
 repeat' first
   | (with_reducible exact ih0 _ _ _ _ _ _)
   | (with_reducible exact impl_ColoredValid.mono _ _ _ _ _)
   | (with_reducible exact impl_CountColor.mono _ _ _ _ _ _)
   | (with_reducible exact spec_ColorHolds.mono _ _ _ _ _)
   | (with_reducible exact spec_DrawColorHolds.mono _ _)
   | (with_reducible exact LeO.refl _)
   | (with_reducible exact LeO.none _)
   | (with_reducible refine LeO.ite ?_ ?_)
   | (with_reducible refine LeO.bind ?_ (fun _ => ?_))
   | exact ih0 _ _ _ _ _ _
   | exact impl_ColoredValid.mono _ _ _ _ _
   | exact impl_CountColor.mono _ _ _ _ _ _
   | exact spec_ColorHolds.mono _ _ _ _ _
   | exact spec_DrawColorHolds.mono _ _
   | exact LeO.none _
   | refine LeO.ite ?_ ?_
   | refine LeO.bind ?_ (fun _ => ?_)
set_option maxHeartbeats 8000000 in
set_option maxRecDepth 100000 in
theorem laws_FnColorHolds.calls (k : Nat) (A0 : Option Addr) (c0 : Nat) (l0 : List Int) (r : Bool) (w : World) (hr0 : Kd.C (Kd.int .u8) w A0 l0.length l0) (hc0 : l0.length ≤ c0) (h : laws_FnColorHolds.f k l0 = some r) :
  Calls Try.prog 7 #[.slice A0 l0.length c0] w fun e w' => e = .returned (.bool r) ∧ Below w.heap.size w w' := by
 have hu30 := Try.underlying30
 have HR0 := am hr0
 have HC0 := am hc0
 clear hr0 hc0
 have HB := am (Below.refl w.heap.size w)
 have H : (if (l0.length : Int) > 1048576 then (some true) else ((spec_DrawColorHolds.f k l0).bind fun bt943 => ((impl_ColorHolds.f bt943.1 bt943.2.1 bt943.2.2.1 bt943.2.2.2).bind fun t956 => ((spec_ColorHolds.f k bt943.1 bt943.2.1 bt943.2.2.1 bt943.2.2.2).bind fun t957 => (if (t956 != t957) = true then (laws_FnColorHolds.j0 k t956 true bt943.1 bt943.2.1 bt943.2.2.1 bt943.2.2.2) else ((impl_ColoredValid.f k bt943.1 bt943.2.1 bt943.2.2.1 bt943.2.2.2).bind fun t958 => (laws_FnColorHolds.j0 k t956 (!t958) bt943.1 bt943.2.1 bt943.2.2.1 bt943.2.2.2))))))) = some r := h
 clear h
 by_cases c2 : (l0.length : Int) > 1048576
 ·rw [if_pos c2] at H
  have c2b0 : decide (1048576 < (l0.length : Int)) = true := decide_eq_true c2
  have c2b1 : decide (1048576 < l0.length) = true := decide_eq_true (by omega)
  clear c2
  obtain rfl := Option.some.inj H
  go_enter Try.func7, Try.ntmps7
  go_wp2
  go_ret
  exact ⟨by first | rfl | (simp [errW_none, errW_some] <;> rfl) | (simp [*, errW_none, errW_some] <;> rfl), by exact bs0 HB.out⟩
 ·rw [if_neg c2] at H
  have c2b0 : decide (1048576 < (l0.length : Int)) = false := decide_eq_false c2
  have c2b1 : decide (1048576 < l0.length) = false := decide_eq_false (by omega)
  clear c2
  replace H := Option.bind_eq_some_iff.mp H
  obtain ⟨⟨t943, t946, t949, t952⟩, A30, H⟩ := H
  replace H : ((impl_ColorHolds.f t943 t946 t949 t952).bind fun t956 => ((spec_ColorHolds.f k t943 t946 t949 t952).bind fun t957 => (if (t956 != t957) = true then (laws_FnColorHolds.j0 k t956 true t943 t946 t949 t952) else ((impl_ColoredValid.f k t943 t946 t949 t952).bind fun t958 => (laws_FnColorHolds.j0 k t956 (!t958) t943 t946 t949 t952))))) = some r := H
  have A3 := am A30
  clear A30
  replace H := Option.bind_eq_some_iff.mp H
  obtain ⟨t956, A40, H⟩ := H
  replace H : ((spec_ColorHolds.f k t943 t946 t949 t952).bind fun t957 => (if (t956 != t957) = true then (laws_FnColorHolds.j0 k t956 true t943 t946 t949 t952) else ((impl_ColoredValid.f k t943 t946 t949 t952).bind fun t958 => (laws_FnColorHolds.j0 k t956 (!t958) t943 t946 t949 t952)))) = some r := H
  have A4 := am A40
  clear A40
  have HC5 := am H
  clear H
  go_enter Try.func7, Try.ntmps7
  go_upto_region 5 with (first | ((with_reducible refine gate_callee (f := 30) rfl ?_); refine gL (some 9) rfl rfl Try.func30 (by kernel_rfl) rfl #[.slice A0 l0.length c0] rfl ?_; (with_reducible refine (spec_DrawColorHolds.calls k _ _ l0 t943 t946 t949 t952 _ ?side1 ?side2 A3.out).mono ?_); (case side1 => exact cl (HR0.out)); (case side2 => exact HC0.out); rintro e w6 ⟨v944, v947, v950, v953, rfl, ho0, ho1, ho2, ho3, hb⟩; refine ⟨_, rfl, ?_⟩; have HO945 := ln0 ho0 (bl HB.out); have HO948 := ln0 ho1 (bl HB.out); have HO951 := ln0 ho2 (bl HB.out); have HO954 := ln0 ho3 (bl HB.out); replace HB := am (below_step (bl HB.out) hb); (try clear hb ho0 ho1 ho2 ho3)) | ((with_reducible refine gate_dst (N := 3) rfl ?_); refine box_event ?hg (N := 3) ?hd (cs := #[.slice none 0 0, .slice none 0 0, .slice none 0 0, .slice none 0 0]) (t := 30) ?hr ?_; (case hd => rfl); (case hg => rfl); (case hr => first | (go_simp; done) | (go_simp; rfl)); intro gb955 hg w7 hbox hb; replace HO945 := rb HO945 hb; replace HO948 := rb HO948 hb; replace HO951 := rb HO951 hb; replace HO954 := rb HO954 hb; have BK955 := am (hbox); have GW955 := am ((by rw [hg]; exact (below_size (bl HB.out)) : w.heap.size ≤ gb955)); have GE955 := am ((by rw [hg]; exact (below_size (bl HB.out)) : w.heap.size ≤ gb955)); replace HB := am (below_step (bl HB.out) hb); clear hb hbox hg; obtain ⟨Ao8, co8, eo8⟩ := Kd.R_slice HO945.out; subst eo8; obtain ⟨hcz9_0, hcz9_1, hcz9_2, hcz9_3, hfz9_0, hfz9_1, hfz9_2, hfz9_3⟩ := cf4 BK955; obtain ⟨Ao10, co10, eo10⟩ := Kd.R_slice HO948.out; subst eo10; obtain ⟨Ao11, co11, eo11⟩ := Kd.R_slice HO951.out; subst eo11; obtain ⟨Ao12, co12, eo12⟩ := Kd.R_slice HO954.out; subst eo12) | ((with_reducible refine gate_callee (f := 31) rfl ?_); refine gL (some 11) rfl rfl Try.func31 (by kernel_rfl) rfl #[.agg #[.slice Ao8 t943.length co8, .slice Ao10 t946.length co10, .slice Ao11 t949.length co11, .slice Ao12 t952.length co12]] rfl ?_; (with_reducible refine (impl_ColorHolds.calls _ _ t943 _ _ t946 _ _ t949 _ _ t952 t956 _ ?side1 ?side2 ?side3 ?side4 ?side5 ?side6 ?side7 ?side8 A4.out).mono ?_); (case side1 => exact sr (rg BK955 HO945)); (case side2 => exact sc HO945); (case side3 => exact sr (rg BK955 HO948)); (case side4 => exact sc HO948); (case side5 => exact sr (rg BK955 HO951)); (case side6 => exact sc HO951); (case side7 => exact sr (rg BK955 HO954)); (case side8 => exact sc HO954); rintro e w13 ⟨rfl, hb⟩; refine ⟨_, rfl, ?_⟩; replace HO945 := am (Kd.R_below (rg BK955 HO945) hb); replace HO948 := am (Kd.R_below (rg BK955 HO948) hb); replace HO951 := am (Kd.R_below (rg BK955 HO951) hb); replace HO954 := am (Kd.R_below (rg BK955 HO954) hb); replace BK955 := bp4 (kf0 BK955.out) hb; replace HB := am (below_step (bs1 GE955.out HB.out) hb); (try clear hb)))
  (try simp only [Act.put, List.setIfInBounds_toArray, List.set_cons_zero, List.set_cons_succ])
  go_cut [20] (fun v20 wc => ∃ (kq : Nat) (x20_4 : Bool), v20 = .bool x20_4 ∧ Aside0 (laws_FnColorHolds.j0 kq t956 x20_4 t943 t946 t949 t952 = some r) ∧ Aside0 (kq ≤ k) ∧ Aside0 (Kd.R (Kd.int .i64) 3 wc w.heap.size (fun k_ => some k_ ≠ ((.slice Ao10 t946.length co10) : Value).ownBlock ∧ some k_ ≠ ((.slice Ao11 t949.length co11) : Value).ownBlock ∧ some k_ ≠ ((.slice Ao12 t952.length co12) : Value).ownBlock) (.slice Ao8 t943.length co8) t943) ∧ Aside0 (Kd.R (Kd.int .i64) 3 wc w.heap.size (fun k_ => some k_ ≠ ((.slice Ao8 t943.length co8) : Value).ownBlock ∧ some k_ ≠ ((.slice Ao11 t949.length co11) : Value).ownBlock ∧ some k_ ≠ ((.slice Ao12 t952.length co12) : Value).ownBlock) (.slice Ao10 t946.length co10) t946) ∧ Aside0 (Kd.R (Kd.int .i64) 3 wc w.heap.size (fun k_ => some k_ ≠ ((.slice Ao8 t943.length co8) : Value).ownBlock ∧ some k_ ≠ ((.slice Ao10 t946.length co10) : Value).ownBlock ∧ some k_ ≠ ((.slice Ao12 t952.length co12) : Value).ownBlock) (.slice Ao11 t949.length co11) t949) ∧ Aside0 (Kd.R (Kd.int .i64) 3 wc w.heap.size (fun k_ => some k_ ≠ ((.slice Ao8 t943.length co8) : Value).ownBlock ∧ some k_ ≠ ((.slice Ao10 t946.length co10) : Value).ownBlock ∧ some k_ ≠ ((.slice Ao11 t949.length co11) : Value).ownBlock) (.slice Ao12 t952.length co12) t952) ∧ Aside0 (wc.heap[gb955]? = some (.cells #[(.slice Ao8 t943.length co8), (.slice Ao10 t946.length co10), (.slice Ao11 t949.length co11), (.slice Ao12 t952.length co12)] 30 (0, 0))) ∧ Aside0 (Below w.heap.size w wc))
  case first =>
   have H := HC5.out
   clear HC5
   replace H := Option.bind_eq_some_iff.mp H
   obtain ⟨t957, A140, H⟩ := H
   replace H : (if (t956 != t957) = true then (laws_FnColorHolds.j0 k t956 true t943 t946 t949 t952) else ((impl_ColoredValid.f k t943 t946 t949 t952).bind fun t958 => (laws_FnColorHolds.j0 k t956 (!t958) t943 t946 t949 t952))) = some r := H
   have A14 := am A140
   clear A140
   by_cases c15 : (t956 != t957) = true
   ·rw [if_pos c15] at H
    have c15b0 : (t956 != t957) = true := c15
    (try (have c15b1 : decide (t956 = t957) = false := by simpa using c15))
    (try (have c15b2 : (t956 == t957) = false := by simpa using c15))
    (try (have c15b3 : ¬ (t956 = t957) := by simpa using c15))
    clear c15
    (first | rw [c15b0] | (simp only [i64_w, i32_w]; rw [c15b0]) | skip)
    have H' := am H
    clear H
    obtain ⟨hcz16_0, hcz16_1, hcz16_2, hcz16_3, hfz16_0, hfz16_1, hfz16_2, hfz16_3⟩ := cf4 BK955
    go_wp2_with (first | ((with_reducible refine gate_callee (f := 32) rfl ?_); refine gL (some 14) rfl rfl Try.func32 (by kernel_rfl) rfl #[.agg #[.slice Ao8 t943.length co8, .slice Ao10 t946.length co10, .slice Ao11 t949.length co11, .slice Ao12 t952.length co12]] rfl ?_; (with_reducible refine (spec_ColorHolds.calls k _ _ t943 _ _ t946 _ _ t949 _ _ t952 t957 _ ?side1 ?side2 ?side3 ?side4 ?side5 ?side6 ?side7 ?side8 A14.out).mono ?_); (case side1 => exact cl ((Kd.R_reads' HO945.out).2.2)); (case side2 => exact sc HO945); (case side3 => exact cl ((Kd.R_reads' HO948.out).2.2)); (case side4 => exact sc HO948); (case side5 => exact cl ((Kd.R_reads' HO951.out).2.2)); (case side6 => exact sc HO951); (case side7 => exact cl ((Kd.R_reads' HO954.out).2.2)); (case side8 => exact sc HO954); rintro e w17 ⟨rfl, hb⟩; refine ⟨_, rfl, ?_⟩; replace HO945 := rb HO945 hb; replace HO948 := rb HO948 hb; replace HO951 := rb HO951 hb; replace HO954 := rb HO954 hb; replace BK955 := bb BK955 hb; replace HB := am (below_step (bs1 GE955.out HB.out) hb); (try clear hb)))
    go_meet
    case rel => exact ⟨_, (true), (by first | rfl | (simp; done) | (simp [*]; done)), H', ⟨by first | omega | exact Nat.le_refl _⟩, ⟨rl HO945.out⟩, ⟨rl HO948.out⟩, ⟨rl HO951.out⟩, ⟨rl HO954.out⟩, ⟨kl BK955.out⟩, ⟨by exact bs1 GE955.out HB.out⟩⟩
   ·rw [if_neg c15] at H
    have c15b0 : (t956 != t957) = false := by simpa using c15
    (try (have c15b1 : decide (t956 = t957) = true := by simpa using c15))
    (try (have c15b2 : (t956 == t957) = true := by simpa using c15))
    clear c15
    (first | rw [c15b0] | (simp only [i64_w, i32_w]; rw [c15b0]) | skip)
    replace H := Option.bind_eq_some_iff.mp H
    obtain ⟨t958, A180, H⟩ := H
    replace H : (laws_FnColorHolds.j0 k t956 (!t958) t943 t946 t949 t952) = some r := H
    have A18 := am A180
    clear A180
    have H' := am H
    clear H
    obtain ⟨hcz19_0, hcz19_1, hcz19_2, hcz19_3, hfz19_0, hfz19_1, hfz19_2, hfz19_3⟩ := cf4 BK955
    go_wp2_with (first | ((with_reducible refine gate_callee (f := 32) rfl ?_); refine gL (some 14) rfl rfl Try.func32 (by kernel_rfl) rfl #[.agg #[.slice Ao8 t943.length co8, .slice Ao10 t946.length co10, .slice Ao11 t949.length co11, .slice Ao12 t952.length co12]] rfl ?_; (with_reducible refine (spec_ColorHolds.calls k _ _ t943 _ _ t946 _ _ t949 _ _ t952 t957 _ ?side1 ?side2 ?side3 ?side4 ?side5 ?side6 ?side7 ?side8 A14.out).mono ?_); (case side1 => exact cl ((Kd.R_reads' HO945.out).2.2)); (case side2 => exact sc HO945); (case side3 => exact cl ((Kd.R_reads' HO948.out).2.2)); (case side4 => exact sc HO948); (case side5 => exact cl ((Kd.R_reads' HO951.out).2.2)); (case side6 => exact sc HO951); (case side7 => exact cl ((Kd.R_reads' HO954.out).2.2)); (case side8 => exact sc HO954); rintro e w20 ⟨rfl, hb⟩; refine ⟨_, rfl, ?_⟩; replace HO945 := rb HO945 hb; replace HO948 := rb HO948 hb; replace HO951 := rb HO951 hb; replace HO954 := rb HO954 hb; replace BK955 := bb BK955 hb; replace HB := am (below_step (bs1 GE955.out HB.out) hb); (try clear hb); obtain ⟨hcz21_0, hcz21_1, hcz21_2, hcz21_3, hfz21_0, hfz21_1, hfz21_2, hfz21_3⟩ := cf4 BK955) | (go_at_call 29; (with_reducible refine (impl_ColoredValid.calls k _ _ t943 _ _ t946 _ _ t949 _ _ t952 t958 _ ?side1 ?side2 ?side3 ?side4 ?side5 ?side6 ?side7 ?side8 A18.out).mono ?_); (case side1 => exact cl ((Kd.R_reads' HO945.out).2.2)); (case side2 => exact sc HO945); (case side3 => exact cl ((Kd.R_reads' HO948.out).2.2)); (case side4 => exact sc HO948); (case side5 => exact cl ((Kd.R_reads' HO951.out).2.2)); (case side6 => exact sc HO951); (case side7 => exact cl ((Kd.R_reads' HO954.out).2.2)); (case side8 => exact sc HO954); rintro e w22 ⟨rfl, hb⟩; replace HO945 := rb HO945 hb; replace HO948 := rb HO948 hb; replace HO951 := rb HO951 hb; replace HO954 := rb HO954 hb; replace BK955 := bb BK955 hb; replace HB := am (below_step (bs1 GE955.out HB.out) hb); (try clear hb)))
    go_meet
    case rel => exact ⟨_, (!t958), (by first | rfl | (simp; done) | (simp [*]; done)), H', ⟨by first | omega | exact Nat.le_refl _⟩, ⟨rl HO945.out⟩, ⟨rl HO948.out⟩, ⟨rl HO951.out⟩, ⟨rl HO954.out⟩, ⟨kl BK955.out⟩, ⟨by exact bs1 GE955.out HB.out⟩⟩
  case rest =>
   clear HC5
   try clear c1
   try clear c2
   try clear c2b0
   try clear c2b1
   try clear p2
   try clear c3
   try clear c7
   try clear c15
   try clear c15b0
   try clear c15b1
   try clear c15b2
   obtain ⟨kq, x20_4, rfl, HA, HJ4, HO_956000, HO_956001, HO_956002, HO_956003, BK955, HB⟩ := hcut
   cases kq with
   | zero => exact absurd HA.out (by simp [laws_FnColorHolds.j0])
   | succ kj4 =>
    have H := HA.out
    clear HA
    simp only [laws_FnColorHolds.j0] at H
    by_cases c23 : x20_4 = true
    ·subst c23
     have H1 : ((spec_ColorHolds.f kj4 t943 t946 t949 t952).bind fun t959 => (if (t956 == t959) = true then (some (!t956)) else (none))) = some r := by rw [if_pos rfl] at H; exact H
     clear H
     have H := H1
     clear H1
     replace H := Option.bind_eq_some_iff.mp H
     obtain ⟨t959, A240, H⟩ := H
     replace H : (if (t956 == t959) = true then (some (!t956)) else (none)) = some r := H
     have A24 := am A240
     clear A240
     by_cases c25 : (t956 == t959) = true
     ·rw [if_pos c25] at H
      have c25b0 : (t956 == t959) = true := c25
      (try (have c25b1 : decide (t956 = t959) = true := by simpa using c25))
      (try (have c25b2 : (t956 == t959) = true := by simpa using c25))
      clear c25
      obtain rfl := Option.some.inj H
      obtain ⟨hcz26_0, hcz26_1, hcz26_2, hcz26_3, hfz26_0, hfz26_1, hfz26_2, hfz26_3⟩ := cf4 BK955
      go_wp2_with (first | ((with_reducible refine gate_callee (f := 32) rfl ?_); refine gL (some 23) rfl rfl Try.func32 (by kernel_rfl) rfl #[.agg #[.slice Ao8 t943.length co8, .slice Ao10 t946.length co10, .slice Ao11 t949.length co11, .slice Ao12 t952.length co12]] rfl ?_; (with_reducible refine (spec_ColorHolds.calls kj4 _ _ t943 _ _ t946 _ _ t949 _ _ t952 t959 _ ?side1 ?side2 ?side3 ?side4 ?side5 ?side6 ?side7 ?side8 A24.out).mono ?_); (case side1 => exact cl ((Kd.R_reads' HO_956000.out).2.2)); (case side2 => exact sc HO_956000); (case side3 => exact cl ((Kd.R_reads' HO_956001.out).2.2)); (case side4 => exact sc HO_956001); (case side5 => exact cl ((Kd.R_reads' HO_956002.out).2.2)); (case side6 => exact sc HO_956002); (case side7 => exact cl ((Kd.R_reads' HO_956003.out).2.2)); (case side8 => exact sc HO_956003); rintro e w27 ⟨rfl, hb⟩; refine ⟨_, rfl, ?_⟩; replace HO_956000 := rb HO_956000 hb; replace HO_956001 := rb HO_956001 hb; replace HO_956002 := rb HO_956002 hb; replace HO_956003 := rb HO_956003 hb; replace BK955 := bb BK955 hb; replace HB := am (below_step (bs1 GE955.out HB.out) hb); (try clear hb)))
      go_ret
      exact ⟨by first | rfl | (simp [errW_none, errW_some] <;> rfl) | (simp [*, errW_none, errW_some] <;> rfl), by exact bs1 GE955.out HB.out⟩
     ·rw [if_neg c25] at H
      exact absurd H (by simp)
    ·replace c23 := Bool.eq_false_iff.mpr c23
     subst c23
     have H1 : ((impl_CountColor.f kj4 t943 t946 t949 t952 2).bind fun t960 => (if t960 = 0 then (some t956) else ((impl_CountColor.f kj4 t943 t946 t949 t952 0).bind fun t961 => (if t961 = 0 then (some t956) else (some true))))) = some r := by rw [if_neg (show ¬ (false = true) by decide)] at H; exact H
     clear H
     have H := H1
     clear H1
     replace H := Option.bind_eq_some_iff.mp H
     obtain ⟨t960, A280, H⟩ := H
     replace H : (if t960 = 0 then (some t956) else ((impl_CountColor.f kj4 t943 t946 t949 t952 0).bind fun t961 => (if t961 = 0 then (some t956) else (some true)))) = some r := H
     have A28 := am A280
     clear A280
     by_cases c29 : t960 = 0
     ·rw [if_pos c29] at H
      have c29b0 : (t960 == 0) = true := beq_iff_eq.mpr c29
      have c29b1 : (t960 != 0) = false := bne_eq_false_iff_eq.mpr c29
      clear c29
      obtain rfl := Option.some.inj H
      obtain ⟨hcz30_0, hcz30_1, hcz30_2, hcz30_3, hfz30_0, hfz30_1, hfz30_2, hfz30_3⟩ := cf4 BK955
      go_wp2_with (first | ((with_reducible refine gate_callee (f := 27) rfl ?_); refine gL (some 30) rfl rfl Try.func27 (by kernel_rfl) rfl #[.agg #[.slice Ao8 t943.length co8, .slice Ao10 t946.length co10, .slice Ao11 t949.length co11, .slice Ao12 t952.length co12], .int .i64 2] rfl ?_; (with_reducible refine (impl_CountColor.calls kj4 _ _ t943 _ _ t946 _ _ t949 _ _ t952 2 t960 _ ?side1 ?side2 ?side3 ?side4 ?side5 ?side6 ?side7 ?side8 A28.out).mono ?_); (case side1 => exact cl ((Kd.R_reads' HO_956000.out).2.2)); (case side2 => exact sc HO_956000); (case side3 => exact cl ((Kd.R_reads' HO_956001.out).2.2)); (case side4 => exact sc HO_956001); (case side5 => exact cl ((Kd.R_reads' HO_956002.out).2.2)); (case side6 => exact sc HO_956002); (case side7 => exact cl ((Kd.R_reads' HO_956003.out).2.2)); (case side8 => exact sc HO_956003); rintro e w31 ⟨rfl, hb⟩; refine ⟨_, rfl, ?_⟩; replace HO_956000 := rb HO_956000 hb; replace HO_956001 := rb HO_956001 hb; replace HO_956002 := rb HO_956002 hb; replace HO_956003 := rb HO_956003 hb; replace BK955 := bb BK955 hb; replace HB := am (below_step (bs1 GE955.out HB.out) hb); (try clear hb)))
      go_ret
      exact ⟨by first | rfl | (simp [errW_none, errW_some] <;> rfl) | (simp [*, errW_none, errW_some] <;> rfl), by exact bs1 GE955.out HB.out⟩
     ·rw [if_neg c29] at H
      have c29b0 : (t960 == 0) = false := beq_eq_false_iff_ne.mpr c29
      have c29b1 : (t960 != 0) = true := bne_iff_ne.mpr c29
      replace H := Option.bind_eq_some_iff.mp H
      obtain ⟨t961, A320, H⟩ := H
      replace H : (if t961 = 0 then (some t956) else (some true)) = some r := H
      have A32 := am A320
      clear A320
      by_cases c33 : t961 = 0
      ·rw [if_pos c33] at H
       have c33b0 : (t961 == 0) = true := beq_iff_eq.mpr c33
       have c33b1 : (t961 != 0) = false := bne_eq_false_iff_eq.mpr c33
       clear c33
       obtain rfl := Option.some.inj H
       obtain ⟨hcz34_0, hcz34_1, hcz34_2, hcz34_3, hfz34_0, hfz34_1, hfz34_2, hfz34_3⟩ := cf4 BK955
       go_wp2_with (first | ((with_reducible refine gate_callee (f := 27) rfl ?_); refine gL (some 30) rfl rfl Try.func27 (by kernel_rfl) rfl #[.agg #[.slice Ao8 t943.length co8, .slice Ao10 t946.length co10, .slice Ao11 t949.length co11, .slice Ao12 t952.length co12], .int .i64 2] rfl ?_; (with_reducible refine (impl_CountColor.calls kj4 _ _ t943 _ _ t946 _ _ t949 _ _ t952 2 t960 _ ?side1 ?side2 ?side3 ?side4 ?side5 ?side6 ?side7 ?side8 A28.out).mono ?_); (case side1 => exact cl ((Kd.R_reads' HO_956000.out).2.2)); (case side2 => exact sc HO_956000); (case side3 => exact cl ((Kd.R_reads' HO_956001.out).2.2)); (case side4 => exact sc HO_956001); (case side5 => exact cl ((Kd.R_reads' HO_956002.out).2.2)); (case side6 => exact sc HO_956002); (case side7 => exact cl ((Kd.R_reads' HO_956003.out).2.2)); (case side8 => exact sc HO_956003); rintro e w35 ⟨rfl, hb⟩; refine ⟨_, rfl, ?_⟩; replace HO_956000 := rb HO_956000 hb; replace HO_956001 := rb HO_956001 hb; replace HO_956002 := rb HO_956002 hb; replace HO_956003 := rb HO_956003 hb; replace BK955 := bb BK955 hb; replace HB := am (below_step (bs1 GE955.out HB.out) hb); (try clear hb); obtain ⟨hcz36_0, hcz36_1, hcz36_2, hcz36_3, hfz36_0, hfz36_1, hfz36_2, hfz36_3⟩ := cf4 BK955) | (go_at_call 27; (with_reducible refine (impl_CountColor.calls kj4 _ _ t943 _ _ t946 _ _ t949 _ _ t952 0 t961 _ ?side1 ?side2 ?side3 ?side4 ?side5 ?side6 ?side7 ?side8 A32.out).mono ?_); (case side1 => exact cl ((Kd.R_reads' HO_956000.out).2.2)); (case side2 => exact sc HO_956000); (case side3 => exact cl ((Kd.R_reads' HO_956001.out).2.2)); (case side4 => exact sc HO_956001); (case side5 => exact cl ((Kd.R_reads' HO_956002.out).2.2)); (case side6 => exact sc HO_956002); (case side7 => exact cl ((Kd.R_reads' HO_956003.out).2.2)); (case side8 => exact sc HO_956003); rintro e w37 ⟨rfl, hb⟩; replace HO_956000 := rb HO_956000 hb; replace HO_956001 := rb HO_956001 hb; replace HO_956002 := rb HO_956002 hb; replace HO_956003 := rb HO_956003 hb; replace BK955 := bb BK955 hb; replace HB := am (below_step (bs1 GE955.out HB.out) hb); (try clear hb)))
       go_ret
       exact ⟨by first | rfl | (simp [errW_none, errW_some] <;> rfl) | (simp [*, errW_none, errW_some] <;> rfl), by exact bs1 GE955.out HB.out⟩
      ·rw [if_neg c33] at H
       have c33b0 : (t961 == 0) = false := beq_eq_false_iff_ne.mpr c33
       have c33b1 : (t961 != 0) = true := bne_iff_ne.mpr c33
       obtain rfl := Option.some.inj H
       obtain ⟨hcz38_0, hcz38_1, hcz38_2, hcz38_3, hfz38_0, hfz38_1, hfz38_2, hfz38_3⟩ := cf4 BK955
       go_wp2_with (first | ((with_reducible refine gate_callee (f := 27) rfl ?_); refine gL (some 30) rfl rfl Try.func27 (by kernel_rfl) rfl #[.agg #[.slice Ao8 t943.length co8, .slice Ao10 t946.length co10, .slice Ao11 t949.length co11, .slice Ao12 t952.length co12], .int .i64 2] rfl ?_; (with_reducible refine (impl_CountColor.calls kj4 _ _ t943 _ _ t946 _ _ t949 _ _ t952 2 t960 _ ?side1 ?side2 ?side3 ?side4 ?side5 ?side6 ?side7 ?side8 A28.out).mono ?_); (case side1 => exact cl ((Kd.R_reads' HO_956000.out).2.2)); (case side2 => exact sc HO_956000); (case side3 => exact cl ((Kd.R_reads' HO_956001.out).2.2)); (case side4 => exact sc HO_956001); (case side5 => exact cl ((Kd.R_reads' HO_956002.out).2.2)); (case side6 => exact sc HO_956002); (case side7 => exact cl ((Kd.R_reads' HO_956003.out).2.2)); (case side8 => exact sc HO_956003); rintro e w39 ⟨rfl, hb⟩; refine ⟨_, rfl, ?_⟩; replace HO_956000 := rb HO_956000 hb; replace HO_956001 := rb HO_956001 hb; replace HO_956002 := rb HO_956002 hb; replace HO_956003 := rb HO_956003 hb; replace BK955 := bb BK955 hb; replace HB := am (below_step (bs1 GE955.out HB.out) hb); (try clear hb); obtain ⟨hcz40_0, hcz40_1, hcz40_2, hcz40_3, hfz40_0, hfz40_1, hfz40_2, hfz40_3⟩ := cf4 BK955) | (go_at_call 27; (with_reducible refine (impl_CountColor.calls kj4 _ _ t943 _ _ t946 _ _ t949 _ _ t952 0 t961 _ ?side1 ?side2 ?side3 ?side4 ?side5 ?side6 ?side7 ?side8 A32.out).mono ?_); (case side1 => exact cl ((Kd.R_reads' HO_956000.out).2.2)); (case side2 => exact sc HO_956000); (case side3 => exact cl ((Kd.R_reads' HO_956001.out).2.2)); (case side4 => exact sc HO_956001); (case side5 => exact cl ((Kd.R_reads' HO_956002.out).2.2)); (case side6 => exact sc HO_956002); (case side7 => exact cl ((Kd.R_reads' HO_956003.out).2.2)); (case side8 => exact sc HO_956003); rintro e w41 ⟨rfl, hb⟩; replace HO_956000 := rb HO_956000 hb; replace HO_956001 := rb HO_956001 hb; replace HO_956002 := rb HO_956002 hb; replace HO_956003 := rb HO_956003 hb; replace BK955 := bb BK955 hb; replace HB := am (below_step (bs1 GE955.out HB.out) hb); (try clear hb)))
       go_ret
       exact ⟨by first | rfl | (simp [errW_none, errW_some] <;> rfl) | (simp [*, errW_none, errW_some] <;> rfl), by exact bs1 GE955.out HB.out⟩

/-- THE ONE PURE STATEMENT of laws_FnColorHolds: yours. -/
def laws_FnColorHolds.Pure : Prop := ∀ (l0 : List Int), l0.length ≤ maxLen → l0.length * 1 ≤ 140737488351232 → (∀ x ∈ l0, (Lit.int .u8 x).wf = true) → ∃ k, laws_FnColorHolds.f k l0 = some true
theorem laws_FnColorHolds.walk (P : laws_FnColorHolds.Pure) (a0 : Option Addr) (len0 cap0 : Nat) (z0 : List Int) (w : World) (w0 : (a0 = none ∧ len0 = 0 ∧ cap0 = 0 ∧ z0 = []) ∨ ∃ x, a0 = some x ∧ len0 ≤ cap0 ∧ cap0 ≤ maxLen ∧ z0.length = cap0 ∧ (∀ i, i < z0.length → w.cell? (x.add i) = some (.int .u8 (z0.getD i 0))) ∧ ∀ n ∈ z0, (Lit.int .u8 n).wf = true) (y0 : len0 * 1 ≤ 140737488351232) :
  Calls Try.prog 7 #[.slice a0 len0 cap0] w fun e w' => e = .returned (.bool true) ∧ Below w.heap.size w w' := by
 obtain ⟨l0, rfl, hr0, hm0, hw0, hc0⟩ := ReadsInt.ofRowC w0
 obtain ⟨k, h⟩ := P l0 hm0 y0 hw0
 refine (laws_FnColorHolds.calls k _ _ l0 true w (Kd.C_of_reads (d := (0 : Int)) (h1 := fun _ => rfl) hr0) hc0 h).mono ?_
 rintro e w' ⟨rfl, hd⟩
 exact ⟨rfl, hd⟩

end Go.Proofs.Ytkbaggfkidalfaa.A
