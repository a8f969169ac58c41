/- Contracts of functions of the given program (ASpecShadeRoots). No conditions beyond those stated. -/
import Derived.Test.YtkbaggfkidalfaaA0
import Derived.Test.YtkbaggfkidalfaaASpecColoredValid
import Derived.Test.YtkbaggfkidalfaaASpecL3Copy
import Derived.Test.YtkbaggfkidalfaaASpecL3Shade
import Derived.Test.YtkbaggfkidalfaaA0
namespace Go.Proofs.Ytkbaggfkidalfaa.A
open Go.RowKit Go.Proofs.YtkbaggfkidalfaaW.PrintWords Go.Proofs.YtkbaggfkidalfaaW.PrintLast Go.Proofs.YtkbaggfkidalfaaW.PrintMore
attribute [local go_sem] max2_int min2_int max_two min_two max_three min_three max_four min_four   -- for this text's walks alone
set_option linter.unusedVariables false
set_option linter.unusedSimpArgs false

/-! ### spec_ShadeRoots -/
def spec_ShadeRoots.l0 : Nat → Int → List Int → List Int → List Int → List Int → List Int → List Int → List Int → List Int → Option (List Int × List Int × List Int × List Int × Bool)
 | 0, _, _, _, _, _, _, _, _, _ => none
 | k + 1, x5, x416000, x416001, x416002, x416003, x431000, x431001, x431002, x431003 => if x5 < (x416002.length : Int) then (if 0 ≤ x5 then ((spec_l3Shade.f x431003 (rd x416002 x5)).bind fun t432 => (spec_ShadeRoots.l0 k (wrap64 (x5 + 1)) x416000 x416001 x416002 x416003 x431000 x431001 x431002 t432)) else (none)) else (some (x431000, x431001, x431002, x431003, true))
def spec_ShadeRoots.f (k : Nat) (l0_0 : List Int) (l0_1 : List Int) (l0_2 : List Int) (l0_3 : List Int) : Option (List Int × List Int × List Int × List Int × Bool) := (spec_ColoredValid.f k l0_0 l0_1 l0_2 l0_3).bind fun t417 => (if t417 = true then ((spec_l3Copy.f l0_0 l0_1 l0_2 l0_3).bind fun bt418 => (spec_ShadeRoots.l0 k 0 l0_0 l0_1 l0_2 l0_3 bt418.1 bt418.2.1 bt418.2.2.1 bt418.2.2.2)) else (some (([] : List Int), ([] : List Int), ([] : List Int), ([] : List Int), false)))
theorem spec_ShadeRoots.mono_l : ∀ k, (∀ y0 y1 y2 y3 y4 y5 y6 y7 y8, LeO (spec_ShadeRoots.l0 k y0 y1 y2 y3 y4 y5 y6 y7 y8) (spec_ShadeRoots.l0 (k + 1) y0 y1 y2 y3 y4 y5 y6 y7 y8))
 | 0 => fun _ _ _ _ _ _ _ _ _ r h => by simp [spec_ShadeRoots.l0] at h
 | k + 1 => by
  have ih0 := spec_ShadeRoots.mono_l k
  ·intro y0 y1 y2 y3 y4 y5 y6 y7 y8
   unfold spec_ShadeRoots.l0
   repeat' first
   | (with_reducible exact ih0 _ _ _ _ _ _ _ _ _)
   | (with_reducible exact spec_ColoredValid.mono _ _ _ _ _)
   | (with_reducible exact LeO.refl _)
   | (with_reducible exact LeO.none _)
   | (with_reducible refine LeO.ite ?_ ?_)
   | (with_reducible refine LeO.bind ?_ (fun _ => ?_))
   | exact ih0 _ _ _ _ _ _ _ _ _
   | exact spec_ColoredValid.mono _ _ _ _ _
   | exact LeO.none _
   | refine LeO.ite ?_ ?_
   | refine LeO.bind ?_ (fun _ => ?_)
theorem spec_ShadeRoots.mono : ∀ a0 a1 a2 a3 k, LeO (spec_ShadeRoots.f k a0 a1 a2 a3) (spec_ShadeRoots.f (k + 1) a0 a1 a2 a3) := by
 intro a0 a1 a2 a3 k
 have ih0 := spec_ShadeRoots.mono_l k
 unfold spec_ShadeRoots.f
 repeat' first
   | (with_reducible exact ih0 _ _ _ _ _ _ _ _ _)
   | (with_reducible exact spec_ColoredValid.mono _ _ _ _ _)
   | (with_reducible exact LeO.refl _)
   | (with_reducible exact LeO.none _)
   | (with_reducible refine LeO.ite ?_ ?_)
   | (with_reducible refine LeO.bind ?_ (fun _ => ?_))
   | exact ih0 _ _ _ _ _ _ _ _ _
   | exact spec_ColoredValid.mono _ _ _ _ _
   | exact LeO.none _
   | refine LeO.ite ?_ ?_
   | refine LeO.bind ?_ (fun _ => ?_)
def spec_ShadeRoots.T7 : Bool × List (List Nat × List Nat) := (true, [([], []), ([0], [0]), ([], []), ([2], [2]), ([3], [3]), ([], []), ([4, 5], [4, 5]), ([6], [6]), ([1, 7], [1, 7]), ([0, 1, 2, 3, 4, 5, 6, 7, 8], []), ([9, 8, 8, 0, 1, 2, 3, 4, 5, 6, 7, 8], [8, 9])])
def spec_ShadeRoots.B7 : List Nat := [0, 1, 0, 4, 12, 0, 60, 124, 255, 511, 1023]
theorem spec_ShadeRoots.tab7 : rtab .any (opsOf Try.f24 7) = spec_ShadeRoots.T7 := by kernel_rfl
theorem spec_ShadeRoots.bits7 : waitsOk spec_ShadeRoots.T7.2 spec_ShadeRoots.B7 = true := by kernel_rfl
set_option maxHeartbeats 8000000 in
set_option maxRecDepth 100000 in
theorem spec_ShadeRoots.calls (k : Nat) (A0_0 : Option Addr) (c0_0 : Nat) (l0_0 : List Int) (A0_1 : Option Addr) (c0_1 : Nat) (l0_1 : List Int) (A0_2 : Option Addr) (c0_2 : Nat) (l0_2 : List Int) (A0_3 : Option Addr) (c0_3 : Nat) (l0_3 : List Int) (r1 : List Int) (r2 : List Int) (r3 : List Int) (r4 : List Int) (r5 : Bool) (w : World) (hr0_0 : Kd.C (Kd.int .i64) w A0_0 l0_0.length l0_0) (hc0_0 : l0_0.length ≤ c0_0) (hr0_1 : Kd.C (Kd.int .i64) w A0_1 l0_1.length l0_1) (hc0_1 : l0_1.length ≤ c0_1) (hr0_2 : Kd.C (Kd.int .i64) w A0_2 l0_2.length l0_2) (hc0_2 : l0_2.length ≤ c0_2) (hr0_3 : Kd.C (Kd.int .i64) w A0_3 l0_3.length l0_3) (hc0_3 : l0_3.length ≤ c0_3) (h : spec_ShadeRoots.f k l0_0 l0_1 l0_2 l0_3 = some (r1, r2, r3, r4, r5)) :
  Calls Try.prog 24 #[.agg #[.slice A0_0 l0_0.length c0_0, .slice A0_1 l0_1.length c0_1, .slice A0_2 l0_2.length c0_2, .slice A0_3 l0_3.length c0_3]] w fun e w' => ∃ v0_ v1_ v2_ v3_ : Value, e = .returned (.tuple #[.agg #[v0_, v1_, v2_, v3_], .bool r5]) ∧ Kd.R (Kd.int .i64) 3 w' w.heap.size (fun k_ => some k_ ≠ (v1_ : Value).ownBlock ∧ some k_ ≠ (v2_ : Value).ownBlock ∧ some k_ ≠ (v3_ : Value).ownBlock) v0_ r1 ∧ Kd.R (Kd.int .i64) 3 w' w.heap.size (fun k_ => some k_ ≠ (v0_ : Value).ownBlock ∧ some k_ ≠ (v2_ : Value).ownBlock ∧ some k_ ≠ (v3_ : Value).ownBlock) v1_ r2 ∧ Kd.R (Kd.int .i64) 3 w' w.heap.size (fun k_ => some k_ ≠ (v0_ : Value).ownBlock ∧ some k_ ≠ (v1_ : Value).ownBlock ∧ some k_ ≠ (v3_ : Value).ownBlock) v2_ r3 ∧ Kd.R (Kd.int .i64) 3 w' w.heap.size (fun k_ => some k_ ≠ (v0_ : Value).ownBlock ∧ some k_ ≠ (v1_ : Value).ownBlock ∧ some k_ ≠ (v2_ : Value).ownBlock) v3_ r4 ∧ Below w.heap.size w w' := by
 have hu30 := Try.underlying30
 have HR0_0 := am hr0_0
 have HC0_0 := am hc0_0
 clear hr0_0 hc0_0
 have HR0_1 := am hr0_1
 have HC0_1 := am hc0_1
 clear hr0_1 hc0_1
 have HR0_2 := am hr0_2
 have HC0_2 := am hc0_2
 clear hr0_2 hc0_2
 have HR0_3 := am hr0_3
 have HC0_3 := am hc0_3
 clear hr0_3 hc0_3
 have HB := am (Below.refl w.heap.size w)
 have H : ((spec_ColoredValid.f k l0_0 l0_1 l0_2 l0_3).bind fun t417 => (if t417 = true then ((spec_l3Copy.f l0_0 l0_1 l0_2 l0_3).bind fun bt418 => (spec_ShadeRoots.l0 k 0 l0_0 l0_1 l0_2 l0_3 bt418.1 bt418.2.1 bt418.2.2.1 bt418.2.2.2)) else (some (([] : List Int), ([] : List Int), ([] : List Int), ([] : List Int), false)))) = some (r1, r2, r3, r4, r5) := h
 clear h
 replace H := Option.bind_eq_some_iff.mp H
 obtain ⟨t417, A20, H⟩ := H
 replace H : (if t417 = true then ((spec_l3Copy.f l0_0 l0_1 l0_2 l0_3).bind fun bt418 => (spec_ShadeRoots.l0 k 0 l0_0 l0_1 l0_2 l0_3 bt418.1 bt418.2.1 bt418.2.2.1 bt418.2.2.2)) else (some (([] : List Int), ([] : List Int), ([] : List Int), ([] : List Int), false))) = some (r1, r2, r3, r4, r5) := H
 have A2 := am A20
 clear A20
 by_cases c3 : t417 = true
 ·subst c3
  have H1 : ((spec_l3Copy.f l0_0 l0_1 l0_2 l0_3).bind fun bt418 => (spec_ShadeRoots.l0 k 0 l0_0 l0_1 l0_2 l0_3 bt418.1 bt418.2.1 bt418.2.2.1 bt418.2.2.2)) = some (r1, r2, r3, r4, r5) := by rw [if_pos rfl] at H; exact H
  clear H
  have H := H1
  clear H1
  replace H := Option.bind_eq_some_iff.mp H
  obtain ⟨⟨t418, t421, t424, t427⟩, A40, H⟩ := H
  replace H : (spec_ShadeRoots.l0 k 0 l0_0 l0_1 l0_2 l0_3 t418 t421 t424 t427) = some (r1, r2, r3, r4, r5) := H
  have A4 := am A40
  clear A40
  have H' := am H
  clear H
  go_enter Try.func24, Try.ntmps24
  go_wp2_with (first | ((with_reducible refine gate_dst (N := 1) rfl ?_); refine box_event ?hg (N := 1) ?hd (cs := #[.slice A0_0 l0_0.length c0_0, .slice A0_1 l0_1.length c0_1, .slice A0_2 l0_2.length c0_2, .slice A0_3 l0_3.length c0_3]) (t := 30) ?hr ?_; (case hd => rfl); (case hg => rfl); (case hr => first | (go_simp; done) | (go_simp; rfl)); intro gb415 hg w5 hbox hb; have BK415 := am (hbox); have GW415 := am ((by rw [hg]; exact (below_size (bl HB.out)) : w.heap.size ≤ gb415)); have GE415 := am ((by rw [hg]; exact (below_size (bl HB.out)) : w.heap.size ≤ gb415)); replace HB := am (below_step (bl HB.out) hb); clear hb hbox hg) | ((with_reducible refine gate_dst (N := 2) rfl ?_); refine box_event ?hg (N := 2) ?hd (cs := #[.slice none 0 0, .slice none 0 0, .slice none 0 0, .slice none 0 0]) (t := 30) ?hr ?_; (case hd => rfl); (case hg => rfl); (case hr => first | (go_simp; done) | (go_simp; rfl)); intro gb416 hg w6 hbox hb; have BK416 := am (hbox); have GW416 := am ((by rw [hg]; exact (below_size (bs1 GE415.out HB.out)) : w.heap.size ≤ gb416)); have GE416 := am ((by rw [hg]; exact (below_size (bs1 GE415.out HB.out)) : w.heap.size ≤ gb416)); replace HB := am (below_step (bs1 GE415.out HB.out) hb); have NB415_416 := nb BK415 hg; have NB416_415 := nc BK415 hg; replace BK415 := bb BK415 hb; clear hb hbox hg; have hnb7 := NB415_416.out; have hnc7 := NB416_415.out; obtain ⟨hcz8_0, hcz8_1, hcz8_2, hcz8_3, hfz8_0, hfz8_1, hfz8_2, hfz8_3⟩ := cf4 BK415) | ((with_reducible refine gate_callee (f := 36) rfl ?_); refine gL (some 7) rfl rfl Try.func36 (by kernel_rfl) rfl #[.agg #[.slice A0_0 l0_0.length c0_0, .slice A0_1 l0_1.length c0_1, .slice A0_2 l0_2.length c0_2, .slice A0_3 l0_3.length c0_3]] rfl ?_; (with_reducible refine (spec_ColoredValid.calls k _ _ l0_0 _ _ l0_1 _ _ l0_2 _ _ l0_3 true _ ?side1 ?side2 ?side3 ?side4 ?side5 ?side6 ?side7 ?side8 A2.out).mono ?_); (case side1 => exact ci HR0_0 HB); (case side2 => exact HC0_0.out); (case side3 => exact ci HR0_1 HB); (case side4 => exact HC0_1.out); (case side5 => exact ci HR0_2 HB); (case side6 => exact HC0_2.out); (case side7 => exact ci HR0_3 HB); (case side8 => exact HC0_3.out); rintro e w9 ⟨rfl, hb⟩; refine ⟨_, rfl, ?_⟩; replace BK415 := bb BK415 hb; replace BK416 := bb BK416 hb; replace HB := am (below_step (bs2 GE415.out GE416.out HB.out) hb); (try clear hb); obtain ⟨hcz10_0, hcz10_1, hcz10_2, hcz10_3, hfz10_0, hfz10_1, hfz10_2, hfz10_3⟩ := cf4 BK415) | ((with_reducible refine gate_callee (f := 55) rfl ?_); refine gL (some 11) rfl rfl Try.func55 (by kernel_rfl) rfl #[.agg #[.slice A0_0 l0_0.length c0_0, .slice A0_1 l0_1.length c0_1, .slice A0_2 l0_2.length c0_2, .slice A0_3 l0_3.length c0_3]] rfl ?_; (with_reducible refine (spec_l3Copy.calls _ _ l0_0 _ _ l0_1 _ _ l0_2 _ _ l0_3 t418 t421 t424 t427 _ ?side1 ?side2 ?side3 ?side4 ?side5 ?side6 ?side7 ?side8 A4.out).mono ?_); (case side1 => exact ci HR0_0 HB); (case side2 => exact HC0_0.out); (case side3 => exact ci HR0_1 HB); (case side4 => exact HC0_1.out); (case side5 => exact ci HR0_2 HB); (case side6 => exact HC0_2.out); (case side7 => exact ci HR0_3 HB); (case side8 => exact HC0_3.out); rintro e w11 ⟨v419, v422, v425, v428, rfl, ho0, ho1, ho2, ho3, hb⟩; refine ⟨_, rfl, ?_⟩; have HO420 := ln0 ho0 (bs2 GE415.out GE416.out HB.out); have HO423 := ln0 ho1 (bs2 GE415.out GE416.out HB.out); have HO426 := ln0 ho2 (bs2 GE415.out GE416.out HB.out); have HO429 := ln0 ho3 (bs2 GE415.out GE416.out HB.out); replace BK415 := bb BK415 hb; replace BK416 := bb BK416 hb; replace HB := am (below_step (bs2 GE415.out GE416.out HB.out) hb); (try clear hb ho0 ho1 ho2 ho3)) | ((with_reducible refine gate_dst (N := 4) rfl ?_); refine box_event ?hg (N := 4) ?hd (cs := #[.slice none 0 0, .slice none 0 0, .slice none 0 0, .slice none 0 0]) (t := 30) ?hr ?_; (case hd => rfl); (case hg => rfl); (case hr => first | (go_simp; done) | (go_simp; rfl)); intro gb430 hg w12 hbox hb; replace HO420 := rb HO420 hb; replace HO423 := rb HO423 hb; replace HO426 := rb HO426 hb; replace HO429 := rb HO429 hb; have BK430 := am (hbox); have GW430 := am ((by rw [hg]; exact (below_size (bs2 GE415.out GE416.out HB.out)) : w.heap.size ≤ gb430)); have GE430 := am ((by rw [hg]; exact (below_size (bs2 GE415.out GE416.out HB.out)) : w.heap.size ≤ gb430)); replace HB := am (below_step (bs2 GE415.out GE416.out HB.out) hb); have NB415_430 := nb BK415 hg; have NB430_415 := nc BK415 hg; replace BK415 := bb BK415 hb; have NB416_430 := nb BK416 hg; have NB430_416 := nc BK416 hg; replace BK416 := bb BK416 hb; clear hb hbox hg; obtain ⟨Ao13, co13, eo13⟩ := Kd.R_slice HO420.out; subst eo13; have hnb14 := NB430_415.out; have hnc14 := NB415_430.out; have hnb15 := NB430_416.out; have hnc15 := NB416_430.out; obtain ⟨hcz16_0, hcz16_1, hcz16_2, hcz16_3, hfz16_0, hfz16_1, hfz16_2, hfz16_3⟩ := cf4 BK430; obtain ⟨Ao17, co17, eo17⟩ := Kd.R_slice HO423.out; subst eo17; obtain ⟨Ao18, co18, eo18⟩ := Kd.R_slice HO426.out; subst eo18; obtain ⟨Ao19, co19, eo19⟩ := Kd.R_slice HO429.out; subst eo19))
  go_loopg [5] k (fun kq v5 w' => ∃ (x5_1 : Int) (x431003_1 : List Int) (u431003 : Value), v5 = .int .i64 x5_1 ∧ Aside0 (spec_ShadeRoots.l0 kq x5_1 l0_0 l0_1 l0_2 l0_3 t418 t421 t424 x431003_1 = some (r1, r2, r3, r4, r5)) ∧ Aside0 (kq ≤ k) ∧ Aside0 (Kd.R (Kd.int .i64) 3 w' w.heap.size (fun k_ => some k_ ≠ ((.slice Ao17 t421.length co17) : Value).ownBlock ∧ some k_ ≠ ((.slice Ao18 t424.length co18) : Value).ownBlock ∧ some k_ ≠ (u431003 : Value).ownBlock) (.slice Ao13 t418.length co13) t418) ∧ Aside0 (Kd.R (Kd.int .i64) 3 w' w.heap.size (fun k_ => some k_ ≠ ((.slice Ao13 t418.length co13) : Value).ownBlock ∧ some k_ ≠ ((.slice Ao18 t424.length co18) : Value).ownBlock ∧ some k_ ≠ (u431003 : Value).ownBlock) (.slice Ao17 t421.length co17) t421) ∧ Aside0 (Kd.R (Kd.int .i64) 3 w' w.heap.size (fun k_ => some k_ ≠ ((.slice Ao13 t418.length co13) : Value).ownBlock ∧ some k_ ≠ ((.slice Ao17 t421.length co17) : Value).ownBlock ∧ some k_ ≠ (u431003 : Value).ownBlock) (.slice Ao18 t424.length co18) t424) ∧ Aside0 (Kd.R (Kd.int .i64) 3 w' w.heap.size (fun k_ => some k_ ≠ ((.slice Ao13 t418.length co13) : Value).ownBlock ∧ some k_ ≠ ((.slice Ao17 t421.length co17) : Value).ownBlock ∧ some k_ ≠ ((.slice Ao18 t424.length co18) : Value).ownBlock) u431003 x431003_1) ∧ Aside0 (w'.heap[gb415]? = some (.cells #[(.slice A0_0 l0_0.length c0_0), (.slice A0_1 l0_1.length c0_1), (.slice A0_2 l0_2.length c0_2), (.slice A0_3 l0_3.length c0_3)] 30 (0, 0))) ∧ Aside0 (w'.heap[gb416]? = some (.cells #[(.slice none 0 0), (.slice none 0 0), (.slice none 0 0), (.slice none 0 0)] 30 (0, 0))) ∧ Aside0 (w'.heap[gb430]? = some (.cells #[(.slice Ao13 t418.length co13), (.slice Ao17 t421.length co17), (.slice Ao18 t424.length co18), u431003] 30 (0, 0))) ∧ Aside0 (Below w.heap.size w w'))
  case atStart => exact ⟨(0), (t427), (.slice Ao19 t427.length co19), (by first | rfl | (simp; done) | (simp [*]; done)), H', ⟨Nat.le_refl _⟩, ⟨rl (Kd.R_mono (Kd.R_far (p := ⟨gb430, 3, none⟩) (Kd.R_far (p := ⟨gb430, 2, none⟩) (Kd.R_far (p := ⟨gb430, 1, none⟩) (Kd.R_far (p := ⟨gb430, 0, none⟩) (Kd.R_types HO420.out BK430.out (by decide)) (fun _ hk => hk.2) (.slice Ao13 t418.length co13)) (fun _ hk => hk.2) (.slice Ao17 t421.length co17)) (fun _ hk => hk.2) (.slice Ao18 t424.length co18)) (fun _ hk => hk.2) (.slice Ao19 t427.length co19)) (fun _ hk => by first | exact ⟨hk.1.1, ⟨hk.1.2.1, hk.1.2.2⟩⟩ | (simp only [ne_eq] at hk ⊢; simp only [hk, not_false_eq_true, and_self])))⟩, ⟨rl (Kd.R_mono (Kd.R_far (p := ⟨gb430, 3, none⟩) (Kd.R_far (p := ⟨gb430, 2, none⟩) (Kd.R_far (p := ⟨gb430, 1, none⟩) (Kd.R_far (p := ⟨gb430, 0, none⟩) (Kd.R_types HO423.out BK430.out (by decide)) (fun _ hk => hk.2) (.slice Ao13 t418.length co13)) (fun _ hk => hk.2) (.slice Ao17 t421.length co17)) (fun _ hk => hk.2) (.slice Ao18 t424.length co18)) (fun _ hk => hk.2) (.slice Ao19 t427.length co19)) (fun _ hk => by first | exact ⟨hk.1.1, ⟨hk.1.2.1, hk.1.2.2⟩⟩ | (simp only [ne_eq] at hk ⊢; simp only [hk, not_false_eq_true, and_self])))⟩, ⟨rl (Kd.R_mono (Kd.R_far (p := ⟨gb430, 3, none⟩) (Kd.R_far (p := ⟨gb430, 2, none⟩) (Kd.R_far (p := ⟨gb430, 1, none⟩) (Kd.R_far (p := ⟨gb430, 0, none⟩) (Kd.R_types HO426.out BK430.out (by decide)) (fun _ hk => hk.2) (.slice Ao13 t418.length co13)) (fun _ hk => hk.2) (.slice Ao17 t421.length co17)) (fun _ hk => hk.2) (.slice Ao18 t424.length co18)) (fun _ hk => hk.2) (.slice Ao19 t427.length co19)) (fun _ hk => by first | exact ⟨hk.1.1, ⟨hk.1.2.1, hk.1.2.2⟩⟩ | (simp only [ne_eq] at hk ⊢; simp only [hk, not_false_eq_true, and_self])))⟩, ⟨rl (Kd.R_mono (Kd.R_far (p := ⟨gb430, 3, none⟩) (Kd.R_far (p := ⟨gb430, 2, none⟩) (Kd.R_far (p := ⟨gb430, 1, none⟩) (Kd.R_far (p := ⟨gb430, 0, none⟩) (Kd.R_types HO429.out BK430.out (by decide)) (fun _ hk => hk.2) (.slice Ao13 t418.length co13)) (fun _ hk => hk.2) (.slice Ao17 t421.length co17)) (fun _ hk => hk.2) (.slice Ao18 t424.length co18)) (fun _ hk => hk.2) (.slice Ao19 t427.length co19)) (fun _ hk => by first | exact ⟨hk.1.1, ⟨hk.1.2.1, hk.1.2.2⟩⟩ | (simp only [ne_eq] at hk ⊢; simp only [hk, not_false_eq_true, and_self])))⟩, ⟨kf1 NB415_430.out BK415.out⟩, ⟨kf1 NB416_430.out BK416.out⟩, ⟨kp4 (kf0 BK430.out)⟩, ⟨by exact bs3 GE415.out GE416.out GE430.out HB.out⟩⟩
  case round =>
   clear H'
   try clear c1
   try clear c2
   try clear p2
   try clear c3
   try clear c5
   try clear c7
   try clear c14
   try clear c15
   obtain ⟨x5_1, x431003_1, u431003, rfl, HA, HK1, HO_431000, HO_431001, HO_431002, HO_431003, BK415, BK416, BK430, HB⟩ := hrel
   cases gk with
   | zero => exact absurd HA.out (by simp [spec_ShadeRoots.l0])
   | succ k1 =>
    have H := HA.out
    clear HA
    simp only [spec_ShadeRoots.l0] at H
    by_cases c20 : x5_1 < (l0_2.length : Int)
    ·rw [if_pos c20] at H
     have c20b0 : decide (x5_1 < (l0_2.length : Int)) = true := decide_eq_true c20
     clear c20
     by_cases c21 : 0 ≤ x5_1
     ·rw [if_pos c21] at H
      have c21b0 : decide (0 ≤ x5_1) = true := decide_eq_true c21
      clear c21
      replace H := Option.bind_eq_some_iff.mp H
      obtain ⟨t432, A220, H⟩ := H
      replace H : (spec_ShadeRoots.l0 k1 (wrap64 (x5_1 + 1)) l0_0 l0_1 l0_2 l0_3 t418 t421 t424 t432) = some (r1, r2, r3, r4, r5) := H
      have A22 := am A220
      clear A220
      have H' := am H
      clear H
      have hnb23 := NB415_416.out
      have hnc23 := NB416_415.out
      have hnb24 := NB415_430.out
      have hnc24 := NB430_415.out
      obtain ⟨hcz25_0, hcz25_1, hcz25_2, hcz25_3, hfz25_0, hfz25_1, hfz25_2, hfz25_3⟩ := cf4 BK415
      try go_wp2
      replace HO_431000 := am (Kd.R_drew HO_431000.out)
      replace HO_431001 := am (Kd.R_drew HO_431001.out)
      replace HO_431002 := am (Kd.R_drew HO_431002.out)
      replace HO_431003 := am (Kd.R_drew HO_431003.out)
      replace BK415 := am (blk_drew BK415.out)
      replace BK416 := am (blk_drew BK416.out)
      replace BK430 := am (blk_drew BK430.out)
      replace HB := am (below_drew1 HB.out)
      have p431 : 0 ≤ (x5_1 : Int) := of_decide_eq_true (by first | (with_reducible assumption) | assumption)
      have q431 : x5_1 < (l0_2.length : Int) := of_decide_eq_true (by first | (with_reducible assumption) | assumption)
      obtain ⟨ad431, e431, hx431_0⟩ := Kd.at_int HR0_2.out x5_1 p431 q431
      have hw431_0 := hx431_0
      cases e431
      try (replace hx431_0 := (HB.out.cell (World.block_lt_of_cell? w _ hx431_0)).trans hx431_0)
      replace p431 := eq_true p431
      replace q431 := eq_true q431
      obtain ⟨Ao27, co27, eo27⟩ := Kd.R_slice HO_431003.out
      (first | subst eo27 | (injection eo27 with f1_ f2_ f3_; have f4_ := f1_.symm; have f5_ := f3_.symm; clear f1_ f2_ f3_; subst f4_; subst f5_))
      refine start_ (n := 11) (S := fun w' => w'.cell? ⟨gb430, 0, none⟩ = some (.slice Ao13 t418.length co13) ∧ w'.cell? ⟨gb430, 1, none⟩ = some (.slice Ao17 t421.length co17) ∧ w'.cell? ⟨gb430, 2, none⟩ = some (.slice Ao18 t424.length co18) ∧ w'.cell? ⟨gb430, 3, none⟩ = some (.slice Ao27 x431003_1.length co27) ∧ w'.cell? ⟨gb415, 0, none⟩ = some (.slice A0_0 l0_0.length c0_0) ∧ w'.cell? ⟨gb415, 1, none⟩ = some (.slice A0_1 l0_1.length c0_1) ∧ w'.cell? ⟨gb415, 2, none⟩ = some (.slice (some ad431) l0_2.length c0_2) ∧ w'.cell? ⟨gb415, 3, none⟩ = some (.slice A0_3 l0_3.length c0_3) ∧ w'.cell? (ad431.add (x5_1).toNat) = some (.int .i64 (rd l0_2 x5_1))) (ds := [10]) #[false, false, false, false, false, false, false, false, false, false, false] (by kernel_rfl) rfl rfl ⟨(blk_cell BK430.out 0).trans rfl, (blk_cell BK430.out 1).trans rfl, (blk_cell BK430.out 2).trans rfl, (blk_cell BK430.out 3).trans rfl, (blk_cell BK415.out 0).trans rfl, (blk_cell BK415.out 1).trans rfl, (blk_cell BK415.out 2).trans rfl, (blk_cell BK415.out 3).trans rfl, ((HB.out.cell (World.block_lt_of_cell? w _ hw431_0)).trans hw431_0)⟩ (fun hHeld => ?_); refine with_tabW spec_ShadeRoots.tab7 spec_ShadeRoots.bits7 (fun HT_ HW_ => ?_)
      generalize wr.drew = w26 at HO_431000 HO_431001 HO_431002 HO_431003 BK415 BK416 BK430 HB hx431_0 hHeld ⊢
      refine pure_ (i := 0) (N := some 20) (v := ?_) (a' := ?_) #[true, false, false, false, false, false, false, false, false, false, false] rfl rfl (any_of HT_.out (by kernel_rfl)) (fun _ _ _ h => h) (Or.inl ⟨by rfl, ?_⟩) ?_ ?_
      rotate_left
      ·intro w'
       go_simp
       with_reducible rfl
      rotate_left
      ·simp only [Act.put, List.setIfInBounds_toArray, List.set_cons_zero, List.set_cons_succ, i64_w, i32_w]
       rfl
      refine pure_ (i := 2) (N := some 22) (v := ?_) (a' := ?_) #[true, false, true, false, false, false, false, false, false, false, false] rfl rfl (any_of HT_.out (by kernel_rfl)) (fun _ _ _ h => h) (Or.inl ⟨by rfl, ?_⟩) ?_ ?_
      rotate_left
      ·intro w'
       go_simp
       with_reducible rfl
      rotate_left
      ·simp only [Act.put, List.setIfInBounds_toArray, List.set_cons_zero, List.set_cons_succ, i64_w, i32_w]
       rfl
      refine pure_ (i := 3) (N := some 23) (v := ?_) (a' := ?_) #[true, false, true, true, false, false, false, false, false, false, false] rfl rfl (any_of HT_.out (by kernel_rfl)) (fun _ _ _ h => h) (Or.inl ⟨by rfl, ?_⟩) ?_ ?_
      rotate_left
      ·intro w'
       go_simp
       with_reducible rfl
      rotate_left
      ·simp only [Act.put, List.setIfInBounds_toArray, List.set_cons_zero, List.set_cons_succ, i64_w, i32_w]
       rfl
      refine pure_ (i := 5) (N := some 25) (v := ?_) (a' := ?_) #[true, false, true, true, false, true, false, false, false, false, false] rfl rfl (any_of HT_.out (by kernel_rfl)) (fun _ _ _ h => h) (Or.inl ⟨by rfl, ?_⟩) ?_ ?_
      rotate_left
      ·intro w'
       go_simp
       with_reducible rfl
      rotate_left
      ·simp only [Act.put, List.setIfInBounds_toArray, List.set_cons_zero, List.set_cons_succ, i64_w, i32_w]
       rfl
      refine take_ (i := 1) (N := some 21) (v := ?_) (a' := ?_) #[true, true, true, true, false, true, false, false, false, false, false] rfl rfl (take_ofW HT_.out HW_.out (by kernel_rfl)) (fun _ _ _ h => h) (Or.inl ⟨by rfl, ?_⟩) hHeld ?_ ?_
      rotate_left
      ·rintro w' ⟨s0, s1, s2, s3, s4, s5, s6, s7, s8⟩
       go_simp
       with_reducible rfl
      rotate_left
      ·simp only [Act.put, List.setIfInBounds_toArray, List.set_cons_zero, List.set_cons_succ, i64_w, i32_w]
       rfl
      refine take_ (i := 4) (N := some 24) (v := ?_) (a' := ?_) #[true, true, true, true, true, true, false, false, false, false, false] rfl rfl (take_ofW HT_.out HW_.out (by kernel_rfl)) (fun _ _ _ h => h) (Or.inl ⟨by rfl, ?_⟩) hHeld ?_ ?_
      rotate_left
      ·rintro w' ⟨s0, s1, s2, s3, s4, s5, s6, s7, s8⟩
       go_simp
       with_reducible rfl
      rotate_left
      ·simp only [Act.put, List.setIfInBounds_toArray, List.set_cons_zero, List.set_cons_succ, i64_w, i32_w]
       rfl
      refine pure_ (i := 6) (N := some 26) (v := ?_) (a' := ?_) #[true, true, true, true, true, true, true, false, false, false, false] rfl rfl (any_of HT_.out (by kernel_rfl)) (fun _ _ _ h => h) (Or.inl ⟨by rfl, ?_⟩) ?_ ?_
      rotate_left
      ·intro w'
       go_simp
       with_reducible rfl
      rotate_left
      ·simp only [Act.put, List.setIfInBounds_toArray, List.set_cons_zero, List.set_cons_succ, i64_w, i32_w]
       rfl
      refine take_ (i := 7) (N := some 27) (v := ?_) (a' := ?_) #[true, true, true, true, true, true, true, true, false, false, false] rfl rfl (take_ofW HT_.out HW_.out (by kernel_rfl)) (fun _ _ _ h => h) (Or.inl ⟨by rfl, ?_⟩) hHeld ?_ ?_
      rotate_left
      ·rintro w' ⟨s0, s1, s2, s3, s4, s5, s6, s7, s8⟩
       go_simp
       with_reducible rfl
      rotate_left
      ·simp only [Act.put, List.setIfInBounds_toArray, List.set_cons_zero, List.set_cons_succ, i64_w, i32_w]
       rfl
      refine one_ (i := 8) (N := some 28) #[true, true, true, true, true, true, true, true, true, false, false] rfl rfl (one_of HT_.out (by kernel_rfl)) (by decide) (fun K hK => ?_)
      refine goes_ Try.func56 (by kernel_rfl) rfl #[.slice Ao27 x431003_1.length co27, .int .i64 (rd l0_2 x5_1)] (by rfl) rfl rfl (by (try simp only [List.map_toArray, List.map_cons, List.map_nil]); first | done | rfl | (simp only [List.length_drop, List.length_take]; rfl)) ?_
      with_reducible refine (spec_l3Shade.calls (fun k_ => some k_ = (.slice Ao27 x431003_1.length co27 : Value).ownBlock) (.slice Ao27 x431003_1.length co27) x431003_1 (rd l0_2 x5_1) t432 w _ ?side1 ?side2 A22.out).mono ?_
      (case side1 => exact bs3 GE415.out GE416.out GE430.out HB.out)
      (case side2 => exact Kd.R_tight rfl HO_431003.out)
      rintro e w28 ⟨v433, rfl, ho0, hb, hkp⟩
      refine ⟨_, rfl, ?_⟩
      replace BK415 := am (blk_kept (kl BK415.out) hkp (fun hs_ => (fun e_ => (Kd.R_ne HO_431003.out BK415.out (by decide)) e_) hs_))
      replace BK416 := am (blk_kept (kl BK416.out) hkp (fun hs_ => (fun e_ => (Kd.R_ne HO_431003.out BK416.out (by decide)) e_) hs_))
      replace BK430 := am (blk_kept (kl BK430.out) hkp (fun hs_ => (fun e_ => (Kd.R_ne HO_431003.out BK430.out (by decide)) e_) hs_))
      have HO434 := am (Kd.R_mono (ok' := fun k_ => some k_ ≠ (.slice Ao13 t418.length co13 : Value).ownBlock ∧ some k_ ≠ (.slice Ao17 t421.length co17 : Value).ownBlock ∧ some k_ ≠ (.slice Ao18 t424.length co18 : Value).ownBlock) ho0 (fun k_ hk_ => ⟨Or.elim hk_ (fun hs_ => fun e_ => (((HO_431000.out).1 k_ e_.symm).2.2) hs_) (fun hn_ => (Kd.fresh' (Kd.R_lt (rl HO_431000.out)) k_ hn_)), Or.elim hk_ (fun hs_ => fun e_ => (((HO_431001.out).1 k_ e_.symm).2.2) hs_) (fun hn_ => (Kd.fresh' (Kd.R_lt (rl HO_431001.out)) k_ hn_)), Or.elim hk_ (fun hs_ => fun e_ => (((HO_431002.out).1 k_ e_.symm).2.2) hs_) (fun hn_ => (Kd.fresh' (Kd.R_lt (rl HO_431002.out)) k_ hn_))⟩))
      replace HO_431000 := am (Kd.R_mono (ok' := fun k_ => some k_ ≠ (.slice Ao17 t421.length co17 : Value).ownBlock ∧ some k_ ≠ (.slice Ao18 t424.length co18 : Value).ownBlock ∧ some k_ ≠ (v433 : Value).ownBlock) (Kd.R_keptB (HO_431000.out) hkp (fun k_ hk_ hs_ => (hk_.2.2) hs_)) (fun k_ hk_ => ⟨hk_.1.1, hk_.1.2.1, fun e_ => Or.elim (ho0.1 k_ e_.symm) (fun hs_ => hk_.2.1 hs_) (fun hn_ => Nat.not_le.2 hk_.2.2 hn_)⟩))
      replace HO_431001 := am (Kd.R_mono (ok' := fun k_ => some k_ ≠ (.slice Ao13 t418.length co13 : Value).ownBlock ∧ some k_ ≠ (.slice Ao18 t424.length co18 : Value).ownBlock ∧ some k_ ≠ (v433 : Value).ownBlock) (Kd.R_keptB (HO_431001.out) hkp (fun k_ hk_ hs_ => (hk_.2.2) hs_)) (fun k_ hk_ => ⟨hk_.1.1, hk_.1.2.1, fun e_ => Or.elim (ho0.1 k_ e_.symm) (fun hs_ => hk_.2.1 hs_) (fun hn_ => Nat.not_le.2 hk_.2.2 hn_)⟩))
      replace HO_431002 := am (Kd.R_mono (ok' := fun k_ => some k_ ≠ (.slice Ao13 t418.length co13 : Value).ownBlock ∧ some k_ ≠ (.slice Ao17 t421.length co17 : Value).ownBlock ∧ some k_ ≠ (v433 : Value).ownBlock) (Kd.R_keptB (HO_431002.out) hkp (fun k_ hk_ hs_ => (hk_.2.2) hs_)) (fun k_ hk_ => ⟨hk_.1.1, hk_.1.2.1, fun e_ => Or.elim (ho0.1 k_ e_.symm) (fun hs_ => hk_.2.1 hs_) (fun hn_ => Nat.not_le.2 hk_.2.2 hn_)⟩))
      replace HB := am (hb)
      clear HO_431003
      (try clear hb hkp ho0)
      obtain ⟨Ao29, co29, eo29⟩ := Kd.R_slice HO434.out
      (first | subst eo29 | (injection eo29 with f1_ f2_ f3_; have f4_ := f1_.symm; have f5_ := f3_.symm; clear f1_ f2_ f3_; subst f4_; subst f5_))
      refine hK.out _ _ ⟨(blk_cell BK430.out 0).trans rfl, (blk_cell BK430.out 1).trans rfl, (blk_cell BK430.out 2).trans rfl, (blk_cell BK430.out 3).trans rfl, (blk_cell BK415.out 0).trans rfl, (blk_cell BK415.out 1).trans rfl, (blk_cell BK415.out 2).trans rfl, (blk_cell BK415.out 3).trans rfl, ((HB.out.cell (World.block_lt_of_cell? w _ hw431_0)).trans hw431_0)⟩ (fun hHeld => ?_)
      clear hK K
      refine norm_ (a' := ?_) ?_ ?_
      rotate_left
      ·show Act.put _ (some 28) _ = _
       simp only [Act.put, List.setIfInBounds_toArray, List.set_cons_zero, List.set_cons_succ, i64_w, i32_w]
       rfl
      refine pure_ (i := 9) (N := some 29) (v := ?_) (a' := ?_) #[true, true, true, true, true, true, true, true, true, true, false] rfl rfl (any_of HT_.out (by kernel_rfl)) (fun _ _ _ h => h) (Or.inl ⟨by rfl, ?_⟩) ?_ ?_
      rotate_left
      ·intro w'
       go_simp
       with_reducible rfl
      rotate_left
      ·simp only [Act.put, List.setIfInBounds_toArray, List.set_cons_zero, List.set_cons_succ, i64_w, i32_w]
       rfl
      refine last_ (i := 10) (N := none) #[true, true, true, true, true, true, true, true, true, true, true] rfl rfl (one_of HT_.out (by kernel_rfl)) (by decide) (fun K hK => ?_)
      have hs30 : w28.cell? ⟨gb430, 3, none⟩ = some (.slice Ao27 x431003_1.length co27) := (blk_cell BK430.out 3).trans rfl
      have hfs30 := blk_frozen BK430.out 3
      have hns30_0 := NB415_430.out
      have hns30_1 := NB416_430.out
      have hms30_0 := NB430_415.out
      have hms30_1 := NB430_416.out
      refine skip_ (w1 := ?_) (by rfl) rfl ?_ ?_
      rotate_left
      ·go_simp
       rfl
      refine hK.out _ _ ?_
      clear hK K
      refine done_ (done_of HT_.out (by kernel_rfl)) ?_
      try go_wp2
      go_roundg k1
      case measure => have := HK1.out; omega
      case rel => exact ⟨(wrap64 (x5_1 + 1)), (t432), (.slice Ao29 t432.length co29), (by first | rfl | (simp; done) | (simp [*]; done)), H', ⟨by have := HK1.out; omega⟩, ⟨rl (Kd.R_mono (Kd.R_far (p := ⟨gb430, 3, none⟩) (Kd.R_types HO_431000.out BK430.out (by decide)) (fun _ hk => hk.2) (.slice Ao29 t432.length co29)) (fun _ hk => by first | exact ⟨hk.1.1, ⟨hk.1.2.1, hk.1.2.2⟩⟩ | (simp only [ne_eq] at hk ⊢; simp only [hk, not_false_eq_true, and_self])))⟩, ⟨rl (Kd.R_mono (Kd.R_far (p := ⟨gb430, 3, none⟩) (Kd.R_types HO_431001.out BK430.out (by decide)) (fun _ hk => hk.2) (.slice Ao29 t432.length co29)) (fun _ hk => by first | exact ⟨hk.1.1, ⟨hk.1.2.1, hk.1.2.2⟩⟩ | (simp only [ne_eq] at hk ⊢; simp only [hk, not_false_eq_true, and_self])))⟩, ⟨rl (Kd.R_mono (Kd.R_far (p := ⟨gb430, 3, none⟩) (Kd.R_types HO_431002.out BK430.out (by decide)) (fun _ hk => hk.2) (.slice Ao29 t432.length co29)) (fun _ hk => by first | exact ⟨hk.1.1, ⟨hk.1.2.1, hk.1.2.2⟩⟩ | (simp only [ne_eq] at hk ⊢; simp only [hk, not_false_eq_true, and_self])))⟩, ⟨rl (Kd.R_mono (Kd.R_far (p := ⟨gb430, 3, none⟩) (Kd.R_types HO434.out BK430.out (by decide)) (fun _ hk => hk.2) (.slice Ao29 t432.length co29)) (fun _ hk => by first | exact ⟨hk.1.1, ⟨hk.1.2.1, hk.1.2.2⟩⟩ | (simp only [ne_eq] at hk ⊢; simp only [hk, not_false_eq_true, and_self])))⟩, ⟨kf1 NB415_430.out BK415.out⟩, ⟨kf1 NB416_430.out BK416.out⟩, ⟨by (with_reducible repeat (first | refine blk_drewN ?_ _ | refine blk_drew ?_ | refine blk_alloc ?_ _)); refine blk_put (cs := #[.slice Ao13 t418.length co13, .slice Ao17 t421.length co17, .slice Ao18 t424.length co18, .slice Ao27 x431003_1.length co27]) ?_ 3 _ rfl; (with_reducible repeat (first | refine blk_drewN ?_ _ | refine blk_drew ?_ | refine blk_alloc ?_ _)); exact BK430.out⟩, ⟨by exact bs3 GE415.out GE416.out GE430.out HB.out⟩⟩
     ·rw [if_neg c21] at H
      exact absurd H (by simp)
    ·rw [if_neg c20] at H
     have c20b0 : decide (x5_1 < (l0_2.length : Int)) = false := decide_eq_false c20
     clear c20
     simp only [Option.some.injEq, Prod.mk.injEq] at H
     obtain ⟨rfl, rfl, rfl, rfl, rfl⟩ := H
     have hnb31 := NB415_416.out
     have hnc31 := NB416_415.out
     have hnb32 := NB415_430.out
     have hnc32 := NB430_415.out
     obtain ⟨hcz33_0, hcz33_1, hcz33_2, hcz33_3, hfz33_0, hfz33_1, hfz33_2, hfz33_3⟩ := cf4 BK415
     have hnb34 := NB430_416.out
     have hnc34 := NB416_430.out
     obtain ⟨hcz35_0, hcz35_1, hcz35_2, hcz35_3, hfz35_0, hfz35_1, hfz35_2, hfz35_3⟩ := cf4 BK430
     obtain ⟨hcz36_0, hcz36_1, hcz36_2, hcz36_3, hfz36_0, hfz36_1, hfz36_2, hfz36_3⟩ := cf4 BK416
     obtain ⟨Ao37, co37, eo37⟩ := Kd.R_slice HO_431003.out
     subst eo37
     go_wp2
     refine bodyPost_ret (results_ct rfl _ _ gb416 30 #[.slice Ao13 t418.length co13, .slice Ao17 t421.length co17, .slice Ao18 t424.length co18, .slice Ao37 x431003_1.length co37] (0, 0) _ rfl (kp4 (kf0 BK416.out)) Try.underlying30 rfl (by kernel_rfl)) rfl ?_
     exact ⟨_, _, _, _, by first | rfl | (simp [errW_none, errW_some] <;> rfl) | (simp [*, errW_none, errW_some] <;> rfl), by exact ro (rg BK416 HO_431000), by exact ro (rg BK416 HO_431001), by exact ro (rg BK416 HO_431002), by exact ro (rg BK416 HO_431003), by exact bs3 GE415.out GE416.out GE430.out HB.out⟩
 ·replace c3 := Bool.eq_false_iff.mpr c3
  subst c3
  have H1 : (some (([] : List Int), ([] : List Int), ([] : List Int), ([] : List Int), false)) = some (r1, r2, r3, r4, r5) := by rw [if_neg (show ¬ (false = true) by decide)] at H; exact H
  clear H
  have H := H1
  clear H1
  simp only [Option.some.injEq, Prod.mk.injEq] at H
  obtain ⟨rfl, rfl, rfl, rfl, rfl⟩ := H
  go_enter Try.func24, Try.ntmps24
  go_wp2_with (first | ((with_reducible refine gate_dst (N := 1) rfl ?_); refine box_event ?hg (N := 1) ?hd (cs := #[.slice A0_0 l0_0.length c0_0, .slice A0_1 l0_1.length c0_1, .slice A0_2 l0_2.length c0_2, .slice A0_3 l0_3.length c0_3]) (t := 30) ?hr ?_; (case hd => rfl); (case hg => rfl); (case hr => first | (go_simp; done) | (go_simp; rfl)); intro gb415 hg w38 hbox hb; have BK415 := am (hbox); have GW415 := am ((by rw [hg]; exact (below_size (bl HB.out)) : w.heap.size ≤ gb415)); have GE415 := am ((by rw [hg]; exact (below_size (bl HB.out)) : w.heap.size ≤ gb415)); replace HB := am (below_step (bl HB.out) hb); clear hb hbox hg) | ((with_reducible refine gate_dst (N := 2) rfl ?_); refine box_event ?hg (N := 2) ?hd (cs := #[.slice none 0 0, .slice none 0 0, .slice none 0 0, .slice none 0 0]) (t := 30) ?hr ?_; (case hd => rfl); (case hg => rfl); (case hr => first | (go_simp; done) | (go_simp; rfl)); intro gb416 hg w39 hbox hb; have BK416 := am (hbox); have GW416 := am ((by rw [hg]; exact (below_size (bs1 GE415.out HB.out)) : w.heap.size ≤ gb416)); have GE416 := am ((by rw [hg]; exact (below_size (bs1 GE415.out HB.out)) : w.heap.size ≤ gb416)); replace HB := am (below_step (bs1 GE415.out HB.out) hb); have NB415_416 := nb BK415 hg; have NB416_415 := nc BK415 hg; replace BK415 := bb BK415 hb; clear hb hbox hg; have hnb40 := NB415_416.out; have hnc40 := NB416_415.out; obtain ⟨hcz41_0, hcz41_1, hcz41_2, hcz41_3, hfz41_0, hfz41_1, hfz41_2, hfz41_3⟩ := cf4 BK415) | ((with_reducible refine gate_callee (f := 36) rfl ?_); refine gL (some 7) rfl rfl Try.func36 (by kernel_rfl) rfl #[.agg #[.slice A0_0 l0_0.length c0_0, .slice A0_1 l0_1.length c0_1, .slice A0_2 l0_2.length c0_2, .slice A0_3 l0_3.length c0_3]] rfl ?_; (with_reducible refine (spec_ColoredValid.calls k _ _ l0_0 _ _ l0_1 _ _ l0_2 _ _ l0_3 false _ ?side1 ?side2 ?side3 ?side4 ?side5 ?side6 ?side7 ?side8 A2.out).mono ?_); (case side1 => exact ci HR0_0 HB); (case side2 => exact HC0_0.out); (case side3 => exact ci HR0_1 HB); (case side4 => exact HC0_1.out); (case side5 => exact ci HR0_2 HB); (case side6 => exact HC0_2.out); (case side7 => exact ci HR0_3 HB); (case side8 => exact HC0_3.out); rintro e w42 ⟨rfl, hb⟩; refine ⟨_, rfl, ?_⟩; replace BK415 := bb BK415 hb; replace BK416 := bb BK416 hb; replace HB := am (below_step (bs2 GE415.out GE416.out HB.out) hb); (try clear hb); obtain ⟨hcz43_0, hcz43_1, hcz43_2, hcz43_3, hfz43_0, hfz43_1, hfz43_2, hfz43_3⟩ := cf4 BK416))
  refine bodyPost_ret (results_ct rfl _ _ gb416 30 #[.slice none 0 0, .slice none 0 0, .slice none 0 0, .slice none 0 0] (0, 0) _ rfl (kp4 (kf0 BK416.out)) Try.underlying30 rfl (by kernel_rfl)) rfl ?_
  exact ⟨_, _, _, _, by first | rfl | (simp [errW_none, errW_some] <;> rfl) | (simp [*, errW_none, errW_some] <;> rfl), by first | exact Kd.R_nil _ _ _ _ _ | exact Kd.N_nil _ _ _ _ _ | exact Kd.V_nil _ _ _ _ _ | exact Kd.Q_nil _ _ _ _ _ | exact Kd.S_nil _ _ _ _ _, by first | exact Kd.R_nil _ _ _ _ _ | exact Kd.N_nil _ _ _ _ _ | exact Kd.V_nil _ _ _ _ _ | exact Kd.Q_nil _ _ _ _ _ | exact Kd.S_nil _ _ _ _ _, by first | exact Kd.R_nil _ _ _ _ _ | exact Kd.N_nil _ _ _ _ _ | exact Kd.V_nil _ _ _ _ _ | exact Kd.Q_nil _ _ _ _ _ | exact Kd.S_nil _ _ _ _ _, by first | exact Kd.R_nil _ _ _ _ _ | exact Kd.N_nil _ _ _ _ _ | exact Kd.V_nil _ _ _ _ _ | exact Kd.Q_nil _ _ _ _ _ | exact Kd.S_nil _ _ _ _ _, by exact bs2 GE415.out GE416.out HB.out⟩

end Go.Proofs.Ytkbaggfkidalfaa.A
