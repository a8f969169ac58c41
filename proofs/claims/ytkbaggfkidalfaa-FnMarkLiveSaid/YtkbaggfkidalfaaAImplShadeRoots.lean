/- Contracts of functions of the given program (AImplShadeRoots). No conditions beyond those stated. -/
import Derived.Test.YtkbaggfkidalfaaA0
import Derived.Test.YtkbaggfkidalfaaAImplColoredValid
import Derived.Test.YtkbaggfkidalfaaAImplFresh
import Derived.Test.YtkbaggfkidalfaaAImplShade
import Derived.Test.YtkbaggfkidalfaaA0
namespace Go.Proofs.Ytkbaggfkidalfaa.A
open Go.RowKit Go.Proofs.YtkbaggfkidalfaaW.PrintWords Go.Proofs.YtkbaggfkidalfaaW.PrintLast Go.Proofs.YtkbaggfkidalfaaW.PrintMore
attribute [local go_sem] max2_int min2_int max_two min_two max_three min_three max_four min_four   -- for this text's walks alone
set_option linter.unusedVariables false
set_option linter.unusedSimpArgs false

/-! ### impl_ShadeRoots -/
def impl_ShadeRoots.l0 : Nat → List Int → Int → Int → List Int → List Int → List Int → List Int → Option (List Int × List Int × List Int × List Int × Bool)
 | 0, _, _, _, _, _, _, _ => none
 | k + 1, x14, x15, x16, x436000, x436001, x436002, x436003 => if x16 < x15 then (if 0 ≤ x16 then (if x16 < (x14.length : Int) then ((impl_shade.f x436003 (rd x14 x16)).bind fun t451 => (impl_ShadeRoots.l0 k x14 x15 (wrap64 (x16 + 1)) x436000 x436001 x436002 t451)) else (none)) else (none)) else (some (x436000, x436001, x436002, x436003, true))
def impl_ShadeRoots.f (k : Nat) (l0_0 : List Int) (l0_1 : List Int) (l0_2 : List Int) (l0_3 : List Int) : Option (List Int × List Int × List Int × List Int × Bool) := (impl_ColoredValid.f k l0_0 l0_1 l0_2 l0_3).bind fun t437 => (if t437 = true then ((impl_fresh.f l0_0 l0_1 l0_2 l0_3).bind fun bt438 => (impl_ShadeRoots.l0 k bt438.2.2.1 (bt438.2.2.1.length : Int) 0 bt438.1 bt438.2.1 bt438.2.2.1 bt438.2.2.2)) else (some (([] : List Int), ([] : List Int), ([] : List Int), ([] : List Int), false)))
theorem impl_ShadeRoots.mono_l : ∀ k, (∀ y0 y1 y2 y3 y4 y5 y6, LeO (impl_ShadeRoots.l0 k y0 y1 y2 y3 y4 y5 y6) (impl_ShadeRoots.l0 (k + 1) y0 y1 y2 y3 y4 y5 y6))
 | 0 => fun _ _ _ _ _ _ _ r h => by simp [impl_ShadeRoots.l0] at h
 | k + 1 => by
  have ih0 := impl_ShadeRoots.mono_l k
  ·intro y0 y1 y2 y3 y4 y5 y6
   unfold impl_ShadeRoots.l0
   repeat' first
   | (with_reducible exact ih0 _ _ _ _ _ _ _)
   | (with_reducible exact impl_ColoredValid.mono _ _ _ _ _)
   | (with_reducible exact LeO.refl _)
   | (with_reducible exact LeO.none _)
   | (with_reducible refine LeO.ite ?_ ?_)
   | (with_reducible refine LeO.bind ?_ (fun _ => ?_))
   | exact ih0 _ _ _ _ _ _ _
   | exact impl_ColoredValid.mono _ _ _ _ _
   | exact LeO.none _
   | refine LeO.ite ?_ ?_
   | refine LeO.bind ?_ (fun _ => ?_)
theorem impl_ShadeRoots.mono : ∀ a0 a1 a2 a3 k, LeO (impl_ShadeRoots.f k a0 a1 a2 a3) (impl_ShadeRoots.f (k + 1) a0 a1 a2 a3) := by
 intro a0 a1 a2 a3 k
 have ih0 := impl_ShadeRoots.mono_l k
 unfold impl_ShadeRoots.f
 repeat' first
   | (with_reducible exact ih0 _ _ _ _ _ _ _)
   | (with_reducible exact impl_ColoredValid.mono _ _ _ _ _)
   | (with_reducible exact LeO.refl _)
   | (with_reducible exact LeO.none _)
   | (with_reducible refine LeO.ite ?_ ?_)
   | (with_reducible refine LeO.bind ?_ (fun _ => ?_))
   | exact ih0 _ _ _ _ _ _ _
   | exact impl_ColoredValid.mono _ _ _ _ _
   | exact LeO.none _
   | refine LeO.ite ?_ ?_
   | refine LeO.bind ?_ (fun _ => ?_)
set_option maxHeartbeats 8000000 in
set_option maxRecDepth 100000 in
theorem impl_ShadeRoots.calls (k : Nat) (A0_0 : Option Addr) (c0_0 : Nat) (l0_0 : List Int) (A0_1 : Option Addr) (c0_1 : Nat) (l0_1 : List Int) (A0_2 : Option Addr) (c0_2 : Nat) (l0_2 : List Int) (A0_3 : Option Addr) (c0_3 : Nat) (l0_3 : List Int) (r1 : List Int) (r2 : List Int) (r3 : List Int) (r4 : List Int) (r5 : Bool) (w : World) (hr0_0 : Kd.C (Kd.int .i64) w A0_0 l0_0.length l0_0) (hc0_0 : l0_0.length ≤ c0_0) (hr0_1 : Kd.C (Kd.int .i64) w A0_1 l0_1.length l0_1) (hc0_1 : l0_1.length ≤ c0_1) (hr0_2 : Kd.C (Kd.int .i64) w A0_2 l0_2.length l0_2) (hc0_2 : l0_2.length ≤ c0_2) (hr0_3 : Kd.C (Kd.int .i64) w A0_3 l0_3.length l0_3) (hc0_3 : l0_3.length ≤ c0_3) (h : impl_ShadeRoots.f k l0_0 l0_1 l0_2 l0_3 = some (r1, r2, r3, r4, r5)) :
  Calls Try.prog 25 #[.agg #[.slice A0_0 l0_0.length c0_0, .slice A0_1 l0_1.length c0_1, .slice A0_2 l0_2.length c0_2, .slice A0_3 l0_3.length c0_3]] w fun e w' => ∃ v0_ v1_ v2_ v3_ : Value, e = .returned (.tuple #[.agg #[v0_, v1_, v2_, v3_], .bool r5]) ∧ Kd.R (Kd.int .i64) 3 w' w.heap.size (fun k_ => some k_ ≠ (v1_ : Value).ownBlock ∧ some k_ ≠ (v2_ : Value).ownBlock ∧ some k_ ≠ (v3_ : Value).ownBlock) v0_ r1 ∧ Kd.R (Kd.int .i64) 3 w' w.heap.size (fun k_ => some k_ ≠ (v0_ : Value).ownBlock ∧ some k_ ≠ (v2_ : Value).ownBlock ∧ some k_ ≠ (v3_ : Value).ownBlock) v1_ r2 ∧ Kd.R (Kd.int .i64) 3 w' w.heap.size (fun k_ => some k_ ≠ (v0_ : Value).ownBlock ∧ some k_ ≠ (v1_ : Value).ownBlock ∧ some k_ ≠ (v3_ : Value).ownBlock) v2_ r3 ∧ Kd.R (Kd.int .i64) 3 w' w.heap.size (fun k_ => some k_ ≠ (v0_ : Value).ownBlock ∧ some k_ ≠ (v1_ : Value).ownBlock ∧ some k_ ≠ (v2_ : Value).ownBlock) v3_ r4 ∧ Below w.heap.size w w' := by
 have hu30 := Try.underlying30
 have HR0_0 := am hr0_0
 have HC0_0 := am hc0_0
 clear hr0_0 hc0_0
 have HR0_1 := am hr0_1
 have HC0_1 := am hc0_1
 clear hr0_1 hc0_1
 have HR0_2 := am hr0_2
 have HC0_2 := am hc0_2
 clear hr0_2 hc0_2
 have HR0_3 := am hr0_3
 have HC0_3 := am hc0_3
 clear hr0_3 hc0_3
 have HB := am (Below.refl w.heap.size w)
 have H : ((impl_ColoredValid.f k l0_0 l0_1 l0_2 l0_3).bind fun t437 => (if t437 = true then ((impl_fresh.f l0_0 l0_1 l0_2 l0_3).bind fun bt438 => (impl_ShadeRoots.l0 k bt438.2.2.1 (bt438.2.2.1.length : Int) 0 bt438.1 bt438.2.1 bt438.2.2.1 bt438.2.2.2)) else (some (([] : List Int), ([] : List Int), ([] : List Int), ([] : List Int), false)))) = some (r1, r2, r3, r4, r5) := h
 clear h
 replace H := Option.bind_eq_some_iff.mp H
 obtain ⟨t437, A20, H⟩ := H
 replace H : (if t437 = true then ((impl_fresh.f l0_0 l0_1 l0_2 l0_3).bind fun bt438 => (impl_ShadeRoots.l0 k bt438.2.2.1 (bt438.2.2.1.length : Int) 0 bt438.1 bt438.2.1 bt438.2.2.1 bt438.2.2.2)) else (some (([] : List Int), ([] : List Int), ([] : List Int), ([] : List Int), false))) = some (r1, r2, r3, r4, r5) := H
 have A2 := am A20
 clear A20
 by_cases c3 : t437 = true
 ·subst c3
  have H1 : ((impl_fresh.f l0_0 l0_1 l0_2 l0_3).bind fun bt438 => (impl_ShadeRoots.l0 k bt438.2.2.1 (bt438.2.2.1.length : Int) 0 bt438.1 bt438.2.1 bt438.2.2.1 bt438.2.2.2)) = some (r1, r2, r3, r4, r5) := by rw [if_pos rfl] at H; exact H
  clear H
  have H := H1
  clear H1
  replace H := Option.bind_eq_some_iff.mp H
  obtain ⟨⟨t438, t441, t444, t447⟩, A40, H⟩ := H
  replace H : (impl_ShadeRoots.l0 k t444 (t444.length : Int) 0 t438 t441 t444 t447) = some (r1, r2, r3, r4, r5) := H
  have A4 := am A40
  clear A40
  have H' := am H
  clear H
  go_enter Try.func25, Try.ntmps25
  go_wp2_with (first | ((with_reducible refine gate_dst (N := 1) rfl ?_); refine box_event ?hg (N := 1) ?hd (cs := #[.slice A0_0 l0_0.length c0_0, .slice A0_1 l0_1.length c0_1, .slice A0_2 l0_2.length c0_2, .slice A0_3 l0_3.length c0_3]) (t := 30) ?hr ?_; (case hd => rfl); (case hg => rfl); (case hr => first | (go_simp; done) | (go_simp; rfl)); intro gb435 hg w5 hbox hb; have BK435 := am (hbox); have GW435 := am ((by rw [hg]; exact (below_size (bl HB.out)) : w.heap.size ≤ gb435)); have GE435 := am ((by rw [hg]; exact (below_size (bl HB.out)) : w.heap.size ≤ gb435)); replace HB := am (below_step (bl HB.out) hb); clear hb hbox hg) | ((with_reducible refine gate_dst (N := 2) rfl ?_); refine box_event ?hg (N := 2) ?hd (cs := #[.slice none 0 0, .slice none 0 0, .slice none 0 0, .slice none 0 0]) (t := 30) ?hr ?_; (case hd => rfl); (case hg => rfl); (case hr => first | (go_simp; done) | (go_simp; rfl)); intro gb436 hg w6 hbox hb; have BK436 := am (hbox); have GW436 := am ((by rw [hg]; exact (below_size (bs1 GE435.out HB.out)) : w.heap.size ≤ gb436)); have GE436 := am ((by rw [hg]; exact (below_size (bs1 GE435.out HB.out)) : w.heap.size ≤ gb436)); replace HB := am (below_step (bs1 GE435.out HB.out) hb); have NB435_436 := nb BK435 hg; have NB436_435 := nc BK435 hg; replace BK435 := bb BK435 hb; clear hb hbox hg; have hnb7 := NB435_436.out; have hnc7 := NB436_435.out; obtain ⟨hcz8_0, hcz8_1, hcz8_2, hcz8_3, hfz8_0, hfz8_1, hfz8_2, hfz8_3⟩ := cf4 BK435) | ((with_reducible refine gate_callee (f := 29) rfl ?_); refine gL (some 7) rfl rfl Try.func29 (by kernel_rfl) rfl #[.agg #[.slice A0_0 l0_0.length c0_0, .slice A0_1 l0_1.length c0_1, .slice A0_2 l0_2.length c0_2, .slice A0_3 l0_3.length c0_3]] rfl ?_; (with_reducible refine (impl_ColoredValid.calls k _ _ l0_0 _ _ l0_1 _ _ l0_2 _ _ l0_3 true _ ?side1 ?side2 ?side3 ?side4 ?side5 ?side6 ?side7 ?side8 A2.out).mono ?_); (case side1 => exact ci HR0_0 HB); (case side2 => exact HC0_0.out); (case side3 => exact ci HR0_1 HB); (case side4 => exact HC0_1.out); (case side5 => exact ci HR0_2 HB); (case side6 => exact HC0_2.out); (case side7 => exact ci HR0_3 HB); (case side8 => exact HC0_3.out); rintro e w9 ⟨rfl, hb⟩; refine ⟨_, rfl, ?_⟩; replace BK435 := bb BK435 hb; replace BK436 := bb BK436 hb; replace HB := am (below_step (bs2 GE435.out GE436.out HB.out) hb); (try clear hb); obtain ⟨hcz10_0, hcz10_1, hcz10_2, hcz10_3, hfz10_0, hfz10_1, hfz10_2, hfz10_3⟩ := cf4 BK435) | ((with_reducible refine gate_callee (f := 60) rfl ?_); refine gL (some 11) rfl rfl Try.func60 (by kernel_rfl) rfl #[.agg #[.slice A0_0 l0_0.length c0_0, .slice A0_1 l0_1.length c0_1, .slice A0_2 l0_2.length c0_2, .slice A0_3 l0_3.length c0_3]] rfl ?_; (with_reducible refine (impl_fresh.calls _ _ l0_0 _ _ l0_1 _ _ l0_2 _ _ l0_3 t438 t441 t444 t447 _ ?side1 ?side2 ?side3 ?side4 ?side5 ?side6 ?side7 ?side8 A4.out).mono ?_); (case side1 => exact ci HR0_0 HB); (case side2 => exact HC0_0.out); (case side3 => exact ci HR0_1 HB); (case side4 => exact HC0_1.out); (case side5 => exact ci HR0_2 HB); (case side6 => exact HC0_2.out); (case side7 => exact ci HR0_3 HB); (case side8 => exact HC0_3.out); rintro e w11 ⟨v439, v442, v445, v448, rfl, ho0, ho1, ho2, ho3, hb⟩; refine ⟨_, rfl, ?_⟩; have HO440 := ln0 ho0 (bs2 GE435.out GE436.out HB.out); have HO443 := ln0 ho1 (bs2 GE435.out GE436.out HB.out); have HO446 := ln0 ho2 (bs2 GE435.out GE436.out HB.out); have HO449 := ln0 ho3 (bs2 GE435.out GE436.out HB.out); replace BK435 := bb BK435 hb; replace BK436 := bb BK436 hb; replace HB := am (below_step (bs2 GE435.out GE436.out HB.out) hb); (try clear hb ho0 ho1 ho2 ho3); obtain ⟨Ao12, co12, eo12⟩ := Kd.R_slice HO440.out; subst eo12; obtain ⟨hcz13_0, hcz13_1, hcz13_2, hcz13_3, hfz13_0, hfz13_1, hfz13_2, hfz13_3⟩ := cf4 BK435; obtain ⟨Ao14, co14, eo14⟩ := Kd.R_slice HO443.out; subst eo14; obtain ⟨Ao15, co15, eo15⟩ := Kd.R_slice HO446.out; subst eo15; obtain ⟨Ao16, co16, eo16⟩ := Kd.R_slice HO449.out; subst eo16))
  go_loopg [16] k (fun kq v16 w' => ∃ (x14_1 : List Int) (x16_1 : Int) (x436000_1 : List Int) (x436001_1 : List Int) (x436002_1 : List Int) (x436003_1 : List Int) (u436000 : Value) (u436001 : Value) (u436002 : Value) (u436003 : Value), v16 = .int .i64 x16_1 ∧ Aside0 (impl_ShadeRoots.l0 kq x14_1 (t444.length : Int) x16_1 x436000_1 x436001_1 x436002_1 x436003_1 = some (r1, r2, r3, r4, r5)) ∧ Aside0 (kq ≤ k) ∧ Aside0 (Kd.R (Kd.int .i64) 3 w' w.heap.size (fun k_ => some k_ ≠ (u436000 : Value).ownBlock ∧ some k_ ≠ (u436001 : Value).ownBlock ∧ some k_ ≠ (u436003 : Value).ownBlock) (.slice Ao15 t444.length co15) x14_1) ∧ Aside0 (Kd.R (Kd.int .i64) 3 w' w.heap.size (fun k_ => some k_ ≠ ((.slice Ao15 t444.length co15) : Value).ownBlock ∧ some k_ ≠ (u436001 : Value).ownBlock ∧ some k_ ≠ (u436002 : Value).ownBlock ∧ some k_ ≠ (u436003 : Value).ownBlock) u436000 x436000_1) ∧ Aside0 (Kd.R (Kd.int .i64) 3 w' w.heap.size (fun k_ => some k_ ≠ ((.slice Ao15 t444.length co15) : Value).ownBlock ∧ some k_ ≠ (u436000 : Value).ownBlock ∧ some k_ ≠ (u436002 : Value).ownBlock ∧ some k_ ≠ (u436003 : Value).ownBlock) u436001 x436001_1) ∧ Aside0 (Kd.R (Kd.int .i64) 3 w' w.heap.size (fun k_ => some k_ ≠ (u436000 : Value).ownBlock ∧ some k_ ≠ (u436001 : Value).ownBlock ∧ some k_ ≠ (u436003 : Value).ownBlock) u436002 x436002_1) ∧ Aside0 (Kd.R (Kd.int .i64) 3 w' w.heap.size (fun k_ => some k_ ≠ ((.slice Ao15 t444.length co15) : Value).ownBlock ∧ some k_ ≠ (u436000 : Value).ownBlock ∧ some k_ ≠ (u436001 : Value).ownBlock ∧ some k_ ≠ (u436002 : Value).ownBlock) u436003 x436003_1) ∧ Aside0 (w'.heap[gb435]? = some (.cells #[u436000, u436001, u436002, u436003] 30 (0, 0))) ∧ Aside0 (w'.heap[gb436]? = some (.cells #[(.slice none 0 0), (.slice none 0 0), (.slice none 0 0), (.slice none 0 0)] 30 (0, 0))) ∧ Aside0 (Below w.heap.size w w'))
  case atStart => exact ⟨(t444), (0), (t438), (t441), (t444), (t447), (.slice Ao12 t438.length co12), (.slice Ao14 t441.length co14), (.slice Ao15 t444.length co15), (.slice Ao16 t447.length co16), (by first | rfl | (simp; done) | (simp [*]; done)), H', ⟨Nat.le_refl _⟩, ⟨rl (Kd.R_mono (Kd.R_far (p := ⟨gb435, 3, none⟩) (Kd.R_far (p := ⟨gb435, 2, none⟩) (Kd.R_far (p := ⟨gb435, 1, none⟩) (Kd.R_far (p := ⟨gb435, 0, none⟩) (Kd.R_types HO446.out BK435.out (by decide)) (fun _ hk => hk.2) (.slice Ao12 t438.length co12)) (fun _ hk => hk.2) (.slice Ao14 t441.length co14)) (fun _ hk => hk.2) (.slice Ao15 t444.length co15)) (fun _ hk => hk.2) (.slice Ao16 t447.length co16)) (fun _ hk => by first | exact ⟨hk.1.1, ⟨hk.1.2.1, hk.1.2.2⟩⟩ | (simp only [ne_eq] at hk ⊢; simp only [hk, not_false_eq_true, and_self])))⟩, ⟨rl (Kd.R_mono (Kd.R_far (p := ⟨gb435, 3, none⟩) (Kd.R_far (p := ⟨gb435, 2, none⟩) (Kd.R_far (p := ⟨gb435, 1, none⟩) (Kd.R_far (p := ⟨gb435, 0, none⟩) (Kd.R_types HO440.out BK435.out (by decide)) (fun _ hk => hk.2) (.slice Ao12 t438.length co12)) (fun _ hk => hk.2) (.slice Ao14 t441.length co14)) (fun _ hk => hk.2) (.slice Ao15 t444.length co15)) (fun _ hk => hk.2) (.slice Ao16 t447.length co16)) (fun _ hk => by first | exact ⟨hk.1.2.1, ⟨hk.1.1, ⟨hk.1.2.1, hk.1.2.2⟩⟩⟩ | (simp only [ne_eq] at hk ⊢; simp only [hk, not_false_eq_true, and_self])))⟩, ⟨rl (Kd.R_mono (Kd.R_far (p := ⟨gb435, 3, none⟩) (Kd.R_far (p := ⟨gb435, 2, none⟩) (Kd.R_far (p := ⟨gb435, 1, none⟩) (Kd.R_far (p := ⟨gb435, 0, none⟩) (Kd.R_types HO443.out BK435.out (by decide)) (fun _ hk => hk.2) (.slice Ao12 t438.length co12)) (fun _ hk => hk.2) (.slice Ao14 t441.length co14)) (fun _ hk => hk.2) (.slice Ao15 t444.length co15)) (fun _ hk => hk.2) (.slice Ao16 t447.length co16)) (fun _ hk => by first | exact ⟨hk.1.2.1, ⟨hk.1.1, ⟨hk.1.2.1, hk.1.2.2⟩⟩⟩ | (simp only [ne_eq] at hk ⊢; simp only [hk, not_false_eq_true, and_self])))⟩, ⟨rl (Kd.R_mono (Kd.R_far (p := ⟨gb435, 3, none⟩) (Kd.R_far (p := ⟨gb435, 2, none⟩) (Kd.R_far (p := ⟨gb435, 1, none⟩) (Kd.R_far (p := ⟨gb435, 0, none⟩) (Kd.R_types HO446.out BK435.out (by decide)) (fun _ hk => hk.2) (.slice Ao12 t438.length co12)) (fun _ hk => hk.2) (.slice Ao14 t441.length co14)) (fun _ hk => hk.2) (.slice Ao15 t444.length co15)) (fun _ hk => hk.2) (.slice Ao16 t447.length co16)) (fun _ hk => by first | exact ⟨hk.1.1, ⟨hk.1.2.1, hk.1.2.2⟩⟩ | (simp only [ne_eq] at hk ⊢; simp only [hk, not_false_eq_true, and_self])))⟩, ⟨rl (Kd.R_mono (Kd.R_far (p := ⟨gb435, 3, none⟩) (Kd.R_far (p := ⟨gb435, 2, none⟩) (Kd.R_far (p := ⟨gb435, 1, none⟩) (Kd.R_far (p := ⟨gb435, 0, none⟩) (Kd.R_types HO449.out BK435.out (by decide)) (fun _ hk => hk.2) (.slice Ao12 t438.length co12)) (fun _ hk => hk.2) (.slice Ao14 t441.length co14)) (fun _ hk => hk.2) (.slice Ao15 t444.length co15)) (fun _ hk => hk.2) (.slice Ao16 t447.length co16)) (fun _ hk => by first | exact ⟨hk.1.2.2, ⟨hk.1.1, ⟨hk.1.2.1, hk.1.2.2⟩⟩⟩ | (simp only [ne_eq] at hk ⊢; simp only [hk, not_false_eq_true, and_self])))⟩, ⟨kp4 (kf0 BK435.out)⟩, ⟨kf1 NB436_435.out BK436.out⟩, ⟨by exact bs2 GE435.out GE436.out HB.out⟩⟩
  case round =>
   clear H'
   try clear c2
   try clear p2
   try clear c3
   try clear c6
   try clear c7
   obtain ⟨x14_1, x16_1, x436000_1, x436001_1, x436002_1, x436003_1, u436000, u436001, u436002, u436003, rfl, HA, HK1, HO_14, HO_436000, HO_436001, HO_436002, HO_436003, BK435, BK436, HB⟩ := hrel
   have hl14_1 := (Kd.R_reads' HO_14.out).1
   rw [hl14_1] at HO_14
   (try simp only [hl14_1])
   (try simp only [hl14_1] at BK435)
   (try simp only [hl14_1] at BK436)
   (try simp only [hl14_1] at HO_436000)
   (try simp only [hl14_1] at HO_436001)
   (try simp only [hl14_1] at HO_436002)
   (try simp only [hl14_1] at HO_436003)
   cases gk with
   | zero => exact absurd HA.out (by simp [impl_ShadeRoots.l0])
   | succ k1 =>
    have H := HA.out
    clear HA
    simp only [impl_ShadeRoots.l0] at H
    by_cases c17 : x16_1 < (t444.length : Int)
    ·rw [if_pos c17] at H
     have c17b0 : decide (x16_1 < (t444.length : Int)) = true := decide_eq_true c17
     clear c17
     by_cases c18 : 0 ≤ x16_1
     ·rw [if_pos c18] at H
      have c18b0 : decide (0 ≤ x16_1) = true := decide_eq_true c18
      clear c18
      by_cases c19 : x16_1 < (x14_1.length : Int)
      ·rw [if_pos c19] at H
       have c19b0 : decide (x16_1 < (x14_1.length : Int)) = true := decide_eq_true c19
       clear c19
       replace H := Option.bind_eq_some_iff.mp H
       obtain ⟨t451, A200, H⟩ := H
       replace H : (impl_ShadeRoots.l0 k1 x14_1 (t444.length : Int) (wrap64 (x16_1 + 1)) x436000_1 x436001_1 x436002_1 t451) = some (r1, r2, r3, r4, r5) := H
       have A20 := am A200
       clear A200
       have H' := am H
       clear H
       have p450 : 0 ≤ (x16_1 : Int) := of_decide_eq_true (by first | (with_reducible assumption) | assumption)
       have q450 : x16_1 < (x14_1.length : Int) := of_decide_eq_true (by first | (with_reducible assumption) | assumption)
       obtain ⟨ad450, e450, hx450_0⟩ := Kd.at_int (Kd.R_reads' HO_14.out).2.2 x16_1 p450 q450
       cases e450
       replace p450 := eq_true p450
       replace q450 := eq_true q450
       have hnb21 := NB435_436.out
       have hnc21 := NB436_435.out
       obtain ⟨hcz22_0, hcz22_1, hcz22_2, hcz22_3, hfz22_0, hfz22_1, hfz22_2, hfz22_3⟩ := cf4 BK435
       obtain ⟨Ao23, co23, eo23⟩ := Kd.R_slice HO_436003.out
       subst eo23
       go_wp2_with (first | ((with_reducible refine gate_callee (f := 61) rfl ?_); refine gL (some 23) rfl rfl Try.func61 (by kernel_rfl) rfl #[.slice Ao23 x436003_1.length co23, .int .i64 (rd x14_1 x16_1)] rfl ?_; (with_reducible refine (impl_shade.calls (fun k_ => some k_ = (.slice Ao23 x436003_1.length co23 : Value).ownBlock) (.slice Ao23 x436003_1.length co23) x436003_1 (rd x14_1 x16_1) t451 w _ ?side1 ?side2 A20.out).mono ?_); (case side1 => exact bs2 GE435.out GE436.out HB.out); (case side2 => exact Kd.R_tight rfl HO_436003.out); rintro e w24 ⟨rfl, hy0, hb, hkp⟩; refine ⟨_, rfl, ?_⟩; replace HO_14 := am (Kd.R_kept (HO_14.out) hkp (fun k_ hk_ hs_ => (hk_.2.2) hs_)); replace HO_436000 := am (Kd.R_kept (HO_436000.out) hkp (fun k_ hk_ hs_ => (hk_.2.2.2) hs_)); replace HO_436001 := am (Kd.R_kept (HO_436001.out) hkp (fun k_ hk_ hs_ => (hk_.2.2.2) hs_)); replace HO_436002 := am (Kd.R_kept (HO_436002.out) hkp (fun k_ hk_ hs_ => (hk_.2.2) hs_)); replace BK435 := am (blk_kept (kl BK435.out) hkp (fun hs_ => (fun e_ => (Kd.R_ne HO_436003.out BK435.out (by decide)) e_) hs_)); replace BK436 := am (blk_kept (kl BK436.out) hkp (fun hs_ => (fun e_ => (Kd.R_ne HO_436003.out BK436.out (by decide)) e_) hs_)); replace HO_436003 := am (Kd.R_reok rfl hy0 (fun k_ e_ => HO_436003.out.1 k_ e_)); replace HB := am (hb); (try clear hb hkp hy0)))
       (try simp only [← hl14_1])
       go_roundg k1
       case measure => have := HK1.out; omega
       case rel => exact ⟨(x14_1), (wrap64 (x16_1 + 1)), (x436000_1), (x436001_1), (x436002_1), (t451), (u436000), (u436001), (u436002), (.slice Ao23 x436003_1.length co23), (by first | rfl | (simp; done) | (simp [*]; done)), H', ⟨by have := HK1.out; omega⟩, ⟨by (try simp only [hl14_1]); (with_reducible repeat (first | apply Kd.R_alloc | apply Kd.R_drewN | apply Kd.R_drew)); exact HO_14.out⟩, ⟨by (try simp only [hl14_1]); (with_reducible repeat (first | apply Kd.R_alloc | apply Kd.R_drewN | apply Kd.R_drew)); exact HO_436000.out⟩, ⟨by (try simp only [hl14_1]); (with_reducible repeat (first | apply Kd.R_alloc | apply Kd.R_drewN | apply Kd.R_drew)); exact HO_436001.out⟩, ⟨by (try simp only [hl14_1]); (with_reducible repeat (first | apply Kd.R_alloc | apply Kd.R_drewN | apply Kd.R_drew)); exact HO_436002.out⟩, ⟨by (try simp only [hl14_1]); (with_reducible repeat (first | apply Kd.R_alloc | apply Kd.R_drewN | apply Kd.R_drew)); exact HO_436003.out⟩, ⟨by (try simp only [hl14_1]); (with_reducible repeat (first | refine blk_drewN ?_ _ | refine blk_drew ?_ | refine blk_alloc ?_ _)); exact BK435.out⟩, ⟨by (try simp only [hl14_1]); (with_reducible repeat (first | refine blk_drewN ?_ _ | refine blk_drew ?_ | refine blk_alloc ?_ _)); exact BK436.out⟩, ⟨by exact bs2 GE435.out GE436.out HB.out⟩⟩
      ·rw [if_neg c19] at H
       exact absurd H (by simp)
     ·rw [if_neg c18] at H
      exact absurd H (by simp)
    ·rw [if_neg c17] at H
     have c17b0 : decide (x16_1 < (t444.length : Int)) = false := decide_eq_false c17
     (try simp only [hl14_1] at c17b0)
     clear c17
     simp only [Option.some.injEq, Prod.mk.injEq] at H
     obtain ⟨rfl, rfl, rfl, rfl, rfl⟩ := H
     have hnb25 := NB435_436.out
     have hnc25 := NB436_435.out
     obtain ⟨hcz26_0, hcz26_1, hcz26_2, hcz26_3, hfz26_0, hfz26_1, hfz26_2, hfz26_3⟩ := cf4 BK435
     obtain ⟨Ao27, co27, eo27⟩ := Kd.R_slice HO_436000.out
     subst eo27
     obtain ⟨hcz28_0, hcz28_1, hcz28_2, hcz28_3, hfz28_0, hfz28_1, hfz28_2, hfz28_3⟩ := cf4 BK436
     obtain ⟨Ao29, co29, eo29⟩ := Kd.R_slice HO_436001.out
     subst eo29
     obtain ⟨Ao30, co30, eo30⟩ := Kd.R_slice HO_436002.out
     subst eo30
     obtain ⟨Ao31, co31, eo31⟩ := Kd.R_slice HO_436003.out
     subst eo31
     go_wp2
     refine bodyPost_ret (results_ct rfl _ _ gb436 30 #[.slice Ao27 x436000_1.length co27, .slice Ao29 x436001_1.length co29, .slice Ao30 x436002_1.length co30, .slice Ao31 x436003_1.length co31] (0, 0) _ rfl (kp4 (kf0 BK436.out)) Try.underlying30 rfl (by kernel_rfl)) rfl ?_
     exact ⟨_, _, _, _, by first | rfl | (simp [errW_none, errW_some] <;> rfl) | (simp [*, errW_none, errW_some] <;> rfl), by exact ro (rg BK436 HO_436000), by exact ro (rg BK436 HO_436001), by exact ro (rg BK436 HO_436002), by exact ro (rg BK436 HO_436003), by exact bs2 GE435.out GE436.out HB.out⟩
 ·replace c3 := Bool.eq_false_iff.mpr c3
  subst c3
  have H1 : (some (([] : List Int), ([] : List Int), ([] : List Int), ([] : List Int), false)) = some (r1, r2, r3, r4, r5) := by rw [if_neg (show ¬ (false = true) by decide)] at H; exact H
  clear H
  have H := H1
  clear H1
  simp only [Option.some.injEq, Prod.mk.injEq] at H
  obtain ⟨rfl, rfl, rfl, rfl, rfl⟩ := H
  go_enter Try.func25, Try.ntmps25
  go_wp2_with (first | ((with_reducible refine gate_dst (N := 1) rfl ?_); refine box_event ?hg (N := 1) ?hd (cs := #[.slice A0_0 l0_0.length c0_0, .slice A0_1 l0_1.length c0_1, .slice A0_2 l0_2.length c0_2, .slice A0_3 l0_3.length c0_3]) (t := 30) ?hr ?_; (case hd => rfl); (case hg => rfl); (case hr => first | (go_simp; done) | (go_simp; rfl)); intro gb435 hg w32 hbox hb; have BK435 := am (hbox); have GW435 := am ((by rw [hg]; exact (below_size (bl HB.out)) : w.heap.size ≤ gb435)); have GE435 := am ((by rw [hg]; exact (below_size (bl HB.out)) : w.heap.size ≤ gb435)); replace HB := am (below_step (bl HB.out) hb); clear hb hbox hg) | ((with_reducible refine gate_dst (N := 2) rfl ?_); refine box_event ?hg (N := 2) ?hd (cs := #[.slice none 0 0, .slice none 0 0, .slice none 0 0, .slice none 0 0]) (t := 30) ?hr ?_; (case hd => rfl); (case hg => rfl); (case hr => first | (go_simp; done) | (go_simp; rfl)); intro gb436 hg w33 hbox hb; have BK436 := am (hbox); have GW436 := am ((by rw [hg]; exact (below_size (bs1 GE435.out HB.out)) : w.heap.size ≤ gb436)); have GE436 := am ((by rw [hg]; exact (below_size (bs1 GE435.out HB.out)) : w.heap.size ≤ gb436)); replace HB := am (below_step (bs1 GE435.out HB.out) hb); have NB435_436 := nb BK435 hg; have NB436_435 := nc BK435 hg; replace BK435 := bb BK435 hb; clear hb hbox hg; have hnb34 := NB435_436.out; have hnc34 := NB436_435.out; obtain ⟨hcz35_0, hcz35_1, hcz35_2, hcz35_3, hfz35_0, hfz35_1, hfz35_2, hfz35_3⟩ := cf4 BK435) | ((with_reducible refine gate_callee (f := 29) rfl ?_); refine gL (some 7) rfl rfl Try.func29 (by kernel_rfl) rfl #[.agg #[.slice A0_0 l0_0.length c0_0, .slice A0_1 l0_1.length c0_1, .slice A0_2 l0_2.length c0_2, .slice A0_3 l0_3.length c0_3]] rfl ?_; (with_reducible refine (impl_ColoredValid.calls k _ _ l0_0 _ _ l0_1 _ _ l0_2 _ _ l0_3 false _ ?side1 ?side2 ?side3 ?side4 ?side5 ?side6 ?side7 ?side8 A2.out).mono ?_); (case side1 => exact ci HR0_0 HB); (case side2 => exact HC0_0.out); (case side3 => exact ci HR0_1 HB); (case side4 => exact HC0_1.out); (case side5 => exact ci HR0_2 HB); (case side6 => exact HC0_2.out); (case side7 => exact ci HR0_3 HB); (case side8 => exact HC0_3.out); rintro e w36 ⟨rfl, hb⟩; refine ⟨_, rfl, ?_⟩; replace BK435 := bb BK435 hb; replace BK436 := bb BK436 hb; replace HB := am (below_step (bs2 GE435.out GE436.out HB.out) hb); (try clear hb); obtain ⟨hcz37_0, hcz37_1, hcz37_2, hcz37_3, hfz37_0, hfz37_1, hfz37_2, hfz37_3⟩ := cf4 BK436))
  refine bodyPost_ret (results_ct rfl _ _ gb436 30 #[.slice none 0 0, .slice none 0 0, .slice none 0 0, .slice none 0 0] (0, 0) _ rfl (kp4 (kf0 BK436.out)) Try.underlying30 rfl (by kernel_rfl)) rfl ?_
  exact ⟨_, _, _, _, by first | rfl | (simp [errW_none, errW_some] <;> rfl) | (simp [*, errW_none, errW_some] <;> rfl), by first | exact Kd.R_nil _ _ _ _ _ | exact Kd.N_nil _ _ _ _ _ | exact Kd.V_nil _ _ _ _ _ | exact Kd.Q_nil _ _ _ _ _ | exact Kd.S_nil _ _ _ _ _, by first | exact Kd.R_nil _ _ _ _ _ | exact Kd.N_nil _ _ _ _ _ | exact Kd.V_nil _ _ _ _ _ | exact Kd.Q_nil _ _ _ _ _ | exact Kd.S_nil _ _ _ _ _, by first | exact Kd.R_nil _ _ _ _ _ | exact Kd.N_nil _ _ _ _ _ | exact Kd.V_nil _ _ _ _ _ | exact Kd.Q_nil _ _ _ _ _ | exact Kd.S_nil _ _ _ _ _, by first | exact Kd.R_nil _ _ _ _ _ | exact Kd.N_nil _ _ _ _ _ | exact Kd.V_nil _ _ _ _ _ | exact Kd.Q_nil _ _ _ _ _ | exact Kd.S_nil _ _ _ _ _, by exact bs2 GE435.out GE436.out HB.out⟩

end Go.Proofs.Ytkbaggfkidalfaa.A
