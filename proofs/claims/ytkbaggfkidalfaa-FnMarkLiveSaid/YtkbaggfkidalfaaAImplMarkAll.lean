/- Contracts of functions of the given program (AImplMarkAll). No conditions beyond those stated. -/
import Derived.Test.YtkbaggfkidalfaaA0
import Derived.Test.YtkbaggfkidalfaaAImplColoredValid
import Derived.Test.YtkbaggfkidalfaaAImplFresh
import Derived.Test.YtkbaggfkidalfaaAImplLook
import Derived.Test.YtkbaggfkidalfaaA0
namespace Go.Proofs.Ytkbaggfkidalfaa.A
open Go.RowKit Go.Proofs.YtkbaggfkidalfaaW.PrintWords Go.Proofs.YtkbaggfkidalfaaW.PrintLast Go.Proofs.YtkbaggfkidalfaaW.PrintMore
attribute [local go_sem] max2_int min2_int max_two min_two max_three min_three max_four min_four   -- for this text's walks alone
set_option linter.unusedVariables false
set_option linter.unusedSimpArgs false

/-! ### impl_MarkAll -/
def impl_MarkAll.l0 : Nat → List Int → List Int → List Int → List Int → Option (List Int × List Int × List Int × List Int × Bool)
 | 0, _, _, _, _ => none
 | k + 1, x1509000, x1509001, x1509002, x1509003 => (impl_look.f k x1509000 x1509001 x1509002 x1509003).bind fun bt1523 => (if bt1523.1 = true then (impl_MarkAll.l0 k x1509000 x1509001 x1509002 bt1523.2) else (some (x1509000, x1509001, x1509002, bt1523.2, true)))
def impl_MarkAll.f (k : Nat) (l0_0 : List Int) (l0_1 : List Int) (l0_2 : List Int) (l0_3 : List Int) : Option (List Int × List Int × List Int × List Int × Bool) := (impl_ColoredValid.f k l0_0 l0_1 l0_2 l0_3).bind fun t1510 => (if t1510 = true then ((impl_fresh.f l0_0 l0_1 l0_2 l0_3).bind fun bt1511 => (impl_MarkAll.l0 k bt1511.1 bt1511.2.1 bt1511.2.2.1 bt1511.2.2.2)) else (some (([] : List Int), ([] : List Int), ([] : List Int), ([] : List Int), false)))
theorem impl_MarkAll.mono_l : ∀ k, (∀ y0 y1 y2 y3, LeO (impl_MarkAll.l0 k y0 y1 y2 y3) (impl_MarkAll.l0 (k + 1) y0 y1 y2 y3))
 | 0 => fun _ _ _ _ r h => by simp [impl_MarkAll.l0] at h
 | k + 1 => by
  have ih0 := impl_MarkAll.mono_l k
  ·intro y0 y1 y2 y3
   unfold impl_MarkAll.l0
   repeat' first
   | (with_reducible exact ih0 _ _ _ _)
   | (with_reducible exact impl_ColoredValid.mono _ _ _ _ _)
   | (with_reducible exact impl_look.mono _ _ _ _ _)
   | (with_reducible exact LeO.refl _)
   | (with_reducible exact LeO.none _)
   | (with_reducible refine LeO.ite ?_ ?_)
   | (with_reducible refine LeO.bind ?_ (fun _ => ?_))
   | exact ih0 _ _ _ _
   | exact impl_ColoredValid.mono _ _ _ _ _
   | exact impl_look.mono _ _ _ _ _
   | exact LeO.none _
   | refine LeO.ite ?_ ?_
   | refine LeO.bind ?_ (fun _ => ?_)
theorem impl_MarkAll.mono : ∀ a0 a1 a2 a3 k, LeO (impl_MarkAll.f k a0 a1 a2 a3) (impl_MarkAll.f (k + 1) a0 a1 a2 a3) := by
 intro a0 a1 a2 a3 k
 have ih0 := impl_MarkAll.mono_l k
 unfold impl_MarkAll.f
 repeat' first
   | (with_reducible exact ih0 _ _ _ _)
   | (with_reducible exact impl_ColoredValid.mono _ _ _ _ _)
   | (with_reducible exact impl_look.mono _ _ _ _ _)
   | (with_reducible exact LeO.refl _)
   | (with_reducible exact LeO.none _)
   | (with_reducible refine LeO.ite ?_ ?_)
   | (with_reducible refine LeO.bind ?_ (fun _ => ?_))
   | exact ih0 _ _ _ _
   | exact impl_ColoredValid.mono _ _ _ _ _
   | exact impl_look.mono _ _ _ _ _
   | exact LeO.none _
   | refine LeO.ite ?_ ?_
   | refine LeO.bind ?_ (fun _ => ?_)
set_option maxHeartbeats 8000000 in
set_option maxRecDepth 100000 in
theorem impl_MarkAll.calls (k : Nat) (A0_0 : Option Addr) (c0_0 : Nat) (l0_0 : List Int) (A0_1 : Option Addr) (c0_1 : Nat) (l0_1 : List Int) (A0_2 : Option Addr) (c0_2 : Nat) (l0_2 : List Int) (A0_3 : Option Addr) (c0_3 : Nat) (l0_3 : List Int) (r1 : List Int) (r2 : List Int) (r3 : List Int) (r4 : List Int) (r5 : Bool) (w : World) (hr0_0 : Kd.C (Kd.int .i64) w A0_0 l0_0.length l0_0) (hc0_0 : l0_0.length ≤ c0_0) (hr0_1 : Kd.C (Kd.int .i64) w A0_1 l0_1.length l0_1) (hc0_1 : l0_1.length ≤ c0_1) (hr0_2 : Kd.C (Kd.int .i64) w A0_2 l0_2.length l0_2) (hc0_2 : l0_2.length ≤ c0_2) (hr0_3 : Kd.C (Kd.int .i64) w A0_3 l0_3.length l0_3) (hc0_3 : l0_3.length ≤ c0_3) (h : impl_MarkAll.f k l0_0 l0_1 l0_2 l0_3 = some (r1, r2, r3, r4, r5)) :
  Calls Try.prog 47 #[.agg #[.slice A0_0 l0_0.length c0_0, .slice A0_1 l0_1.length c0_1, .slice A0_2 l0_2.length c0_2, .slice A0_3 l0_3.length c0_3]] w fun e w' => ∃ v0_ v1_ v2_ v3_ : Value, e = .returned (.tuple #[.agg #[v0_, v1_, v2_, v3_], .bool r5]) ∧ Kd.R (Kd.int .i64) 3 w' w.heap.size (fun k_ => some k_ ≠ (v1_ : Value).ownBlock ∧ some k_ ≠ (v2_ : Value).ownBlock ∧ some k_ ≠ (v3_ : Value).ownBlock) v0_ r1 ∧ Kd.R (Kd.int .i64) 3 w' w.heap.size (fun k_ => some k_ ≠ (v0_ : Value).ownBlock ∧ some k_ ≠ (v2_ : Value).ownBlock ∧ some k_ ≠ (v3_ : Value).ownBlock) v1_ r2 ∧ Kd.R (Kd.int .i64) 3 w' w.heap.size (fun k_ => some k_ ≠ (v0_ : Value).ownBlock ∧ some k_ ≠ (v1_ : Value).ownBlock ∧ some k_ ≠ (v3_ : Value).ownBlock) v2_ r3 ∧ Kd.R (Kd.int .i64) 3 w' w.heap.size (fun k_ => some k_ ≠ (v0_ : Value).ownBlock ∧ some k_ ≠ (v1_ : Value).ownBlock ∧ some k_ ≠ (v2_ : Value).ownBlock) v3_ r4 ∧ Below w.heap.size w w' := by
 have hu30 := Try.underlying30
 have hu28 := Try.underlying28
 have HR0_0 := am hr0_0
 have HC0_0 := am hc0_0
 clear hr0_0 hc0_0
 have HR0_1 := am hr0_1
 have HC0_1 := am hc0_1
 clear hr0_1 hc0_1
 have HR0_2 := am hr0_2
 have HC0_2 := am hc0_2
 clear hr0_2 hc0_2
 have HR0_3 := am hr0_3
 have HC0_3 := am hc0_3
 clear hr0_3 hc0_3
 have HB := am (Below.refl w.heap.size w)
 have H : ((impl_ColoredValid.f k l0_0 l0_1 l0_2 l0_3).bind fun t1510 => (if t1510 = true then ((impl_fresh.f l0_0 l0_1 l0_2 l0_3).bind fun bt1511 => (impl_MarkAll.l0 k bt1511.1 bt1511.2.1 bt1511.2.2.1 bt1511.2.2.2)) else (some (([] : List Int), ([] : List Int), ([] : List Int), ([] : List Int), false)))) = some (r1, r2, r3, r4, r5) := h
 clear h
 replace H := Option.bind_eq_some_iff.mp H
 obtain ⟨t1510, A20, H⟩ := H
 replace H : (if t1510 = true then ((impl_fresh.f l0_0 l0_1 l0_2 l0_3).bind fun bt1511 => (impl_MarkAll.l0 k bt1511.1 bt1511.2.1 bt1511.2.2.1 bt1511.2.2.2)) else (some (([] : List Int), ([] : List Int), ([] : List Int), ([] : List Int), false))) = some (r1, r2, r3, r4, r5) := H
 have A2 := am A20
 clear A20
 by_cases c3 : t1510 = true
 ·subst c3
  have H1 : ((impl_fresh.f l0_0 l0_1 l0_2 l0_3).bind fun bt1511 => (impl_MarkAll.l0 k bt1511.1 bt1511.2.1 bt1511.2.2.1 bt1511.2.2.2)) = some (r1, r2, r3, r4, r5) := by rw [if_pos rfl] at H; exact H
  clear H
  have H := H1
  clear H1
  replace H := Option.bind_eq_some_iff.mp H
  obtain ⟨⟨t1511, t1514, t1517, t1520⟩, A40, H⟩ := H
  replace H : (impl_MarkAll.l0 k t1511 t1514 t1517 t1520) = some (r1, r2, r3, r4, r5) := H
  have A4 := am A40
  clear A40
  have H' := am H
  clear H
  go_enter Try.func47, Try.ntmps47
  go_wp2_with (first | ((with_reducible refine gate_dst (N := 1) rfl ?_); refine box_event ?hg (N := 1) ?hd (cs := #[.slice A0_0 l0_0.length c0_0, .slice A0_1 l0_1.length c0_1, .slice A0_2 l0_2.length c0_2, .slice A0_3 l0_3.length c0_3]) (t := 30) ?hr ?_; (case hd => rfl); (case hg => rfl); (case hr => first | (go_simp; done) | (go_simp; rfl)); intro gb1508 hg w5 hbox hb; have BK1508 := am (hbox); have GW1508 := am ((by rw [hg]; exact (below_size (bl HB.out)) : w.heap.size ≤ gb1508)); have GE1508 := am ((by rw [hg]; exact (below_size (bl HB.out)) : w.heap.size ≤ gb1508)); replace HB := am (below_step (bl HB.out) hb); clear hb hbox hg) | ((with_reducible refine gate_dst (N := 2) rfl ?_); refine box_event ?hg (N := 2) ?hd (cs := #[.slice none 0 0, .slice none 0 0, .slice none 0 0, .slice none 0 0]) (t := 30) ?hr ?_; (case hd => rfl); (case hg => rfl); (case hr => first | (go_simp; done) | (go_simp; rfl)); intro gb1509 hg w6 hbox hb; have BK1509 := am (hbox); have GW1509 := am ((by rw [hg]; exact (below_size (bs1 GE1508.out HB.out)) : w.heap.size ≤ gb1509)); have GE1509 := am ((by rw [hg]; exact (below_size (bs1 GE1508.out HB.out)) : w.heap.size ≤ gb1509)); replace HB := am (below_step (bs1 GE1508.out HB.out) hb); have NB1508_1509 := nb BK1508 hg; have NB1509_1508 := nc BK1508 hg; replace BK1508 := bb BK1508 hb; clear hb hbox hg; have hnb7 := NB1508_1509.out; have hnc7 := NB1509_1508.out; obtain ⟨hcz8_0, hcz8_1, hcz8_2, hcz8_3, hfz8_0, hfz8_1, hfz8_2, hfz8_3⟩ := cf4 BK1508) | ((with_reducible refine gate_callee (f := 29) rfl ?_); refine gL (some 5) rfl rfl Try.func29 (by kernel_rfl) rfl #[.agg #[.slice A0_0 l0_0.length c0_0, .slice A0_1 l0_1.length c0_1, .slice A0_2 l0_2.length c0_2, .slice A0_3 l0_3.length c0_3]] rfl ?_; (with_reducible refine (impl_ColoredValid.calls k _ _ l0_0 _ _ l0_1 _ _ l0_2 _ _ l0_3 true _ ?side1 ?side2 ?side3 ?side4 ?side5 ?side6 ?side7 ?side8 A2.out).mono ?_); (case side1 => exact ci HR0_0 HB); (case side2 => exact HC0_0.out); (case side3 => exact ci HR0_1 HB); (case side4 => exact HC0_1.out); (case side5 => exact ci HR0_2 HB); (case side6 => exact HC0_2.out); (case side7 => exact ci HR0_3 HB); (case side8 => exact HC0_3.out); rintro e w9 ⟨rfl, hb⟩; refine ⟨_, rfl, ?_⟩; replace BK1508 := bb BK1508 hb; replace BK1509 := bb BK1509 hb; replace HB := am (below_step (bs2 GE1508.out GE1509.out HB.out) hb); (try clear hb); obtain ⟨hcz10_0, hcz10_1, hcz10_2, hcz10_3, hfz10_0, hfz10_1, hfz10_2, hfz10_3⟩ := cf4 BK1508) | ((with_reducible refine gate_callee (f := 60) rfl ?_); refine gL (some 9) rfl rfl Try.func60 (by kernel_rfl) rfl #[.agg #[.slice A0_0 l0_0.length c0_0, .slice A0_1 l0_1.length c0_1, .slice A0_2 l0_2.length c0_2, .slice A0_3 l0_3.length c0_3]] rfl ?_; (with_reducible refine (impl_fresh.calls _ _ l0_0 _ _ l0_1 _ _ l0_2 _ _ l0_3 t1511 t1514 t1517 t1520 _ ?side1 ?side2 ?side3 ?side4 ?side5 ?side6 ?side7 ?side8 A4.out).mono ?_); (case side1 => exact ci HR0_0 HB); (case side2 => exact HC0_0.out); (case side3 => exact ci HR0_1 HB); (case side4 => exact HC0_1.out); (case side5 => exact ci HR0_2 HB); (case side6 => exact HC0_2.out); (case side7 => exact ci HR0_3 HB); (case side8 => exact HC0_3.out); rintro e w11 ⟨v1512, v1515, v1518, v1521, rfl, ho0, ho1, ho2, ho3, hb⟩; refine ⟨_, rfl, ?_⟩; have HO1513 := ln0 ho0 (bs2 GE1508.out GE1509.out HB.out); have HO1516 := ln0 ho1 (bs2 GE1508.out GE1509.out HB.out); have HO1519 := ln0 ho2 (bs2 GE1508.out GE1509.out HB.out); have HO1522 := ln0 ho3 (bs2 GE1508.out GE1509.out HB.out); replace BK1508 := bb BK1508 hb; replace BK1509 := bb BK1509 hb; replace HB := am (below_step (bs2 GE1508.out GE1509.out HB.out) hb); (try clear hb ho0 ho1 ho2 ho3); obtain ⟨Ao12, co12, eo12⟩ := Kd.R_slice HO1513.out; subst eo12; obtain ⟨hcz13_0, hcz13_1, hcz13_2, hcz13_3, hfz13_0, hfz13_1, hfz13_2, hfz13_3⟩ := cf4 BK1508; obtain ⟨Ao14, co14, eo14⟩ := Kd.R_slice HO1516.out; subst eo14; obtain ⟨Ao15, co15, eo15⟩ := Kd.R_slice HO1519.out; subst eo15; obtain ⟨Ao16, co16, eo16⟩ := Kd.R_slice HO1522.out; subst eo16))
  go_loopg [] k (fun kq w' => ∃ (x1509000_1 : List Int) (x1509001_1 : List Int) (x1509002_1 : List Int) (x1509003_1 : List Int) (u1509000 : Value) (u1509001 : Value) (u1509002 : Value) (u1509003 : Value), Aside0 (impl_MarkAll.l0 kq x1509000_1 x1509001_1 x1509002_1 x1509003_1 = some (r1, r2, r3, r4, r5)) ∧ Aside0 (kq ≤ k) ∧ Aside0 (Kd.R (Kd.int .i64) 3 w' w.heap.size (fun k_ => some k_ ≠ (u1509001 : Value).ownBlock ∧ some k_ ≠ (u1509002 : Value).ownBlock ∧ some k_ ≠ (u1509003 : Value).ownBlock) u1509000 x1509000_1) ∧ Aside0 (Kd.R (Kd.int .i64) 3 w' w.heap.size (fun k_ => some k_ ≠ (u1509000 : Value).ownBlock ∧ some k_ ≠ (u1509002 : Value).ownBlock ∧ some k_ ≠ (u1509003 : Value).ownBlock) u1509001 x1509001_1) ∧ Aside0 (Kd.R (Kd.int .i64) 3 w' w.heap.size (fun k_ => some k_ ≠ (u1509000 : Value).ownBlock ∧ some k_ ≠ (u1509001 : Value).ownBlock ∧ some k_ ≠ (u1509003 : Value).ownBlock) u1509002 x1509002_1) ∧ Aside0 (Kd.R (Kd.int .i64) 3 w' w.heap.size (fun k_ => some k_ ≠ (u1509000 : Value).ownBlock ∧ some k_ ≠ (u1509001 : Value).ownBlock ∧ some k_ ≠ (u1509002 : Value).ownBlock) u1509003 x1509003_1) ∧ Aside0 (w'.heap[gb1508]? = some (.cells #[u1509000, u1509001, u1509002, u1509003] 30 (0, 0))) ∧ Aside0 (w'.heap[gb1509]? = some (.cells #[(.slice none 0 0), (.slice none 0 0), (.slice none 0 0), (.slice none 0 0)] 30 (0, 0))) ∧ Aside0 (Below w.heap.size w w'))
  case atStart => exact ⟨(t1511), (t1514), (t1517), (t1520), (.slice Ao12 t1511.length co12), (.slice Ao14 t1514.length co14), (.slice Ao15 t1517.length co15), (.slice Ao16 t1520.length co16), H', ⟨Nat.le_refl _⟩, ⟨rl (Kd.R_mono (Kd.R_far (p := ⟨gb1508, 3, none⟩) (Kd.R_far (p := ⟨gb1508, 2, none⟩) (Kd.R_far (p := ⟨gb1508, 1, none⟩) (Kd.R_far (p := ⟨gb1508, 0, none⟩) (Kd.R_types HO1513.out BK1508.out (by decide)) (fun _ hk => hk.2) (.slice Ao12 t1511.length co12)) (fun _ hk => hk.2) (.slice Ao14 t1514.length co14)) (fun _ hk => hk.2) (.slice Ao15 t1517.length co15)) (fun _ hk => hk.2) (.slice Ao16 t1520.length co16)) (fun _ hk => by first | exact ⟨hk.1.1, ⟨hk.1.2.1, hk.1.2.2⟩⟩ | (simp only [ne_eq] at hk ⊢; simp only [hk, not_false_eq_true, and_self])))⟩, ⟨rl (Kd.R_mono (Kd.R_far (p := ⟨gb1508, 3, none⟩) (Kd.R_far (p := ⟨gb1508, 2, none⟩) (Kd.R_far (p := ⟨gb1508, 1, none⟩) (Kd.R_far (p := ⟨gb1508, 0, none⟩) (Kd.R_types HO1516.out BK1508.out (by decide)) (fun _ hk => hk.2) (.slice Ao12 t1511.length co12)) (fun _ hk => hk.2) (.slice Ao14 t1514.length co14)) (fun _ hk => hk.2) (.slice Ao15 t1517.length co15)) (fun _ hk => hk.2) (.slice Ao16 t1520.length co16)) (fun _ hk => by first | exact ⟨hk.1.1, ⟨hk.1.2.1, hk.1.2.2⟩⟩ | (simp only [ne_eq] at hk ⊢; simp only [hk, not_false_eq_true, and_self])))⟩, ⟨rl (Kd.R_mono (Kd.R_far (p := ⟨gb1508, 3, none⟩) (Kd.R_far (p := ⟨gb1508, 2, none⟩) (Kd.R_far (p := ⟨gb1508, 1, none⟩) (Kd.R_far (p := ⟨gb1508, 0, none⟩) (Kd.R_types HO1519.out BK1508.out (by decide)) (fun _ hk => hk.2) (.slice Ao12 t1511.length co12)) (fun _ hk => hk.2) (.slice Ao14 t1514.length co14)) (fun _ hk => hk.2) (.slice Ao15 t1517.length co15)) (fun _ hk => hk.2) (.slice Ao16 t1520.length co16)) (fun _ hk => by first | exact ⟨hk.1.1, ⟨hk.1.2.1, hk.1.2.2⟩⟩ | (simp only [ne_eq] at hk ⊢; simp only [hk, not_false_eq_true, and_self])))⟩, ⟨rl (Kd.R_mono (Kd.R_far (p := ⟨gb1508, 3, none⟩) (Kd.R_far (p := ⟨gb1508, 2, none⟩) (Kd.R_far (p := ⟨gb1508, 1, none⟩) (Kd.R_far (p := ⟨gb1508, 0, none⟩) (Kd.R_types HO1522.out BK1508.out (by decide)) (fun _ hk => hk.2) (.slice Ao12 t1511.length co12)) (fun _ hk => hk.2) (.slice Ao14 t1514.length co14)) (fun _ hk => hk.2) (.slice Ao15 t1517.length co15)) (fun _ hk => hk.2) (.slice Ao16 t1520.length co16)) (fun _ hk => by first | exact ⟨hk.1.1, ⟨hk.1.2.1, hk.1.2.2⟩⟩ | (simp only [ne_eq] at hk ⊢; simp only [hk, not_false_eq_true, and_self])))⟩, ⟨kp4 (kf0 BK1508.out)⟩, ⟨kf1 NB1509_1508.out BK1509.out⟩, ⟨by exact bs2 GE1508.out GE1509.out HB.out⟩⟩
  case round =>
   clear H'
   try clear c2
   try clear p2
   try clear c3
   try clear c4
   try clear c6
   try clear c7
   obtain ⟨x1509000_1, x1509001_1, x1509002_1, x1509003_1, u1509000, u1509001, u1509002, u1509003, HA, HK1, HO_1509000, HO_1509001, HO_1509002, HO_1509003, BK1508, BK1509, HB⟩ := hrel
   cases gk with
   | zero => exact absurd HA.out (by simp [impl_MarkAll.l0])
   | succ k1 =>
    have H := HA.out
    clear HA
    simp only [impl_MarkAll.l0] at H
    replace H := Option.bind_eq_some_iff.mp H
    obtain ⟨⟨t1523, t1524⟩, A170, H⟩ := H
    replace H : (if t1523 = true then (impl_MarkAll.l0 k1 x1509000_1 x1509001_1 x1509002_1 t1524) else (some (x1509000_1, x1509001_1, x1509002_1, t1524, true))) = some (r1, r2, r3, r4, r5) := H
    have A17 := am A170
    clear A170
    by_cases c18 : t1523 = true
    ·subst c18
     have H1 : (impl_MarkAll.l0 k1 x1509000_1 x1509001_1 x1509002_1 t1524) = some (r1, r2, r3, r4, r5) := by rw [if_pos rfl] at H; exact H
     clear H
     have H := H1
     clear H1
     have H' := am H
     clear H
     have hnb19 := NB1508_1509.out
     have hnc19 := NB1509_1508.out
     obtain ⟨hcz20_0, hcz20_1, hcz20_2, hcz20_3, hfz20_0, hfz20_1, hfz20_2, hfz20_3⟩ := cf4 BK1508
     obtain ⟨Ao21, co21, eo21⟩ := Kd.R_slice HO_1509000.out
     subst eo21
     obtain ⟨Ao22, co22, eo22⟩ := Kd.R_slice HO_1509001.out
     subst eo22
     obtain ⟨Ao23, co23, eo23⟩ := Kd.R_slice HO_1509002.out
     subst eo23
     obtain ⟨Ao24, co24, eo24⟩ := Kd.R_slice HO_1509003.out
     subst eo24
     go_wp2_with (first | ((with_reducible refine gate_callee (f := 79) rfl ?_); refine gL (some 14) rfl rfl Try.func79 (by kernel_rfl) rfl #[.agg #[.slice Ao21 x1509000_1.length co21, .slice Ao22 x1509001_1.length co22, .slice Ao23 x1509002_1.length co23], .slice Ao24 x1509003_1.length co24] rfl ?_; (with_reducible refine (impl_look.calls k1 _ _ x1509000_1 _ _ x1509001_1 _ _ x1509002_1 (fun k_ => some k_ = (.slice Ao24 x1509003_1.length co24 : Value).ownBlock) (.slice Ao24 x1509003_1.length co24) x1509003_1 true t1524 w _ ?side1 ?side2 ?side3 ?side4 ?side5 ?side6 ?side7 ?side8 A17.out).mono ?_); (case side1 => exact bs2 GE1508.out GE1509.out HB.out); (case side2 => exact Kd.C_kept_own (HO_1509000.out) (fun k_ hk_ hs_ => (hk_.2.2) hs_)); (case side3 => exact sc HO_1509000); (case side4 => exact Kd.C_kept_own (HO_1509001.out) (fun k_ hk_ hs_ => (hk_.2.2) hs_)); (case side5 => exact sc HO_1509001); (case side6 => exact Kd.C_kept_own (HO_1509002.out) (fun k_ hk_ hs_ => (hk_.2.2) hs_)); (case side7 => exact sc HO_1509002); (case side8 => exact Kd.R_tight rfl HO_1509003.out); rintro e w25 ⟨rfl, hy0, hb, hkp⟩; refine ⟨_, rfl, ?_⟩; replace HO_1509000 := am (Kd.R_kept (HO_1509000.out) hkp (fun k_ hk_ hs_ => (hk_.2.2) hs_)); replace HO_1509001 := am (Kd.R_kept (HO_1509001.out) hkp (fun k_ hk_ hs_ => (hk_.2.2) hs_)); replace HO_1509002 := am (Kd.R_kept (HO_1509002.out) hkp (fun k_ hk_ hs_ => (hk_.2.2) hs_)); replace BK1508 := am (blk_kept (kl BK1508.out) hkp (fun hs_ => (fun e_ => (Kd.R_ne HO_1509003.out BK1508.out (by decide)) e_) hs_)); replace BK1509 := am (blk_kept (kl BK1509.out) hkp (fun hs_ => (fun e_ => (Kd.R_ne HO_1509003.out BK1509.out (by decide)) e_) hs_)); replace HO_1509003 := am (Kd.R_reok rfl hy0 (fun k_ e_ => HO_1509003.out.1 k_ e_)); replace HB := am (hb); (try clear hb hkp hy0)))
     go_roundg k1
     case measure => have := HK1.out; omega
     case rel => exact ⟨(x1509000_1), (x1509001_1), (x1509002_1), (t1524), (.slice Ao21 x1509000_1.length co21), (.slice Ao22 x1509001_1.length co22), (.slice Ao23 x1509002_1.length co23), (.slice Ao24 x1509003_1.length co24), H', ⟨by have := HK1.out; omega⟩, ⟨rl HO_1509000.out⟩, ⟨rl HO_1509001.out⟩, ⟨rl HO_1509002.out⟩, ⟨rl HO_1509003.out⟩, ⟨kl BK1508.out⟩, ⟨kl BK1509.out⟩, ⟨by exact bs2 GE1508.out GE1509.out HB.out⟩⟩
    ·replace c18 := Bool.eq_false_iff.mpr c18
     subst c18
     have H1 : (some (x1509000_1, x1509001_1, x1509002_1, t1524, true)) = some (r1, r2, r3, r4, r5) := by rw [if_neg (show ¬ (false = true) by decide)] at H; exact H
     clear H
     have H := H1
     clear H1
     simp only [Option.some.injEq, Prod.mk.injEq] at H
     obtain ⟨rfl, rfl, rfl, rfl, rfl⟩ := H
     have hnb26 := NB1508_1509.out
     have hnc26 := NB1509_1508.out
     obtain ⟨hcz27_0, hcz27_1, hcz27_2, hcz27_3, hfz27_0, hfz27_1, hfz27_2, hfz27_3⟩ := cf4 BK1508
     obtain ⟨Ao28, co28, eo28⟩ := Kd.R_slice HO_1509000.out
     subst eo28
     obtain ⟨Ao29, co29, eo29⟩ := Kd.R_slice HO_1509001.out
     subst eo29
     obtain ⟨Ao30, co30, eo30⟩ := Kd.R_slice HO_1509002.out
     subst eo30
     obtain ⟨Ao31, co31, eo31⟩ := Kd.R_slice HO_1509003.out
     subst eo31
     go_wp2_with (first | ((with_reducible refine gate_callee (f := 79) rfl ?_); refine gL (some 14) rfl rfl Try.func79 (by kernel_rfl) rfl #[.agg #[.slice Ao28 x1509000_1.length co28, .slice Ao29 x1509001_1.length co29, .slice Ao30 x1509002_1.length co30], .slice Ao31 x1509003_1.length co31] rfl ?_; (with_reducible refine (impl_look.calls k1 _ _ x1509000_1 _ _ x1509001_1 _ _ x1509002_1 (fun k_ => some k_ = (.slice Ao31 x1509003_1.length co31 : Value).ownBlock) (.slice Ao31 x1509003_1.length co31) x1509003_1 false t1524 w _ ?side1 ?side2 ?side3 ?side4 ?side5 ?side6 ?side7 ?side8 A17.out).mono ?_); (case side1 => exact bs2 GE1508.out GE1509.out HB.out); (case side2 => exact Kd.C_kept_own (HO_1509000.out) (fun k_ hk_ hs_ => (hk_.2.2) hs_)); (case side3 => exact sc HO_1509000); (case side4 => exact Kd.C_kept_own (HO_1509001.out) (fun k_ hk_ hs_ => (hk_.2.2) hs_)); (case side5 => exact sc HO_1509001); (case side6 => exact Kd.C_kept_own (HO_1509002.out) (fun k_ hk_ hs_ => (hk_.2.2) hs_)); (case side7 => exact sc HO_1509002); (case side8 => exact Kd.R_tight rfl HO_1509003.out); rintro e w32 ⟨rfl, hy0, hb, hkp⟩; refine ⟨_, rfl, ?_⟩; replace HO_1509000 := am (Kd.R_kept (HO_1509000.out) hkp (fun k_ hk_ hs_ => (hk_.2.2) hs_)); replace HO_1509001 := am (Kd.R_kept (HO_1509001.out) hkp (fun k_ hk_ hs_ => (hk_.2.2) hs_)); replace HO_1509002 := am (Kd.R_kept (HO_1509002.out) hkp (fun k_ hk_ hs_ => (hk_.2.2) hs_)); replace BK1508 := am (blk_kept (kl BK1508.out) hkp (fun hs_ => (fun e_ => (Kd.R_ne HO_1509003.out BK1508.out (by decide)) e_) hs_)); replace BK1509 := am (blk_kept (kl BK1509.out) hkp (fun hs_ => (fun e_ => (Kd.R_ne HO_1509003.out BK1509.out (by decide)) e_) hs_)); replace HO_1509003 := am (Kd.R_reok rfl hy0 (fun k_ e_ => HO_1509003.out.1 k_ e_)); replace HB := am (hb); (try clear hb hkp hy0); obtain ⟨hcz33_0, hcz33_1, hcz33_2, hcz33_3, hfz33_0, hfz33_1, hfz33_2, hfz33_3⟩ := cf4 BK1508; obtain ⟨hcz34_0, hcz34_1, hcz34_2, hcz34_3, hfz34_0, hfz34_1, hfz34_2, hfz34_3⟩ := cf4 BK1509))
     refine bodyPost_ret (results_ct rfl _ _ gb1509 30 #[.slice Ao28 x1509000_1.length co28, .slice Ao29 x1509001_1.length co29, .slice Ao30 x1509002_1.length co30, .slice Ao31 x1509003_1.length co31] (0, 0) _ rfl (kp4 (kf0 BK1509.out)) Try.underlying30 rfl (by kernel_rfl)) rfl ?_
     exact ⟨_, _, _, _, by first | rfl | (simp [errW_none, errW_some] <;> rfl) | (simp [*, errW_none, errW_some] <;> rfl), by exact ro (rg BK1509 HO_1509000), by exact ro (rg BK1509 HO_1509001), by exact ro (rg BK1509 HO_1509002), by exact ro (rg BK1509 HO_1509003), by exact bs2 GE1508.out GE1509.out HB.out⟩
 ·replace c3 := Bool.eq_false_iff.mpr c3
  subst c3
  have H1 : (some (([] : List Int), ([] : List Int), ([] : List Int), ([] : List Int), false)) = some (r1, r2, r3, r4, r5) := by rw [if_neg (show ¬ (false = true) by decide)] at H; exact H
  clear H
  have H := H1
  clear H1
  simp only [Option.some.injEq, Prod.mk.injEq] at H
  obtain ⟨rfl, rfl, rfl, rfl, rfl⟩ := H
  go_enter Try.func47, Try.ntmps47
  go_wp2_with (first | ((with_reducible refine gate_dst (N := 1) rfl ?_); refine box_event ?hg (N := 1) ?hd (cs := #[.slice A0_0 l0_0.length c0_0, .slice A0_1 l0_1.length c0_1, .slice A0_2 l0_2.length c0_2, .slice A0_3 l0_3.length c0_3]) (t := 30) ?hr ?_; (case hd => rfl); (case hg => rfl); (case hr => first | (go_simp; done) | (go_simp; rfl)); intro gb1508 hg w35 hbox hb; have BK1508 := am (hbox); have GW1508 := am ((by rw [hg]; exact (below_size (bl HB.out)) : w.heap.size ≤ gb1508)); have GE1508 := am ((by rw [hg]; exact (below_size (bl HB.out)) : w.heap.size ≤ gb1508)); replace HB := am (below_step (bl HB.out) hb); clear hb hbox hg) | ((with_reducible refine gate_dst (N := 2) rfl ?_); refine box_event ?hg (N := 2) ?hd (cs := #[.slice none 0 0, .slice none 0 0, .slice none 0 0, .slice none 0 0]) (t := 30) ?hr ?_; (case hd => rfl); (case hg => rfl); (case hr => first | (go_simp; done) | (go_simp; rfl)); intro gb1509 hg w36 hbox hb; have BK1509 := am (hbox); have GW1509 := am ((by rw [hg]; exact (below_size (bs1 GE1508.out HB.out)) : w.heap.size ≤ gb1509)); have GE1509 := am ((by rw [hg]; exact (below_size (bs1 GE1508.out HB.out)) : w.heap.size ≤ gb1509)); replace HB := am (below_step (bs1 GE1508.out HB.out) hb); have NB1508_1509 := nb BK1508 hg; have NB1509_1508 := nc BK1508 hg; replace BK1508 := bb BK1508 hb; clear hb hbox hg; have hnb37 := NB1508_1509.out; have hnc37 := NB1509_1508.out; obtain ⟨hcz38_0, hcz38_1, hcz38_2, hcz38_3, hfz38_0, hfz38_1, hfz38_2, hfz38_3⟩ := cf4 BK1508) | ((with_reducible refine gate_callee (f := 29) rfl ?_); refine gL (some 5) rfl rfl Try.func29 (by kernel_rfl) rfl #[.agg #[.slice A0_0 l0_0.length c0_0, .slice A0_1 l0_1.length c0_1, .slice A0_2 l0_2.length c0_2, .slice A0_3 l0_3.length c0_3]] rfl ?_; (with_reducible refine (impl_ColoredValid.calls k _ _ l0_0 _ _ l0_1 _ _ l0_2 _ _ l0_3 false _ ?side1 ?side2 ?side3 ?side4 ?side5 ?side6 ?side7 ?side8 A2.out).mono ?_); (case side1 => exact ci HR0_0 HB); (case side2 => exact HC0_0.out); (case side3 => exact ci HR0_1 HB); (case side4 => exact HC0_1.out); (case side5 => exact ci HR0_2 HB); (case side6 => exact HC0_2.out); (case side7 => exact ci HR0_3 HB); (case side8 => exact HC0_3.out); rintro e w39 ⟨rfl, hb⟩; refine ⟨_, rfl, ?_⟩; replace BK1508 := bb BK1508 hb; replace BK1509 := bb BK1509 hb; replace HB := am (below_step (bs2 GE1508.out GE1509.out HB.out) hb); (try clear hb); obtain ⟨hcz40_0, hcz40_1, hcz40_2, hcz40_3, hfz40_0, hfz40_1, hfz40_2, hfz40_3⟩ := cf4 BK1509))
  refine bodyPost_ret (results_ct rfl _ _ gb1509 30 #[.slice none 0 0, .slice none 0 0, .slice none 0 0, .slice none 0 0] (0, 0) _ rfl (kp4 (kf0 BK1509.out)) Try.underlying30 rfl (by kernel_rfl)) rfl ?_
  exact ⟨_, _, _, _, by first | rfl | (simp [errW_none, errW_some] <;> rfl) | (simp [*, errW_none, errW_some] <;> rfl), by first | exact Kd.R_nil _ _ _ _ _ | exact Kd.N_nil _ _ _ _ _ | exact Kd.V_nil _ _ _ _ _ | exact Kd.Q_nil _ _ _ _ _ | exact Kd.S_nil _ _ _ _ _, by first | exact Kd.R_nil _ _ _ _ _ | exact Kd.N_nil _ _ _ _ _ | exact Kd.V_nil _ _ _ _ _ | exact Kd.Q_nil _ _ _ _ _ | exact Kd.S_nil _ _ _ _ _, by first | exact Kd.R_nil _ _ _ _ _ | exact Kd.N_nil _ _ _ _ _ | exact Kd.V_nil _ _ _ _ _ | exact Kd.Q_nil _ _ _ _ _ | exact Kd.S_nil _ _ _ _ _, by first | exact Kd.R_nil _ _ _ _ _ | exact Kd.N_nil _ _ _ _ _ | exact Kd.V_nil _ _ _ _ _ | exact Kd.Q_nil _ _ _ _ _ | exact Kd.S_nil _ _ _ _ _, by exact bs2 GE1508.out GE1509.out HB.out⟩

end Go.Proofs.Ytkbaggfkidalfaa.A
