/- Contracts of functions of the given program (AImplShadeCell). No conditions beyond those stated. -/
import Derived.Test.YtkbaggfkidalfaaA0
import Derived.Test.YtkbaggfkidalfaaAImplColoredValid
import Derived.Test.YtkbaggfkidalfaaAImplFresh
import Derived.Test.YtkbaggfkidalfaaAImplHas
import Derived.Test.YtkbaggfkidalfaaAImplShade
import Derived.Test.YtkbaggfkidalfaaA0
namespace Go.Proofs.Ytkbaggfkidalfaa.A
open Go.RowKit Go.Proofs.YtkbaggfkidalfaaW.PrintWords Go.Proofs.YtkbaggfkidalfaaW.PrintLast Go.Proofs.YtkbaggfkidalfaaW.PrintMore
attribute [local go_sem] max2_int min2_int max_two min_two max_three min_three max_four min_four   -- for this text's walks alone
set_option linter.unusedVariables false
set_option linter.unusedSimpArgs false

/-! ### impl_ShadeCell -/
def impl_ShadeCell.j0 : Nat → Int → Bool → List Int → List Int → List Int → List Int → Option (List Int × List Int × List Int × List Int × Bool)
 | 0, _, _, _, _, _, _ => none
 | k + 1, x1, x15, x256000, x256001, x256002, x256003 => if x15 = true then (some (([] : List Int), ([] : List Int), ([] : List Int), ([] : List Int), false)) else ((impl_fresh.f x256000 x256001 x256002 x256003).bind fun bt259 => ((impl_shade.f bt259.2.2.2 x1).bind fun t271 => (some (bt259.1, bt259.2.1, bt259.2.2.1, t271, true))))
def impl_ShadeCell.f (k : Nat) (l0_0 : List Int) (l0_1 : List Int) (l0_2 : List Int) (l0_3 : List Int) (a1 : Int) : Option (List Int × List Int × List Int × List Int × Bool) := (impl_ColoredValid.f k l0_0 l0_1 l0_2 l0_3).bind fun t257 => (if t257 = true then ((impl_has.f k l0_0 l0_1 l0_2 a1).bind fun t258 => (impl_ShadeCell.j0 k a1 (!t258) l0_0 l0_1 l0_2 l0_3)) else (impl_ShadeCell.j0 k a1 true l0_0 l0_1 l0_2 l0_3))
theorem impl_ShadeCell.mono_l : ∀ k, (∀ y0 y1 y2 y3 y4 y5, LeO (impl_ShadeCell.j0 k y0 y1 y2 y3 y4 y5) (impl_ShadeCell.j0 (k + 1) y0 y1 y2 y3 y4 y5))
 | 0 => fun _ _ _ _ _ _ r h => by simp [impl_ShadeCell.j0] at h
 | k + 1 => by
  have ih0 := impl_ShadeCell.mono_l k
  ·intro y0 y1 y2 y3 y4 y5
   unfold impl_ShadeCell.j0
   repeat' first
   | (with_reducible exact ih0 _ _ _ _ _ _)
   | (with_reducible exact impl_ColoredValid.mono _ _ _ _ _)
   | (with_reducible exact impl_has.mono _ _ _ _ _)
   | (with_reducible exact LeO.refl _)
   | (with_reducible exact LeO.none _)
   | (with_reducible refine LeO.ite ?_ ?_)
   | (with_reducible refine LeO.bind ?_ (fun _ => ?_))
   | exact ih0 _ _ _ _ _ _
   | exact impl_ColoredValid.mono _ _ _ _ _
   | exact impl_has.mono _ _ _ _ _
   | exact LeO.none _
   | refine LeO.ite ?_ ?_
   | refine LeO.bind ?_ (fun _ => ?_)
theorem impl_ShadeCell.mono : ∀ a0 a1 a2 a3 a4 k, LeO (impl_ShadeCell.f k a0 a1 a2 a3 a4) (impl_ShadeCell.f (k + 1) a0 a1 a2 a3 a4) := by
 intro a0 a1 a2 a3 a4 k
 have ih0 := impl_ShadeCell.mono_l k
 unfold impl_ShadeCell.f
 repeat' first
   | (with_reducible exact ih0 _ _ _ _ _ _)
   | (with_reducible exact impl_ColoredValid.mono _ _ _ _ _)
   | (with_reducible exact impl_has.mono _ _ _ _ _)
   | (with_reducible exact LeO.refl _)
   | (with_reducible exact LeO.none _)
   | (with_reducible refine LeO.ite ?_ ?_)
   | (with_reducible refine LeO.bind ?_ (fun _ => ?_))
   | exact ih0 _ _ _ _ _ _
   | exact impl_ColoredValid.mono _ _ _ _ _
   | exact impl_has.mono _ _ _ _ _
   | exact LeO.none _
   | refine LeO.ite ?_ ?_
   | refine LeO.bind ?_ (fun _ => ?_)
set_option maxHeartbeats 8000000 in
set_option maxRecDepth 100000 in
theorem impl_ShadeCell.calls (k : Nat) (A0_0 : Option Addr) (c0_0 : Nat) (l0_0 : List Int) (A0_1 : Option Addr) (c0_1 : Nat) (l0_1 : List Int) (A0_2 : Option Addr) (c0_2 : Nat) (l0_2 : List Int) (A0_3 : Option Addr) (c0_3 : Nat) (l0_3 : List Int) (a1 : Int) (r1 : List Int) (r2 : List Int) (r3 : List Int) (r4 : List Int) (r5 : Bool) (w : World) (hr0_0 : Kd.C (Kd.int .i64) w A0_0 l0_0.length l0_0) (hc0_0 : l0_0.length ≤ c0_0) (hr0_1 : Kd.C (Kd.int .i64) w A0_1 l0_1.length l0_1) (hc0_1 : l0_1.length ≤ c0_1) (hr0_2 : Kd.C (Kd.int .i64) w A0_2 l0_2.length l0_2) (hc0_2 : l0_2.length ≤ c0_2) (hr0_3 : Kd.C (Kd.int .i64) w A0_3 l0_3.length l0_3) (hc0_3 : l0_3.length ≤ c0_3) (h : impl_ShadeCell.f k l0_0 l0_1 l0_2 l0_3 a1 = some (r1, r2, r3, r4, r5)) :
  Calls Try.prog 20 #[.agg #[.slice A0_0 l0_0.length c0_0, .slice A0_1 l0_1.length c0_1, .slice A0_2 l0_2.length c0_2, .slice A0_3 l0_3.length c0_3], .int .i64 a1] w fun e w' => ∃ v0_ v1_ v2_ v3_ : Value, e = .returned (.tuple #[.agg #[v0_, v1_, v2_, v3_], .bool r5]) ∧ Kd.R (Kd.int .i64) 3 w' w.heap.size (fun k_ => some k_ ≠ (v1_ : Value).ownBlock ∧ some k_ ≠ (v2_ : Value).ownBlock ∧ some k_ ≠ (v3_ : Value).ownBlock) v0_ r1 ∧ Kd.R (Kd.int .i64) 3 w' w.heap.size (fun k_ => some k_ ≠ (v0_ : Value).ownBlock ∧ some k_ ≠ (v2_ : Value).ownBlock ∧ some k_ ≠ (v3_ : Value).ownBlock) v1_ r2 ∧ Kd.R (Kd.int .i64) 3 w' w.heap.size (fun k_ => some k_ ≠ (v0_ : Value).ownBlock ∧ some k_ ≠ (v1_ : Value).ownBlock ∧ some k_ ≠ (v3_ : Value).ownBlock) v2_ r3 ∧ Kd.R (Kd.int .i64) 3 w' w.heap.size (fun k_ => some k_ ≠ (v0_ : Value).ownBlock ∧ some k_ ≠ (v1_ : Value).ownBlock ∧ some k_ ≠ (v2_ : Value).ownBlock) v3_ r4 ∧ Below w.heap.size w w' := by
 have hu30 := Try.underlying30
 have hu28 := Try.underlying28
 have HR0_0 := am hr0_0
 have HC0_0 := am hc0_0
 clear hr0_0 hc0_0
 have HR0_1 := am hr0_1
 have HC0_1 := am hc0_1
 clear hr0_1 hc0_1
 have HR0_2 := am hr0_2
 have HC0_2 := am hc0_2
 clear hr0_2 hc0_2
 have HR0_3 := am hr0_3
 have HC0_3 := am hc0_3
 clear hr0_3 hc0_3
 have HB := am (Below.refl w.heap.size w)
 have H : ((impl_ColoredValid.f k l0_0 l0_1 l0_2 l0_3).bind fun t257 => (if t257 = true then ((impl_has.f k l0_0 l0_1 l0_2 a1).bind fun t258 => (impl_ShadeCell.j0 k a1 (!t258) l0_0 l0_1 l0_2 l0_3)) else (impl_ShadeCell.j0 k a1 true l0_0 l0_1 l0_2 l0_3))) = some (r1, r2, r3, r4, r5) := h
 clear h
 have HC3 := am H
 clear H
 go_enter Try.func20, Try.ntmps20
 go_upto_region 1 with (first | ((with_reducible refine gate_dst (N := 2) rfl ?_); refine box_event ?hg (N := 2) ?hd (cs := #[.slice A0_0 l0_0.length c0_0, .slice A0_1 l0_1.length c0_1, .slice A0_2 l0_2.length c0_2, .slice A0_3 l0_3.length c0_3]) (t := 30) ?hr ?_; (case hd => rfl); (case hg => rfl); (case hr => first | (go_simp; done) | (go_simp; rfl)); intro gb255 hg w4 hbox hb; have BK255 := am (hbox); have GW255 := am ((by rw [hg]; exact (below_size (bl HB.out)) : w.heap.size ≤ gb255)); have GE255 := am ((by rw [hg]; exact (below_size (bl HB.out)) : w.heap.size ≤ gb255)); replace HB := am (below_step (bl HB.out) hb); clear hb hbox hg) | ((with_reducible refine gate_dst (N := 4) rfl ?_); refine box_event ?hg (N := 4) ?hd (cs := #[.slice none 0 0, .slice none 0 0, .slice none 0 0, .slice none 0 0]) (t := 30) ?hr ?_; (case hd => rfl); (case hg => rfl); (case hr => first | (go_simp; done) | (go_simp; rfl)); intro gb256 hg w5 hbox hb; have BK256 := am (hbox); have GW256 := am ((by rw [hg]; exact (below_size (bs1 GE255.out HB.out)) : w.heap.size ≤ gb256)); have GE256 := am ((by rw [hg]; exact (below_size (bs1 GE255.out HB.out)) : w.heap.size ≤ gb256)); replace HB := am (below_step (bs1 GE255.out HB.out) hb); have NB255_256 := nb BK255 hg; have NB256_255 := nc BK255 hg; replace BK255 := bb BK255 hb; clear hb hbox hg))
 (try simp only [Act.put, List.setIfInBounds_toArray, List.set_cons_zero, List.set_cons_succ])
 go_cut [15] (fun v15 wc => ∃ (kq : Nat) (x15_2 : Bool), v15 = .bool x15_2 ∧ Aside0 (impl_ShadeCell.j0 kq a1 x15_2 l0_0 l0_1 l0_2 l0_3 = some (r1, r2, r3, r4, r5)) ∧ Aside0 (kq ≤ k) ∧ Aside0 (wc.heap[gb255]? = some (.cells #[(.slice A0_0 l0_0.length c0_0), (.slice A0_1 l0_1.length c0_1), (.slice A0_2 l0_2.length c0_2), (.slice A0_3 l0_3.length c0_3)] 30 (0, 0))) ∧ Aside0 (wc.heap[gb256]? = some (.cells #[(.slice none 0 0), (.slice none 0 0), (.slice none 0 0), (.slice none 0 0)] 30 (0, 0))) ∧ Aside0 (Below w.heap.size w wc))
 case first =>
  have H := HC3.out
  clear HC3
  replace H := Option.bind_eq_some_iff.mp H
  obtain ⟨t257, A60, H⟩ := H
  replace H : (if t257 = true then ((impl_has.f k l0_0 l0_1 l0_2 a1).bind fun t258 => (impl_ShadeCell.j0 k a1 (!t258) l0_0 l0_1 l0_2 l0_3)) else (impl_ShadeCell.j0 k a1 true l0_0 l0_1 l0_2 l0_3)) = some (r1, r2, r3, r4, r5) := H
  have A6 := am A60
  clear A60
  by_cases c7 : t257 = true
  ·subst c7
   have H1 : ((impl_has.f k l0_0 l0_1 l0_2 a1).bind fun t258 => (impl_ShadeCell.j0 k a1 (!t258) l0_0 l0_1 l0_2 l0_3)) = some (r1, r2, r3, r4, r5) := by rw [if_pos rfl] at H; exact H
   clear H
   have H := H1
   clear H1
   replace H := Option.bind_eq_some_iff.mp H
   obtain ⟨t258, A80, H⟩ := H
   replace H : (impl_ShadeCell.j0 k a1 (!t258) l0_0 l0_1 l0_2 l0_3) = some (r1, r2, r3, r4, r5) := H
   have A8 := am A80
   clear A80
   have H' := am H
   clear H
   have hnb9 := NB255_256.out
   have hnc9 := NB256_255.out
   obtain ⟨hcz10_0, hcz10_1, hcz10_2, hcz10_3, hfz10_0, hfz10_1, hfz10_2, hfz10_3⟩ := cf4 BK255
   go_wp2_with (first | ((with_reducible refine gate_callee (f := 29) rfl ?_); refine gL (some 7) rfl rfl Try.func29 (by kernel_rfl) rfl #[.agg #[.slice A0_0 l0_0.length c0_0, .slice A0_1 l0_1.length c0_1, .slice A0_2 l0_2.length c0_2, .slice A0_3 l0_3.length c0_3]] rfl ?_; (with_reducible refine (impl_ColoredValid.calls k _ _ l0_0 _ _ l0_1 _ _ l0_2 _ _ l0_3 true _ ?side1 ?side2 ?side3 ?side4 ?side5 ?side6 ?side7 ?side8 A6.out).mono ?_); (case side1 => exact ci HR0_0 HB); (case side2 => exact HC0_0.out); (case side3 => exact ci HR0_1 HB); (case side4 => exact HC0_1.out); (case side5 => exact ci HR0_2 HB); (case side6 => exact HC0_2.out); (case side7 => exact ci HR0_3 HB); (case side8 => exact HC0_3.out); rintro e w11 ⟨rfl, hb⟩; refine ⟨_, rfl, ?_⟩; replace BK255 := bb BK255 hb; replace BK256 := bb BK256 hb; replace HB := am (below_step (bs2 GE255.out GE256.out HB.out) hb); (try clear hb); obtain ⟨hcz12_0, hcz12_1, hcz12_2, hcz12_3, hfz12_0, hfz12_1, hfz12_2, hfz12_3⟩ := cf4 BK255) | (go_at_call 59; (with_reducible refine (impl_has.calls k _ _ l0_0 _ _ l0_1 _ _ l0_2 a1 t258 _ ?side1 ?side2 ?side3 ?side4 ?side5 ?side6 A8.out).mono ?_); (case side1 => exact ci HR0_0 HB); (case side2 => exact HC0_0.out); (case side3 => exact ci HR0_1 HB); (case side4 => exact HC0_1.out); (case side5 => exact ci HR0_2 HB); (case side6 => exact HC0_2.out); rintro e w13 ⟨rfl, hb⟩; replace BK255 := bb BK255 hb; replace BK256 := bb BK256 hb; replace HB := am (below_step (bs2 GE255.out GE256.out HB.out) hb); (try clear hb)))
   go_meet
   case rel => exact ⟨_, (!t258), (by first | rfl | (simp; done) | (simp [*]; done)), H', ⟨by first | omega | exact Nat.le_refl _⟩, ⟨kl BK255.out⟩, ⟨kl BK256.out⟩, ⟨by exact bs2 GE255.out GE256.out HB.out⟩⟩
  ·replace c7 := Bool.eq_false_iff.mpr c7
   subst c7
   have H1 : (impl_ShadeCell.j0 k a1 true l0_0 l0_1 l0_2 l0_3) = some (r1, r2, r3, r4, r5) := by rw [if_neg (show ¬ (false = true) by decide)] at H; exact H
   clear H
   have H := H1
   clear H1
   have H' := am H
   clear H
   have hnb14 := NB255_256.out
   have hnc14 := NB256_255.out
   obtain ⟨hcz15_0, hcz15_1, hcz15_2, hcz15_3, hfz15_0, hfz15_1, hfz15_2, hfz15_3⟩ := cf4 BK255
   go_wp2_with (first | ((with_reducible refine gate_callee (f := 29) rfl ?_); refine gL (some 7) rfl rfl Try.func29 (by kernel_rfl) rfl #[.agg #[.slice A0_0 l0_0.length c0_0, .slice A0_1 l0_1.length c0_1, .slice A0_2 l0_2.length c0_2, .slice A0_3 l0_3.length c0_3]] rfl ?_; (with_reducible refine (impl_ColoredValid.calls k _ _ l0_0 _ _ l0_1 _ _ l0_2 _ _ l0_3 false _ ?side1 ?side2 ?side3 ?side4 ?side5 ?side6 ?side7 ?side8 A6.out).mono ?_); (case side1 => exact ci HR0_0 HB); (case side2 => exact HC0_0.out); (case side3 => exact ci HR0_1 HB); (case side4 => exact HC0_1.out); (case side5 => exact ci HR0_2 HB); (case side6 => exact HC0_2.out); (case side7 => exact ci HR0_3 HB); (case side8 => exact HC0_3.out); rintro e w16 ⟨rfl, hb⟩; refine ⟨_, rfl, ?_⟩; replace BK255 := bb BK255 hb; replace BK256 := bb BK256 hb; replace HB := am (below_step (bs2 GE255.out GE256.out HB.out) hb); (try clear hb)))
   go_meet
   case rel => exact ⟨_, (true), (by first | rfl | (simp; done) | (simp [*]; done)), H', ⟨by first | omega | exact Nat.le_refl _⟩, ⟨kl BK255.out⟩, ⟨kl BK256.out⟩, ⟨by exact bs2 GE255.out GE256.out HB.out⟩⟩
 case rest =>
  clear HC3
  try clear c1
  try clear c2
  try clear p2
  try clear c7
  try clear c9
  try clear c14
  obtain ⟨kq, x15_2, rfl, HA, HJ2, BK255, BK256, HB⟩ := hcut
  cases kq with
  | zero => exact absurd HA.out (by simp [impl_ShadeCell.j0])
  | succ kj2 =>
   have H := HA.out
   clear HA
   simp only [impl_ShadeCell.j0] at H
   by_cases c17 : x15_2 = true
   ·subst c17
    have H1 : (some (([] : List Int), ([] : List Int), ([] : List Int), ([] : List Int), false)) = some (r1, r2, r3, r4, r5) := by rw [if_pos rfl] at H; exact H
    clear H
    have H := H1
    clear H1
    simp only [Option.some.injEq, Prod.mk.injEq] at H
    obtain ⟨rfl, rfl, rfl, rfl, rfl⟩ := H
    have hnb18 := NB256_255.out
    have hnc18 := NB255_256.out
    obtain ⟨hcz19_0, hcz19_1, hcz19_2, hcz19_3, hfz19_0, hfz19_1, hfz19_2, hfz19_3⟩ := cf4 BK256
    go_wp2
    refine bodyPost_ret (results_ct rfl _ _ gb256 30 #[.slice none 0 0, .slice none 0 0, .slice none 0 0, .slice none 0 0] (0, 0) _ rfl (kp4 (kf0 BK256.out)) Try.underlying30 rfl (by kernel_rfl)) rfl ?_
    exact ⟨_, _, _, _, by first | rfl | (simp [errW_none, errW_some] <;> rfl) | (simp [*, errW_none, errW_some] <;> rfl), by first | exact Kd.R_nil _ _ _ _ _ | exact Kd.N_nil _ _ _ _ _ | exact Kd.V_nil _ _ _ _ _ | exact Kd.Q_nil _ _ _ _ _ | exact Kd.S_nil _ _ _ _ _, by first | exact Kd.R_nil _ _ _ _ _ | exact Kd.N_nil _ _ _ _ _ | exact Kd.V_nil _ _ _ _ _ | exact Kd.Q_nil _ _ _ _ _ | exact Kd.S_nil _ _ _ _ _, by first | exact Kd.R_nil _ _ _ _ _ | exact Kd.N_nil _ _ _ _ _ | exact Kd.V_nil _ _ _ _ _ | exact Kd.Q_nil _ _ _ _ _ | exact Kd.S_nil _ _ _ _ _, by first | exact Kd.R_nil _ _ _ _ _ | exact Kd.N_nil _ _ _ _ _ | exact Kd.V_nil _ _ _ _ _ | exact Kd.Q_nil _ _ _ _ _ | exact Kd.S_nil _ _ _ _ _, by exact bs2 GE255.out GE256.out HB.out⟩
   ·replace c17 := Bool.eq_false_iff.mpr c17
    subst c17
    have H1 : ((impl_fresh.f l0_0 l0_1 l0_2 l0_3).bind fun bt259 => ((impl_shade.f bt259.2.2.2 a1).bind fun t271 => (some (bt259.1, bt259.2.1, bt259.2.2.1, t271, true)))) = some (r1, r2, r3, r4, r5) := by rw [if_neg (show ¬ (false = true) by decide)] at H; exact H
    clear H
    have H := H1
    clear H1
    replace H := Option.bind_eq_some_iff.mp H
    obtain ⟨⟨t259, t262, t265, t268⟩, A200, H⟩ := H
    replace H : ((impl_shade.f t268 a1).bind fun t271 => (some (t259, t262, t265, t271, true))) = some (r1, r2, r3, r4, r5) := H
    have A20 := am A200
    clear A200
    replace H := Option.bind_eq_some_iff.mp H
    obtain ⟨t271, A210, H⟩ := H
    replace H : (some (t259, t262, t265, t271, true)) = some (r1, r2, r3, r4, r5) := H
    have A21 := am A210
    clear A210
    simp only [Option.some.injEq, Prod.mk.injEq] at H
    obtain ⟨rfl, rfl, rfl, rfl, rfl⟩ := H
    have hnb22 := NB255_256.out
    have hnc22 := NB256_255.out
    obtain ⟨hcz23_0, hcz23_1, hcz23_2, hcz23_3, hfz23_0, hfz23_1, hfz23_2, hfz23_3⟩ := cf4 BK255
    go_wp2_with (first | ((with_reducible refine gate_callee (f := 60) rfl ?_); refine gL (some 18) rfl rfl Try.func60 (by kernel_rfl) rfl #[.agg #[.slice A0_0 l0_0.length c0_0, .slice A0_1 l0_1.length c0_1, .slice A0_2 l0_2.length c0_2, .slice A0_3 l0_3.length c0_3]] rfl ?_; (with_reducible refine (impl_fresh.calls _ _ l0_0 _ _ l0_1 _ _ l0_2 _ _ l0_3 t259 t262 t265 t268 _ ?side1 ?side2 ?side3 ?side4 ?side5 ?side6 ?side7 ?side8 A20.out).mono ?_); (case side1 => exact ci HR0_0 HB); (case side2 => exact HC0_0.out); (case side3 => exact ci HR0_1 HB); (case side4 => exact HC0_1.out); (case side5 => exact ci HR0_2 HB); (case side6 => exact HC0_2.out); (case side7 => exact ci HR0_3 HB); (case side8 => exact HC0_3.out); rintro e w24 ⟨v260, v263, v266, v269, rfl, ho0, ho1, ho2, ho3, hb⟩; refine ⟨_, rfl, ?_⟩; have HO261 := ln0 ho0 (bs2 GE255.out GE256.out HB.out); have HO264 := ln0 ho1 (bs2 GE255.out GE256.out HB.out); have HO267 := ln0 ho2 (bs2 GE255.out GE256.out HB.out); have HO270 := ln0 ho3 (bs2 GE255.out GE256.out HB.out); replace BK255 := bb BK255 hb; replace BK256 := bb BK256 hb; replace HB := am (below_step (bs2 GE255.out GE256.out HB.out) hb); (try clear hb ho0 ho1 ho2 ho3); obtain ⟨Ao25, co25, eo25⟩ := Kd.R_slice HO261.out; subst eo25; obtain ⟨hcz26_0, hcz26_1, hcz26_2, hcz26_3, hfz26_0, hfz26_1, hfz26_2, hfz26_3⟩ := cf4 BK255; obtain ⟨Ao27, co27, eo27⟩ := Kd.R_slice HO264.out; subst eo27; obtain ⟨Ao28, co28, eo28⟩ := Kd.R_slice HO267.out; subst eo28; obtain ⟨Ao29, co29, eo29⟩ := Kd.R_slice HO270.out; subst eo29) | ((with_reducible refine gate_store (t := 30) (p := 2) rfl ?_); refine store_event (t := 30) (p := 2) (v := ?vo_w30) (w1 := ((((w24.setCell ⟨gb255, 0, none⟩ (.slice Ao25 t259.length co25)).setCell ⟨gb255, 1, none⟩ (.slice Ao27 t262.length co27)).setCell ⟨gb255, 2, none⟩ (.slice Ao28 t265.length co28)).setCell ⟨gb255, 3, none⟩ (.slice Ao29 t268.length co29))) ?hg ?ho ?hn ?hr ?_; (case ho => rfl); (case hg => rfl); (case hn => rfl); (case hr => first | (go_simp; done) | (go_simp; rfl)); intro w30 hw; replace HO261 : Aside0 (Kd.R (Kd.int .i64) 3 w30 w.heap.size (fun k_ => some k_ ≠ (.slice Ao27 t262.length co27 : Value).ownBlock ∧ some k_ ≠ (.slice Ao28 t265.length co28 : Value).ownBlock ∧ some k_ ≠ (.slice Ao29 t268.length co29 : Value).ownBlock) (.slice Ao25 t259.length co25) t259) := ⟨(by rw [hw]; exact (rl (Kd.R_mono (Kd.R_far (p := ⟨gb255, 3, none⟩) (Kd.R_far (p := ⟨gb255, 2, none⟩) (Kd.R_far (p := ⟨gb255, 1, none⟩) (Kd.R_far (p := ⟨gb255, 0, none⟩) (Kd.R_types HO261.out BK255.out (by decide)) (fun _ hk => hk.2) (.slice Ao25 t259.length co25)) (fun _ hk => hk.2) (.slice Ao27 t262.length co27)) (fun _ hk => hk.2) (.slice Ao28 t265.length co28)) (fun _ hk => hk.2) (.slice Ao29 t268.length co29)) (fun _ hk => by first | exact ⟨hk.1.1, ⟨hk.1.2.1, hk.1.2.2⟩⟩ | (simp only [ne_eq] at hk ⊢; simp only [hk, not_false_eq_true, and_self])))))⟩; replace HO264 : Aside0 (Kd.R (Kd.int .i64) 3 w30 w.heap.size (fun k_ => some k_ ≠ (.slice Ao25 t259.length co25 : Value).ownBlock ∧ some k_ ≠ (.slice Ao28 t265.length co28 : Value).ownBlock ∧ some k_ ≠ (.slice Ao29 t268.length co29 : Value).ownBlock) (.slice Ao27 t262.length co27) t262) := ⟨(by rw [hw]; exact (rl (Kd.R_mono (Kd.R_far (p := ⟨gb255, 3, none⟩) (Kd.R_far (p := ⟨gb255, 2, none⟩) (Kd.R_far (p := ⟨gb255, 1, none⟩) (Kd.R_far (p := ⟨gb255, 0, none⟩) (Kd.R_types HO264.out BK255.out (by decide)) (fun _ hk => hk.2) (.slice Ao25 t259.length co25)) (fun _ hk => hk.2) (.slice Ao27 t262.length co27)) (fun _ hk => hk.2) (.slice Ao28 t265.length co28)) (fun _ hk => hk.2) (.slice Ao29 t268.length co29)) (fun _ hk => by first | exact ⟨hk.1.1, ⟨hk.1.2.1, hk.1.2.2⟩⟩ | (simp only [ne_eq] at hk ⊢; simp only [hk, not_false_eq_true, and_self])))))⟩; replace HO267 : Aside0 (Kd.R (Kd.int .i64) 3 w30 w.heap.size (fun k_ => some k_ ≠ (.slice Ao25 t259.length co25 : Value).ownBlock ∧ some k_ ≠ (.slice Ao27 t262.length co27 : Value).ownBlock ∧ some k_ ≠ (.slice Ao29 t268.length co29 : Value).ownBlock) (.slice Ao28 t265.length co28) t265) := ⟨(by rw [hw]; exact (rl (Kd.R_mono (Kd.R_far (p := ⟨gb255, 3, none⟩) (Kd.R_far (p := ⟨gb255, 2, none⟩) (Kd.R_far (p := ⟨gb255, 1, none⟩) (Kd.R_far (p := ⟨gb255, 0, none⟩) (Kd.R_types HO267.out BK255.out (by decide)) (fun _ hk => hk.2) (.slice Ao25 t259.length co25)) (fun _ hk => hk.2) (.slice Ao27 t262.length co27)) (fun _ hk => hk.2) (.slice Ao28 t265.length co28)) (fun _ hk => hk.2) (.slice Ao29 t268.length co29)) (fun _ hk => by first | exact ⟨hk.1.1, ⟨hk.1.2.1, hk.1.2.2⟩⟩ | (simp only [ne_eq] at hk ⊢; simp only [hk, not_false_eq_true, and_self])))))⟩; replace HO270 : Aside0 (Kd.R (Kd.int .i64) 3 w30 w.heap.size (fun k_ => some k_ ≠ (.slice Ao25 t259.length co25 : Value).ownBlock ∧ some k_ ≠ (.slice Ao27 t262.length co27 : Value).ownBlock ∧ some k_ ≠ (.slice Ao28 t265.length co28 : Value).ownBlock) (.slice Ao29 t268.length co29) t268) := ⟨(by rw [hw]; exact (rl (Kd.R_mono (Kd.R_far (p := ⟨gb255, 3, none⟩) (Kd.R_far (p := ⟨gb255, 2, none⟩) (Kd.R_far (p := ⟨gb255, 1, none⟩) (Kd.R_far (p := ⟨gb255, 0, none⟩) (Kd.R_types HO270.out BK255.out (by decide)) (fun _ hk => hk.2) (.slice Ao25 t259.length co25)) (fun _ hk => hk.2) (.slice Ao27 t262.length co27)) (fun _ hk => hk.2) (.slice Ao28 t265.length co28)) (fun _ hk => hk.2) (.slice Ao29 t268.length co29)) (fun _ hk => by first | exact ⟨hk.1.1, ⟨hk.1.2.1, hk.1.2.2⟩⟩ | (simp only [ne_eq] at hk ⊢; simp only [hk, not_false_eq_true, and_self])))))⟩; replace BK255 : Aside0 (w30.heap[gb255]? = some (.cells #[.slice Ao25 t259.length co25, .slice Ao27 t262.length co27, .slice Ao28 t265.length co28, .slice Ao29 t268.length co29] 30 (0, 0))) := ⟨(by rw [hw]; exact (kp4 (kf0 BK255.out)))⟩; replace BK256 : Aside0 (w30.heap[gb256]? = some (.cells #[.slice none 0 0, .slice none 0 0, .slice none 0 0, .slice none 0 0] 30 (0, 0))) := ⟨(by rw [hw]; exact (kf1 NB256_255.out BK256.out))⟩; replace HB : Aside0 (Below w.heap.size w w30) := ⟨(by rw [hw]; exact (bs2 GE255.out GE256.out HB.out))⟩; clear hw; obtain ⟨hcz31_0, hcz31_1, hcz31_2, hcz31_3, hfz31_0, hfz31_1, hfz31_2, hfz31_3⟩ := cf4 BK255) | ((with_reducible refine gate_callee (f := 61) rfl ?_); refine gL (some 22) rfl rfl Try.func61 (by kernel_rfl) rfl #[.slice Ao29 t268.length co29, .int .i64 a1] rfl ?_; (with_reducible refine (impl_shade.calls (fun k_ => some k_ = (.slice Ao29 t268.length co29 : Value).ownBlock) (.slice Ao29 t268.length co29) t268 a1 t271 w _ ?side1 ?side2 A21.out).mono ?_); (case side1 => exact bs2 GE255.out GE256.out HB.out); (case side2 => exact Kd.R_tight rfl HO270.out); rintro e w32 ⟨rfl, hy0, hb, hkp⟩; refine ⟨_, rfl, ?_⟩; replace BK255 := am (blk_kept (kl BK255.out) hkp (fun hs_ => (fun e_ => (Kd.R_ne HO270.out BK255.out (by decide)) e_) hs_)); replace BK256 := am (blk_kept (kl BK256.out) hkp (fun hs_ => (fun e_ => (Kd.R_ne HO270.out BK256.out (by decide)) e_) hs_)); replace HO261 := am (Kd.R_kept (HO261.out) hkp (fun k_ hk_ hs_ => (hk_.2.2) hs_)); replace HO264 := am (Kd.R_kept (HO264.out) hkp (fun k_ hk_ hs_ => (hk_.2.2) hs_)); replace HO267 := am (Kd.R_kept (HO267.out) hkp (fun k_ hk_ hs_ => (hk_.2.2) hs_)); replace HO270 := am (Kd.R_reok rfl hy0 (fun k_ e_ => HO270.out.1 k_ e_)); replace HB := am (hb); (try clear hb hkp hy0); obtain ⟨hcz33_0, hcz33_1, hcz33_2, hcz33_3, hfz33_0, hfz33_1, hfz33_2, hfz33_3⟩ := cf4 BK255; obtain ⟨hcz34_0, hcz34_1, hcz34_2, hcz34_3, hfz34_0, hfz34_1, hfz34_2, hfz34_3⟩ := cf4 BK256))
    refine bodyPost_ret (results_ct rfl _ _ gb256 30 #[.slice Ao25 t259.length co25, .slice Ao27 t262.length co27, .slice Ao28 t265.length co28, .slice Ao29 t268.length co29] (0, 0) _ rfl (kp4 (kf0 BK256.out)) Try.underlying30 rfl (by kernel_rfl)) rfl ?_
    exact ⟨_, _, _, _, by first | rfl | (simp [errW_none, errW_some] <;> rfl) | (simp [*, errW_none, errW_some] <;> rfl), by exact ro (rg BK256 HO261), by exact ro (rg BK256 HO264), by exact ro (rg BK256 HO267), by exact ro (rg BK256 HO270), by exact bs2 GE255.out GE256.out HB.out⟩

end Go.Proofs.Ytkbaggfkidalfaa.A
