/- Contracts of functions of the given program (ASpecShadeCell). No conditions beyond those stated. -/
import Derived.Test.YtkbaggfkidalfaaA0
import Derived.Test.YtkbaggfkidalfaaASpecColoredValid
import Derived.Test.YtkbaggfkidalfaaASpecL1Cell
import Derived.Test.YtkbaggfkidalfaaASpecL3Copy
import Derived.Test.YtkbaggfkidalfaaASpecL3Shade
import Derived.Test.YtkbaggfkidalfaaA0
namespace Go.Proofs.Ytkbaggfkidalfaa.A
open Go.RowKit Go.Proofs.YtkbaggfkidalfaaW.PrintWords Go.Proofs.YtkbaggfkidalfaaW.PrintLast Go.Proofs.YtkbaggfkidalfaaW.PrintMore
attribute [local go_sem] max2_int min2_int max_two min_two max_three min_three max_four min_four   -- for this text's walks alone
set_option linter.unusedVariables false
set_option linter.unusedSimpArgs false

/-! ### spec_ShadeCell -/
def spec_ShadeCell.j0 : Nat → Int → Bool → List Int → List Int → List Int → List Int → Option (List Int × List Int × List Int × List Int × Bool)
 | 0, _, _, _, _, _, _ => none
 | k + 1, x1, x16, x162000, x162001, x162002, x162003 => if x16 = true then (some (([] : List Int), ([] : List Int), ([] : List Int), ([] : List Int), false)) else ((spec_l3Copy.f x162000 x162001 x162002 x162003).bind fun bt165 => ((spec_l3Shade.f bt165.2.2.2 x1).bind fun t178 => (some (bt165.1, bt165.2.1, bt165.2.2.1, t178, true))))
def spec_ShadeCell.f (k : Nat) (l0_0 : List Int) (l0_1 : List Int) (l0_2 : List Int) (l0_3 : List Int) (a1 : Int) : Option (List Int × List Int × List Int × List Int × Bool) := (spec_ColoredValid.f k l0_0 l0_1 l0_2 l0_3).bind fun t163 => (if t163 = true then ((spec_l1Cell.f k l0_0 l0_1 l0_2 a1).bind fun t164 => (spec_ShadeCell.j0 k a1 (!t164) l0_0 l0_1 l0_2 l0_3)) else (spec_ShadeCell.j0 k a1 true l0_0 l0_1 l0_2 l0_3))
theorem spec_ShadeCell.mono_l : ∀ k, (∀ y0 y1 y2 y3 y4 y5, LeO (spec_ShadeCell.j0 k y0 y1 y2 y3 y4 y5) (spec_ShadeCell.j0 (k + 1) y0 y1 y2 y3 y4 y5))
 | 0 => fun _ _ _ _ _ _ r h => by simp [spec_ShadeCell.j0] at h
 | k + 1 => by
  have ih0 := spec_ShadeCell.mono_l k
  ·intro y0 y1 y2 y3 y4 y5
   unfold spec_ShadeCell.j0
   repeat' first
   | (with_reducible exact ih0 _ _ _ _ _ _)
   | (with_reducible exact spec_ColoredValid.mono _ _ _ _ _)
   | (with_reducible exact spec_l1Cell.mono _ _ _ _ _)
   | (with_reducible exact LeO.refl _)
   | (with_reducible exact LeO.none _)
   | (with_reducible refine LeO.ite ?_ ?_)
   | (with_reducible refine LeO.bind ?_ (fun _ => ?_))
   | exact ih0 _ _ _ _ _ _
   | exact spec_ColoredValid.mono _ _ _ _ _
   | exact spec_l1Cell.mono _ _ _ _ _
   | exact LeO.none _
   | refine LeO.ite ?_ ?_
   | refine LeO.bind ?_ (fun _ => ?_)
theorem spec_ShadeCell.mono : ∀ a0 a1 a2 a3 a4 k, LeO (spec_ShadeCell.f k a0 a1 a2 a3 a4) (spec_ShadeCell.f (k + 1) a0 a1 a2 a3 a4) := by
 intro a0 a1 a2 a3 a4 k
 have ih0 := spec_ShadeCell.mono_l k
 unfold spec_ShadeCell.f
 repeat' first
   | (with_reducible exact ih0 _ _ _ _ _ _)
   | (with_reducible exact spec_ColoredValid.mono _ _ _ _ _)
   | (with_reducible exact spec_l1Cell.mono _ _ _ _ _)
   | (with_reducible exact LeO.refl _)
   | (with_reducible exact LeO.none _)
   | (with_reducible refine LeO.ite ?_ ?_)
   | (with_reducible refine LeO.bind ?_ (fun _ => ?_))
   | exact ih0 _ _ _ _ _ _
   | exact spec_ColoredValid.mono _ _ _ _ _
   | exact spec_l1Cell.mono _ _ _ _ _
   | exact LeO.none _
   | refine LeO.ite ?_ ?_
   | refine LeO.bind ?_ (fun _ => ?_)
set_option maxHeartbeats 8000000 in
set_option maxRecDepth 100000 in
theorem spec_ShadeCell.calls (k : Nat) (A0_0 : Option Addr) (c0_0 : Nat) (l0_0 : List Int) (A0_1 : Option Addr) (c0_1 : Nat) (l0_1 : List Int) (A0_2 : Option Addr) (c0_2 : Nat) (l0_2 : List Int) (A0_3 : Option Addr) (c0_3 : Nat) (l0_3 : List Int) (a1 : Int) (r1 : List Int) (r2 : List Int) (r3 : List Int) (r4 : List Int) (r5 : Bool) (w : World) (hr0_0 : Kd.C (Kd.int .i64) w A0_0 l0_0.length l0_0) (hc0_0 : l0_0.length ≤ c0_0) (hr0_1 : Kd.C (Kd.int .i64) w A0_1 l0_1.length l0_1) (hc0_1 : l0_1.length ≤ c0_1) (hr0_2 : Kd.C (Kd.int .i64) w A0_2 l0_2.length l0_2) (hc0_2 : l0_2.length ≤ c0_2) (hr0_3 : Kd.C (Kd.int .i64) w A0_3 l0_3.length l0_3) (hc0_3 : l0_3.length ≤ c0_3) (h : spec_ShadeCell.f k l0_0 l0_1 l0_2 l0_3 a1 = some (r1, r2, r3, r4, r5)) :
  Calls Try.prog 18 #[.agg #[.slice A0_0 l0_0.length c0_0, .slice A0_1 l0_1.length c0_1, .slice A0_2 l0_2.length c0_2, .slice A0_3 l0_3.length c0_3], .int .i64 a1] w fun e w' => ∃ v0_ v1_ v2_ v3_ : Value, e = .returned (.tuple #[.agg #[v0_, v1_, v2_, v3_], .bool r5]) ∧ Kd.R (Kd.int .i64) 3 w' w.heap.size (fun k_ => some k_ ≠ (v1_ : Value).ownBlock ∧ some k_ ≠ (v2_ : Value).ownBlock ∧ some k_ ≠ (v3_ : Value).ownBlock) v0_ r1 ∧ Kd.R (Kd.int .i64) 3 w' w.heap.size (fun k_ => some k_ ≠ (v0_ : Value).ownBlock ∧ some k_ ≠ (v2_ : Value).ownBlock ∧ some k_ ≠ (v3_ : Value).ownBlock) v1_ r2 ∧ Kd.R (Kd.int .i64) 3 w' w.heap.size (fun k_ => some k_ ≠ (v0_ : Value).ownBlock ∧ some k_ ≠ (v1_ : Value).ownBlock ∧ some k_ ≠ (v3_ : Value).ownBlock) v2_ r3 ∧ Kd.R (Kd.int .i64) 3 w' w.heap.size (fun k_ => some k_ ≠ (v0_ : Value).ownBlock ∧ some k_ ≠ (v1_ : Value).ownBlock ∧ some k_ ≠ (v2_ : Value).ownBlock) v3_ r4 ∧ Below w.heap.size w w' := by
 have hu30 := Try.underlying30
 have hu28 := Try.underlying28
 have HR0_0 := am hr0_0
 have HC0_0 := am hc0_0
 clear hr0_0 hc0_0
 have HR0_1 := am hr0_1
 have HC0_1 := am hc0_1
 clear hr0_1 hc0_1
 have HR0_2 := am hr0_2
 have HC0_2 := am hc0_2
 clear hr0_2 hc0_2
 have HR0_3 := am hr0_3
 have HC0_3 := am hc0_3
 clear hr0_3 hc0_3
 have HB := am (Below.refl w.heap.size w)
 have H : ((spec_ColoredValid.f k l0_0 l0_1 l0_2 l0_3).bind fun t163 => (if t163 = true then ((spec_l1Cell.f k l0_0 l0_1 l0_2 a1).bind fun t164 => (spec_ShadeCell.j0 k a1 (!t164) l0_0 l0_1 l0_2 l0_3)) else (spec_ShadeCell.j0 k a1 true l0_0 l0_1 l0_2 l0_3))) = some (r1, r2, r3, r4, r5) := h
 clear h
 have HC3 := am H
 clear H
 go_enter Try.func18, Try.ntmps18
 go_upto_region 1 with (first | ((with_reducible refine gate_dst (N := 2) rfl ?_); refine box_event ?hg (N := 2) ?hd (cs := #[.slice A0_0 l0_0.length c0_0, .slice A0_1 l0_1.length c0_1, .slice A0_2 l0_2.length c0_2, .slice A0_3 l0_3.length c0_3]) (t := 30) ?hr ?_; (case hd => rfl); (case hg => rfl); (case hr => first | (go_simp; done) | (go_simp; rfl)); intro gb161 hg w4 hbox hb; have BK161 := am (hbox); have GW161 := am ((by rw [hg]; exact (below_size (bl HB.out)) : w.heap.size ≤ gb161)); have GE161 := am ((by rw [hg]; exact (below_size (bl HB.out)) : w.heap.size ≤ gb161)); replace HB := am (below_step (bl HB.out) hb); clear hb hbox hg) | ((with_reducible refine gate_dst (N := 4) rfl ?_); refine box_event ?hg (N := 4) ?hd (cs := #[.slice none 0 0, .slice none 0 0, .slice none 0 0, .slice none 0 0]) (t := 30) ?hr ?_; (case hd => rfl); (case hg => rfl); (case hr => first | (go_simp; done) | (go_simp; rfl)); intro gb162 hg w5 hbox hb; have BK162 := am (hbox); have GW162 := am ((by rw [hg]; exact (below_size (bs1 GE161.out HB.out)) : w.heap.size ≤ gb162)); have GE162 := am ((by rw [hg]; exact (below_size (bs1 GE161.out HB.out)) : w.heap.size ≤ gb162)); replace HB := am (below_step (bs1 GE161.out HB.out) hb); have NB161_162 := nb BK161 hg; have NB162_161 := nc BK161 hg; replace BK161 := bb BK161 hb; clear hb hbox hg))
 (try simp only [Act.put, List.setIfInBounds_toArray, List.set_cons_zero, List.set_cons_succ])
 go_cut [16] (fun v16 wc => ∃ (kq : Nat) (x16_2 : Bool), v16 = .bool x16_2 ∧ Aside0 (spec_ShadeCell.j0 kq a1 x16_2 l0_0 l0_1 l0_2 l0_3 = some (r1, r2, r3, r4, r5)) ∧ Aside0 (kq ≤ k) ∧ Aside0 (wc.heap[gb161]? = some (.cells #[(.slice A0_0 l0_0.length c0_0), (.slice A0_1 l0_1.length c0_1), (.slice A0_2 l0_2.length c0_2), (.slice A0_3 l0_3.length c0_3)] 30 (0, 0))) ∧ Aside0 (wc.heap[gb162]? = some (.cells #[(.slice none 0 0), (.slice none 0 0), (.slice none 0 0), (.slice none 0 0)] 30 (0, 0))) ∧ Aside0 (Below w.heap.size w wc))
 case first =>
  have H := HC3.out
  clear HC3
  replace H := Option.bind_eq_some_iff.mp H
  obtain ⟨t163, A60, H⟩ := H
  replace H : (if t163 = true then ((spec_l1Cell.f k l0_0 l0_1 l0_2 a1).bind fun t164 => (spec_ShadeCell.j0 k a1 (!t164) l0_0 l0_1 l0_2 l0_3)) else (spec_ShadeCell.j0 k a1 true l0_0 l0_1 l0_2 l0_3)) = some (r1, r2, r3, r4, r5) := H
  have A6 := am A60
  clear A60
  by_cases c7 : t163 = true
  ·subst c7
   have H1 : ((spec_l1Cell.f k l0_0 l0_1 l0_2 a1).bind fun t164 => (spec_ShadeCell.j0 k a1 (!t164) l0_0 l0_1 l0_2 l0_3)) = some (r1, r2, r3, r4, r5) := by rw [if_pos rfl] at H; exact H
   clear H
   have H := H1
   clear H1
   replace H := Option.bind_eq_some_iff.mp H
   obtain ⟨t164, A80, H⟩ := H
   replace H : (spec_ShadeCell.j0 k a1 (!t164) l0_0 l0_1 l0_2 l0_3) = some (r1, r2, r3, r4, r5) := H
   have A8 := am A80
   clear A80
   have H' := am H
   clear H
   have hnb9 := NB161_162.out
   have hnc9 := NB162_161.out
   obtain ⟨hcz10_0, hcz10_1, hcz10_2, hcz10_3, hfz10_0, hfz10_1, hfz10_2, hfz10_3⟩ := cf4 BK161
   go_wp2_with (first | ((with_reducible refine gate_callee (f := 36) rfl ?_); refine gL (some 8) rfl rfl Try.func36 (by kernel_rfl) rfl #[.agg #[.slice A0_0 l0_0.length c0_0, .slice A0_1 l0_1.length c0_1, .slice A0_2 l0_2.length c0_2, .slice A0_3 l0_3.length c0_3]] rfl ?_; (with_reducible refine (spec_ColoredValid.calls k _ _ l0_0 _ _ l0_1 _ _ l0_2 _ _ l0_3 true _ ?side1 ?side2 ?side3 ?side4 ?side5 ?side6 ?side7 ?side8 A6.out).mono ?_); (case side1 => exact ci HR0_0 HB); (case side2 => exact HC0_0.out); (case side3 => exact ci HR0_1 HB); (case side4 => exact HC0_1.out); (case side5 => exact ci HR0_2 HB); (case side6 => exact HC0_2.out); (case side7 => exact ci HR0_3 HB); (case side8 => exact HC0_3.out); rintro e w11 ⟨rfl, hb⟩; refine ⟨_, rfl, ?_⟩; replace BK161 := bb BK161 hb; replace BK162 := bb BK162 hb; replace HB := am (below_step (bs2 GE161.out GE162.out HB.out) hb); (try clear hb); obtain ⟨hcz12_0, hcz12_1, hcz12_2, hcz12_3, hfz12_0, hfz12_1, hfz12_2, hfz12_3⟩ := cf4 BK161) | (go_at_call 54; (with_reducible refine (spec_l1Cell.calls k _ _ l0_0 _ _ l0_1 _ _ l0_2 a1 t164 _ ?side1 ?side2 ?side3 ?side4 ?side5 ?side6 A8.out).mono ?_); (case side1 => exact ci HR0_0 HB); (case side2 => exact HC0_0.out); (case side3 => exact ci HR0_1 HB); (case side4 => exact HC0_1.out); (case side5 => exact ci HR0_2 HB); (case side6 => exact HC0_2.out); rintro e w13 ⟨rfl, hb⟩; replace BK161 := bb BK161 hb; replace BK162 := bb BK162 hb; replace HB := am (below_step (bs2 GE161.out GE162.out HB.out) hb); (try clear hb)))
   go_meet
   case rel => exact ⟨_, (!t164), (by first | rfl | (simp; done) | (simp [*]; done)), H', ⟨by first | omega | exact Nat.le_refl _⟩, ⟨kl BK161.out⟩, ⟨kl BK162.out⟩, ⟨by exact bs2 GE161.out GE162.out HB.out⟩⟩
  ·replace c7 := Bool.eq_false_iff.mpr c7
   subst c7
   have H1 : (spec_ShadeCell.j0 k a1 true l0_0 l0_1 l0_2 l0_3) = some (r1, r2, r3, r4, r5) := by rw [if_neg (show ¬ (false = true) by decide)] at H; exact H
   clear H
   have H := H1
   clear H1
   have H' := am H
   clear H
   have hnb14 := NB161_162.out
   have hnc14 := NB162_161.out
   obtain ⟨hcz15_0, hcz15_1, hcz15_2, hcz15_3, hfz15_0, hfz15_1, hfz15_2, hfz15_3⟩ := cf4 BK161
   go_wp2_with (first | ((with_reducible refine gate_callee (f := 36) rfl ?_); refine gL (some 8) rfl rfl Try.func36 (by kernel_rfl) rfl #[.agg #[.slice A0_0 l0_0.length c0_0, .slice A0_1 l0_1.length c0_1, .slice A0_2 l0_2.length c0_2, .slice A0_3 l0_3.length c0_3]] rfl ?_; (with_reducible refine (spec_ColoredValid.calls k _ _ l0_0 _ _ l0_1 _ _ l0_2 _ _ l0_3 false _ ?side1 ?side2 ?side3 ?side4 ?side5 ?side6 ?side7 ?side8 A6.out).mono ?_); (case side1 => exact ci HR0_0 HB); (case side2 => exact HC0_0.out); (case side3 => exact ci HR0_1 HB); (case side4 => exact HC0_1.out); (case side5 => exact ci HR0_2 HB); (case side6 => exact HC0_2.out); (case side7 => exact ci HR0_3 HB); (case side8 => exact HC0_3.out); rintro e w16 ⟨rfl, hb⟩; refine ⟨_, rfl, ?_⟩; replace BK161 := bb BK161 hb; replace BK162 := bb BK162 hb; replace HB := am (below_step (bs2 GE161.out GE162.out HB.out) hb); (try clear hb)))
   go_meet
   case rel => exact ⟨_, (true), (by first | rfl | (simp; done) | (simp [*]; done)), H', ⟨by first | omega | exact Nat.le_refl _⟩, ⟨kl BK161.out⟩, ⟨kl BK162.out⟩, ⟨by exact bs2 GE161.out GE162.out HB.out⟩⟩
 case rest =>
  clear HC3
  try clear c1
  try clear p2
  try clear c3
  try clear c7
  try clear c9
  try clear c14
  obtain ⟨kq, x16_2, rfl, HA, HJ2, BK161, BK162, HB⟩ := hcut
  cases kq with
  | zero => exact absurd HA.out (by simp [spec_ShadeCell.j0])
  | succ kj2 =>
   have H := HA.out
   clear HA
   simp only [spec_ShadeCell.j0] at H
   by_cases c17 : x16_2 = true
   ·subst c17
    have H1 : (some (([] : List Int), ([] : List Int), ([] : List Int), ([] : List Int), false)) = some (r1, r2, r3, r4, r5) := by rw [if_pos rfl] at H; exact H
    clear H
    have H := H1
    clear H1
    simp only [Option.some.injEq, Prod.mk.injEq] at H
    obtain ⟨rfl, rfl, rfl, rfl, rfl⟩ := H
    have hnb18 := NB162_161.out
    have hnc18 := NB161_162.out
    obtain ⟨hcz19_0, hcz19_1, hcz19_2, hcz19_3, hfz19_0, hfz19_1, hfz19_2, hfz19_3⟩ := cf4 BK162
    go_wp2
    refine bodyPost_ret (results_ct rfl _ _ gb162 30 #[.slice none 0 0, .slice none 0 0, .slice none 0 0, .slice none 0 0] (0, 0) _ rfl (kp4 (kf0 BK162.out)) Try.underlying30 rfl (by kernel_rfl)) rfl ?_
    exact ⟨_, _, _, _, by first | rfl | (simp [errW_none, errW_some] <;> rfl) | (simp [*, errW_none, errW_some] <;> rfl), by first | exact Kd.R_nil _ _ _ _ _ | exact Kd.N_nil _ _ _ _ _ | exact Kd.V_nil _ _ _ _ _ | exact Kd.Q_nil _ _ _ _ _ | exact Kd.S_nil _ _ _ _ _, by first | exact Kd.R_nil _ _ _ _ _ | exact Kd.N_nil _ _ _ _ _ | exact Kd.V_nil _ _ _ _ _ | exact Kd.Q_nil _ _ _ _ _ | exact Kd.S_nil _ _ _ _ _, by first | exact Kd.R_nil _ _ _ _ _ | exact Kd.N_nil _ _ _ _ _ | exact Kd.V_nil _ _ _ _ _ | exact Kd.Q_nil _ _ _ _ _ | exact Kd.S_nil _ _ _ _ _, by first | exact Kd.R_nil _ _ _ _ _ | exact Kd.N_nil _ _ _ _ _ | exact Kd.V_nil _ _ _ _ _ | exact Kd.Q_nil _ _ _ _ _ | exact Kd.S_nil _ _ _ _ _, by exact bs2 GE161.out GE162.out HB.out⟩
   ·replace c17 := Bool.eq_false_iff.mpr c17
    subst c17
    have H1 : ((spec_l3Copy.f l0_0 l0_1 l0_2 l0_3).bind fun bt165 => ((spec_l3Shade.f bt165.2.2.2 a1).bind fun t178 => (some (bt165.1, bt165.2.1, bt165.2.2.1, t178, true)))) = some (r1, r2, r3, r4, r5) := by rw [if_neg (show ¬ (false = true) by decide)] at H; exact H
    clear H
    have H := H1
    clear H1
    replace H := Option.bind_eq_some_iff.mp H
    obtain ⟨⟨t165, t168, t171, t174⟩, A200, H⟩ := H
    replace H : ((spec_l3Shade.f t174 a1).bind fun t178 => (some (t165, t168, t171, t178, true))) = some (r1, r2, r3, r4, r5) := H
    have A20 := am A200
    clear A200
    replace H := Option.bind_eq_some_iff.mp H
    obtain ⟨t178, A210, H⟩ := H
    replace H : (some (t165, t168, t171, t178, true)) = some (r1, r2, r3, r4, r5) := H
    have A21 := am A210
    clear A210
    simp only [Option.some.injEq, Prod.mk.injEq] at H
    obtain ⟨rfl, rfl, rfl, rfl, rfl⟩ := H
    have hnb22 := NB161_162.out
    have hnc22 := NB162_161.out
    obtain ⟨hcz23_0, hcz23_1, hcz23_2, hcz23_3, hfz23_0, hfz23_1, hfz23_2, hfz23_3⟩ := cf4 BK161
    go_wp2_with (first | ((with_reducible refine gate_callee (f := 55) rfl ?_); refine gL (some 19) rfl rfl Try.func55 (by kernel_rfl) rfl #[.agg #[.slice A0_0 l0_0.length c0_0, .slice A0_1 l0_1.length c0_1, .slice A0_2 l0_2.length c0_2, .slice A0_3 l0_3.length c0_3]] rfl ?_; (with_reducible refine (spec_l3Copy.calls _ _ l0_0 _ _ l0_1 _ _ l0_2 _ _ l0_3 t165 t168 t171 t174 _ ?side1 ?side2 ?side3 ?side4 ?side5 ?side6 ?side7 ?side8 A20.out).mono ?_); (case side1 => exact ci HR0_0 HB); (case side2 => exact HC0_0.out); (case side3 => exact ci HR0_1 HB); (case side4 => exact HC0_1.out); (case side5 => exact ci HR0_2 HB); (case side6 => exact HC0_2.out); (case side7 => exact ci HR0_3 HB); (case side8 => exact HC0_3.out); rintro e w24 ⟨v166, v169, v172, v175, rfl, ho0, ho1, ho2, ho3, hb⟩; refine ⟨_, rfl, ?_⟩; have HO167 := ln0 ho0 (bs2 GE161.out GE162.out HB.out); have HO170 := ln0 ho1 (bs2 GE161.out GE162.out HB.out); have HO173 := ln0 ho2 (bs2 GE161.out GE162.out HB.out); have HO176 := ln0 ho3 (bs2 GE161.out GE162.out HB.out); replace BK161 := bb BK161 hb; replace BK162 := bb BK162 hb; replace HB := am (below_step (bs2 GE161.out GE162.out HB.out) hb); (try clear hb ho0 ho1 ho2 ho3)) | ((with_reducible refine gate_dst (N := 6) rfl ?_); refine box_event ?hg (N := 6) ?hd (cs := #[.slice none 0 0, .slice none 0 0, .slice none 0 0, .slice none 0 0]) (t := 30) ?hr ?_; (case hd => rfl); (case hg => rfl); (case hr => first | (go_simp; done) | (go_simp; rfl)); intro gb177 hg w25 hbox hb; replace HO167 := rb HO167 hb; replace HO170 := rb HO170 hb; replace HO173 := rb HO173 hb; replace HO176 := rb HO176 hb; have BK177 := am (hbox); have GW177 := am ((by rw [hg]; exact (below_size (bs2 GE161.out GE162.out HB.out)) : w.heap.size ≤ gb177)); have GE177 := am ((by rw [hg]; exact (below_size (bs2 GE161.out GE162.out HB.out)) : w.heap.size ≤ gb177)); replace HB := am (below_step (bs2 GE161.out GE162.out HB.out) hb); have NB161_177 := nb BK161 hg; have NB177_161 := nc BK161 hg; replace BK161 := bb BK161 hb; have NB162_177 := nb BK162 hg; have NB177_162 := nc BK162 hg; replace BK162 := bb BK162 hb; clear hb hbox hg; obtain ⟨Ao26, co26, eo26⟩ := Kd.R_slice HO167.out; subst eo26; have hnb27 := NB177_161.out; have hnc27 := NB161_177.out; have hnb28 := NB177_162.out; have hnc28 := NB162_177.out; obtain ⟨hcz29_0, hcz29_1, hcz29_2, hcz29_3, hfz29_0, hfz29_1, hfz29_2, hfz29_3⟩ := cf4 BK177; obtain ⟨Ao30, co30, eo30⟩ := Kd.R_slice HO170.out; subst eo30; obtain ⟨Ao31, co31, eo31⟩ := Kd.R_slice HO173.out; subst eo31; obtain ⟨Ao32, co32, eo32⟩ := Kd.R_slice HO176.out; subst eo32) | ((with_reducible refine gate_store (t := 30) (p := 6) rfl ?_); refine store_event (t := 30) (p := 6) (v := ?vo_w33) (w1 := ((((w25.setCell ⟨gb177, 0, none⟩ (.slice Ao26 t165.length co26)).setCell ⟨gb177, 1, none⟩ (.slice Ao30 t168.length co30)).setCell ⟨gb177, 2, none⟩ (.slice Ao31 t171.length co31)).setCell ⟨gb177, 3, none⟩ (.slice Ao32 t174.length co32))) ?hg ?ho ?hn ?hr ?_; (case ho => rfl); (case hg => rfl); (case hn => rfl); (case hr => first | (go_simp; done) | (go_simp; rfl)); intro w33 hw; replace HO167 : Aside0 (Kd.R (Kd.int .i64) 3 w33 w.heap.size (fun k_ => some k_ ≠ (.slice Ao30 t168.length co30 : Value).ownBlock ∧ some k_ ≠ (.slice Ao31 t171.length co31 : Value).ownBlock ∧ some k_ ≠ (.slice Ao32 t174.length co32 : Value).ownBlock) (.slice Ao26 t165.length co26) t165) := ⟨(by rw [hw]; exact (rl (Kd.R_mono (Kd.R_far (p := ⟨gb177, 3, none⟩) (Kd.R_far (p := ⟨gb177, 2, none⟩) (Kd.R_far (p := ⟨gb177, 1, none⟩) (Kd.R_far (p := ⟨gb177, 0, none⟩) (Kd.R_types HO167.out BK177.out (by decide)) (fun _ hk => hk.2) (.slice Ao26 t165.length co26)) (fun _ hk => hk.2) (.slice Ao30 t168.length co30)) (fun _ hk => hk.2) (.slice Ao31 t171.length co31)) (fun _ hk => hk.2) (.slice Ao32 t174.length co32)) (fun _ hk => by first | exact ⟨hk.1.1, ⟨hk.1.2.1, hk.1.2.2⟩⟩ | (simp only [ne_eq] at hk ⊢; simp only [hk, not_false_eq_true, and_self])))))⟩; replace HO170 : Aside0 (Kd.R (Kd.int .i64) 3 w33 w.heap.size (fun k_ => some k_ ≠ (.slice Ao26 t165.length co26 : Value).ownBlock ∧ some k_ ≠ (.slice Ao31 t171.length co31 : Value).ownBlock ∧ some k_ ≠ (.slice Ao32 t174.length co32 : Value).ownBlock) (.slice Ao30 t168.length co30) t168) := ⟨(by rw [hw]; exact (rl (Kd.R_mono (Kd.R_far (p := ⟨gb177, 3, none⟩) (Kd.R_far (p := ⟨gb177, 2, none⟩) (Kd.R_far (p := ⟨gb177, 1, none⟩) (Kd.R_far (p := ⟨gb177, 0, none⟩) (Kd.R_types HO170.out BK177.out (by decide)) (fun _ hk => hk.2) (.slice Ao26 t165.length co26)) (fun _ hk => hk.2) (.slice Ao30 t168.length co30)) (fun _ hk => hk.2) (.slice Ao31 t171.length co31)) (fun _ hk => hk.2) (.slice Ao32 t174.length co32)) (fun _ hk => by first | exact ⟨hk.1.1, ⟨hk.1.2.1, hk.1.2.2⟩⟩ | (simp only [ne_eq] at hk ⊢; simp only [hk, not_false_eq_true, and_self])))))⟩; replace HO173 : Aside0 (Kd.R (Kd.int .i64) 3 w33 w.heap.size (fun k_ => some k_ ≠ (.slice Ao26 t165.length co26 : Value).ownBlock ∧ some k_ ≠ (.slice Ao30 t168.length co30 : Value).ownBlock ∧ some k_ ≠ (.slice Ao32 t174.length co32 : Value).ownBlock) (.slice Ao31 t171.length co31) t171) := ⟨(by rw [hw]; exact (rl (Kd.R_mono (Kd.R_far (p := ⟨gb177, 3, none⟩) (Kd.R_far (p := ⟨gb177, 2, none⟩) (Kd.R_far (p := ⟨gb177, 1, none⟩) (Kd.R_far (p := ⟨gb177, 0, none⟩) (Kd.R_types HO173.out BK177.out (by decide)) (fun _ hk => hk.2) (.slice Ao26 t165.length co26)) (fun _ hk => hk.2) (.slice Ao30 t168.length co30)) (fun _ hk => hk.2) (.slice Ao31 t171.length co31)) (fun _ hk => hk.2) (.slice Ao32 t174.length co32)) (fun _ hk => by first | exact ⟨hk.1.1, ⟨hk.1.2.1, hk.1.2.2⟩⟩ | (simp only [ne_eq] at hk ⊢; simp only [hk, not_false_eq_true, and_self])))))⟩; replace HO176 : Aside0 (Kd.R (Kd.int .i64) 3 w33 w.heap.size (fun k_ => some k_ ≠ (.slice Ao26 t165.length co26 : Value).ownBlock ∧ some k_ ≠ (.slice Ao30 t168.length co30 : Value).ownBlock ∧ some k_ ≠ (.slice Ao31 t171.length co31 : Value).ownBlock) (.slice Ao32 t174.length co32) t174) := ⟨(by rw [hw]; exact (rl (Kd.R_mono (Kd.R_far (p := ⟨gb177, 3, none⟩) (Kd.R_far (p := ⟨gb177, 2, none⟩) (Kd.R_far (p := ⟨gb177, 1, none⟩) (Kd.R_far (p := ⟨gb177, 0, none⟩) (Kd.R_types HO176.out BK177.out (by decide)) (fun _ hk => hk.2) (.slice Ao26 t165.length co26)) (fun _ hk => hk.2) (.slice Ao30 t168.length co30)) (fun _ hk => hk.2) (.slice Ao31 t171.length co31)) (fun _ hk => hk.2) (.slice Ao32 t174.length co32)) (fun _ hk => by first | exact ⟨hk.1.1, ⟨hk.1.2.1, hk.1.2.2⟩⟩ | (simp only [ne_eq] at hk ⊢; simp only [hk, not_false_eq_true, and_self])))))⟩; replace BK161 : Aside0 (w33.heap[gb161]? = some (.cells #[.slice A0_0 l0_0.length c0_0, .slice A0_1 l0_1.length c0_1, .slice A0_2 l0_2.length c0_2, .slice A0_3 l0_3.length c0_3] 30 (0, 0))) := ⟨(by rw [hw]; exact (kf1 NB161_177.out BK161.out))⟩; replace BK162 : Aside0 (w33.heap[gb162]? = some (.cells #[.slice none 0 0, .slice none 0 0, .slice none 0 0, .slice none 0 0] 30 (0, 0))) := ⟨(by rw [hw]; exact (kf1 NB162_177.out BK162.out))⟩; replace BK177 : Aside0 (w33.heap[gb177]? = some (.cells #[.slice Ao26 t165.length co26, .slice Ao30 t168.length co30, .slice Ao31 t171.length co31, .slice Ao32 t174.length co32] 30 (0, 0))) := ⟨(by rw [hw]; exact (kp4 (kf0 BK177.out)))⟩; replace HB : Aside0 (Below w.heap.size w w33) := ⟨(by rw [hw]; exact (bs3 GE161.out GE162.out GE177.out HB.out))⟩; clear hw; obtain ⟨hcz34_0, hcz34_1, hcz34_2, hcz34_3, hfz34_0, hfz34_1, hfz34_2, hfz34_3⟩ := cf4 BK177) | ((with_reducible refine gate_callee (f := 56) rfl ?_); refine gL (some 23) rfl rfl Try.func56 (by kernel_rfl) rfl #[.slice Ao32 t174.length co32, .int .i64 a1] rfl ?_; (with_reducible refine (spec_l3Shade.calls (fun k_ => some k_ = (.slice Ao32 t174.length co32 : Value).ownBlock) (.slice Ao32 t174.length co32) t174 a1 t178 w _ ?side1 ?side2 A21.out).mono ?_); (case side1 => exact bs3 GE161.out GE162.out GE177.out HB.out); (case side2 => exact Kd.R_tight rfl HO176.out); rintro e w35 ⟨v179, rfl, ho0, hb, hkp⟩; refine ⟨_, rfl, ?_⟩; replace BK161 := am (blk_kept (kl BK161.out) hkp (fun hs_ => (fun e_ => (Kd.R_ne HO176.out BK161.out (by decide)) e_) hs_)); replace BK162 := am (blk_kept (kl BK162.out) hkp (fun hs_ => (fun e_ => (Kd.R_ne HO176.out BK162.out (by decide)) e_) hs_)); replace BK177 := am (blk_kept (kl BK177.out) hkp (fun hs_ => (fun e_ => (Kd.R_ne HO176.out BK177.out (by decide)) e_) hs_)); have HO180 := am (Kd.R_mono (ok' := fun k_ => some k_ ≠ (.slice Ao26 t165.length co26 : Value).ownBlock ∧ some k_ ≠ (.slice Ao30 t168.length co30 : Value).ownBlock ∧ some k_ ≠ (.slice Ao31 t171.length co31 : Value).ownBlock) ho0 (fun k_ hk_ => ⟨Or.elim hk_ (fun hs_ => fun e_ => (((HO167.out).1 k_ e_.symm).2.2) hs_) (fun hn_ => (Kd.fresh' (Kd.R_lt (rl HO167.out)) k_ hn_)), Or.elim hk_ (fun hs_ => fun e_ => (((HO170.out).1 k_ e_.symm).2.2) hs_) (fun hn_ => (Kd.fresh' (Kd.R_lt (rl HO170.out)) k_ hn_)), Or.elim hk_ (fun hs_ => fun e_ => (((HO173.out).1 k_ e_.symm).2.2) hs_) (fun hn_ => (Kd.fresh' (Kd.R_lt (rl HO173.out)) k_ hn_))⟩)); replace HO167 := am (Kd.R_mono (ok' := fun k_ => some k_ ≠ (.slice Ao30 t168.length co30 : Value).ownBlock ∧ some k_ ≠ (.slice Ao31 t171.length co31 : Value).ownBlock ∧ some k_ ≠ (v179 : Value).ownBlock) (Kd.R_keptB (HO167.out) hkp (fun k_ hk_ hs_ => (hk_.2.2) hs_)) (fun k_ hk_ => ⟨hk_.1.1, hk_.1.2.1, fun e_ => Or.elim (ho0.1 k_ e_.symm) (fun hs_ => hk_.2.1 hs_) (fun hn_ => Nat.not_le.2 hk_.2.2 hn_)⟩)); replace HO170 := am (Kd.R_mono (ok' := fun k_ => some k_ ≠ (.slice Ao26 t165.length co26 : Value).ownBlock ∧ some k_ ≠ (.slice Ao31 t171.length co31 : Value).ownBlock ∧ some k_ ≠ (v179 : Value).ownBlock) (Kd.R_keptB (HO170.out) hkp (fun k_ hk_ hs_ => (hk_.2.2) hs_)) (fun k_ hk_ => ⟨hk_.1.1, hk_.1.2.1, fun e_ => Or.elim (ho0.1 k_ e_.symm) (fun hs_ => hk_.2.1 hs_) (fun hn_ => Nat.not_le.2 hk_.2.2 hn_)⟩)); replace HO173 := am (Kd.R_mono (ok' := fun k_ => some k_ ≠ (.slice Ao26 t165.length co26 : Value).ownBlock ∧ some k_ ≠ (.slice Ao30 t168.length co30 : Value).ownBlock ∧ some k_ ≠ (v179 : Value).ownBlock) (Kd.R_keptB (HO173.out) hkp (fun k_ hk_ hs_ => (hk_.2.2) hs_)) (fun k_ hk_ => ⟨hk_.1.1, hk_.1.2.1, fun e_ => Or.elim (ho0.1 k_ e_.symm) (fun hs_ => hk_.2.1 hs_) (fun hn_ => Nat.not_le.2 hk_.2.2 hn_)⟩)); replace HB := am (hb); clear HO176; (try clear hb hkp ho0); obtain ⟨Ao36, co36, eo36⟩ := Kd.R_slice HO180.out; subst eo36; obtain ⟨hcz37_0, hcz37_1, hcz37_2, hcz37_3, hfz37_0, hfz37_1, hfz37_2, hfz37_3⟩ := cf4 BK177; obtain ⟨hcz38_0, hcz38_1, hcz38_2, hcz38_3, hfz38_0, hfz38_1, hfz38_2, hfz38_3⟩ := cf4 BK162))
    refine bodyPost_ret (results_ct rfl _ _ gb162 30 #[.slice Ao26 t165.length co26, .slice Ao30 t168.length co30, .slice Ao31 t171.length co31, .slice Ao36 t178.length co36] (0, 0) _ rfl (kp4 (kf1 NB162_177.out BK162.out)) Try.underlying30 rfl (by kernel_rfl)) rfl ?_
    exact ⟨_, _, _, _, by first | rfl | (simp [errW_none, errW_some] <;> rfl) | (simp [*, errW_none, errW_some] <;> rfl), by exact ro (rg2 BK177 BK162 HO167), by exact ro (rg2 BK177 BK162 HO170), by exact ro (rg2 BK177 BK162 HO173), by exact ro (rg2 BK177 BK162 HO180), by exact bs3 GE161.out GE162.out GE177.out HB.out⟩

end Go.Proofs.Ytkbaggfkidalfaa.A
