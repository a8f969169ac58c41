/- Contracts of functions of the given program (ASpecColorHolds). No conditions beyond those stated. -/
import Derived.Test.YtkbaggfkidalfaaA0
import Derived.Test.YtkbaggfkidalfaaASpecColoredValid
import Derived.Test.YtkbaggfkidalfaaA0
namespace Go.Proofs.Ytkbaggfkidalfaa.A
open Go.RowKit Go.Proofs.YtkbaggfkidalfaaW.PrintWords Go.Proofs.YtkbaggfkidalfaaW.PrintLast Go.Proofs.YtkbaggfkidalfaaW.PrintMore
attribute [local go_sem] max2_int min2_int max_two min_two max_three min_three max_four min_four   -- for this text's walks alone
set_option linter.unusedVariables false
set_option linter.unusedSimpArgs false

/-! ### spec_ColorHolds -/
mutual
def spec_ColorHolds.l0 : Nat → Int → List Int → List Int → List Int → List Int → Option (Bool)
 | 0, _, _, _, _, _ => none
 | k + 1, x3, x936000, x936001, x936002, x936003 => if x3 < (x936003.length : Int) then (if 0 ≤ x3 then (if x3 < (x936000.length : Int) then (if x3 < (x936001.length : Int) then (if (rd x936003 x3) = 2 then (if (rd x936000 x3) = (-1) then (if (rd x936001 x3) = (-1) then (spec_ColorHolds.j1 k x3 false x936000 x936001 x936002 x936003) else (if 0 ≤ (rd x936001 x3) then (if (rd x936001 x3) < (x936003.length : Int) then (spec_ColorHolds.j1 k x3 ((rd x936003 (rd x936001 x3)) == 0) x936000 x936001 x936002 x936003) else (none)) else (none))) else (if 0 ≤ (rd x936000 x3) then (if (rd x936000 x3) < (x936003.length : Int) then (if (rd x936003 (rd x936000 x3)) = 0 then (spec_ColorHolds.j1 k x3 true x936000 x936001 x936002 x936003) else (if (rd x936001 x3) = (-1) then (spec_ColorHolds.j1 k x3 false x936000 x936001 x936002 x936003) else (if 0 ≤ (rd x936001 x3) then (if (rd x936001 x3) < (x936003.length : Int) then (spec_ColorHolds.j1 k x3 ((rd x936003 (rd x936001 x3)) == 0) x936000 x936001 x936002 x936003) else (none)) else (none)))) else (none)) else (none))) else (spec_ColorHolds.j1 k x3 false x936000 x936001 x936002 x936003)) else (none)) else (none)) else (none)) else (some true)
def spec_ColorHolds.j1 : Nat → Int → Bool → List Int → List Int → List Int → List Int → Option (Bool)
 | 0, _, _, _, _, _, _ => none
 | k + 1, x3, x57, x936000, x936001, x936002, x936003 => if x57 = true then (some false) else (spec_ColorHolds.l0 k (wrap64 (x3 + 1)) x936000 x936001 x936002 x936003)
end
def spec_ColorHolds.f (k : Nat) (l0_0 : List Int) (l0_1 : List Int) (l0_2 : List Int) (l0_3 : List Int) : Option (Bool) := (spec_ColoredValid.f k l0_0 l0_1 l0_2 l0_3).bind fun t936 => (if t936 = true then (spec_ColorHolds.l0 k 0 l0_0 l0_1 l0_2 l0_3) else (some false))
theorem spec_ColorHolds.mono_l : ∀ k, (∀ y0 y1 y2 y3 y4, LeO (spec_ColorHolds.l0 k y0 y1 y2 y3 y4) (spec_ColorHolds.l0 (k + 1) y0 y1 y2 y3 y4)) ∧ (∀ y0 y1 y2 y3 y4 y5, LeO (spec_ColorHolds.j1 k y0 y1 y2 y3 y4 y5) (spec_ColorHolds.j1 (k + 1) y0 y1 y2 y3 y4 y5))
 | 0 => ⟨fun _ _ _ _ _ r h => by simp [spec_ColorHolds.l0] at h, fun _ _ _ _ _ _ r h => by simp [spec_ColorHolds.j1] at h⟩
 | k + 1 => by
  obtain ⟨ih0, ih1⟩ := spec_ColorHolds.mono_l k
  refine ⟨?_, ?_⟩
  ·intro y0 y1 y2 y3 y4
   unfold spec_ColorHolds.l0
   repeat' first
   | (with_reducible exact ih0 _ _ _ _ _)
   | (with_reducible exact ih1 _ _ _ _ _ _)
   | (with_reducible exact spec_ColoredValid.mono _ _ _ _ _)
   | (with_reducible exact LeO.refl _)
   | (with_reducible exact LeO.none _)
   | (with_reducible refine LeO.ite ?_ ?_)
   | (with_reducible refine LeO.bind ?_ (fun _ => ?_))
   | exact ih0 _ _ _ _ _
   | exact ih1 _ _ _ _ _ _
   | exact spec_ColoredValid.mono _ _ _ _ _
   | exact LeO.none _
   | refine LeO.ite ?_ ?_
   | refine LeO.bind ?_ (fun _ => ?_)
  ·intro y0 y1 y2 y3 y4 y5
   unfold spec_ColorHolds.j1
   repeat' first
   | (with_reducible exact ih0 _ _ _ _ _)
   | (with_reducible exact ih1 _ _ _ _ _ _)
   | (with_reducible exact spec_ColoredValid.mono _ _ _ _ _)
   | (with_reducible exact LeO.refl _)
   | (with_reducible exact LeO.none _)
   | (with_reducible refine LeO.ite ?_ ?_)
   | (with_reducible refine LeO.bind ?_ (fun _ => ?_))
   | exact ih0 _ _ _ _ _
   | exact ih1 _ _ _ _ _ _
   | exact spec_ColoredValid.mono _ _ _ _ _
   | exact LeO.none _
   | refine LeO.ite ?_ ?_
   | refine LeO.bind ?_ (fun _ => ?_)
theorem spec_ColorHolds.mono : ∀ a0 a1 a2 a3 k, LeO (spec_ColorHolds.f k a0 a1 a2 a3) (spec_ColorHolds.f (k + 1) a0 a1 a2 a3) := by
 intro a0 a1 a2 a3 k
 obtain ⟨ih0, ih1⟩ := spec_ColorHolds.mono_l k
 unfold spec_ColorHolds.f
 repeat' first
   | (with_reducible exact ih0 _ _ _ _ _)
   | (with_reducible exact ih1 _ _ _ _ _ _)
   | (with_reducible exact spec_ColoredValid.mono _ _ _ _ _)
   | (with_reducible exact LeO.refl _)
   | (with_reducible exact LeO.none _)
   | (with_reducible refine LeO.ite ?_ ?_)
   | (with_reducible refine LeO.bind ?_ (fun _ => ?_))
   | exact ih0 _ _ _ _ _
   | exact ih1 _ _ _ _ _ _
   | exact spec_ColoredValid.mono _ _ _ _ _
   | exact LeO.none _
   | refine LeO.ite ?_ ?_
   | refine LeO.bind ?_ (fun _ => ?_)
set_option maxHeartbeats 8000000 in
set_option maxRecDepth 100000 in
theorem spec_ColorHolds.calls (k : Nat) (A0_0 : Option Addr) (c0_0 : Nat) (l0_0 : List Int) (A0_1 : Option Addr) (c0_1 : Nat) (l0_1 : List Int) (A0_2 : Option Addr) (c0_2 : Nat) (l0_2 : List Int) (A0_3 : Option Addr) (c0_3 : Nat) (l0_3 : List Int) (r : Bool) (w : World) (hr0_0 : Kd.C (Kd.int .i64) w A0_0 l0_0.length l0_0) (hc0_0 : l0_0.length ≤ c0_0) (hr0_1 : Kd.C (Kd.int .i64) w A0_1 l0_1.length l0_1) (hc0_1 : l0_1.length ≤ c0_1) (hr0_2 : Kd.C (Kd.int .i64) w A0_2 l0_2.length l0_2) (hc0_2 : l0_2.length ≤ c0_2) (hr0_3 : Kd.C (Kd.int .i64) w A0_3 l0_3.length l0_3) (hc0_3 : l0_3.length ≤ c0_3) (h : spec_ColorHolds.f k l0_0 l0_1 l0_2 l0_3 = some r) :
  Calls Try.prog 32 #[.agg #[.slice A0_0 l0_0.length c0_0, .slice A0_1 l0_1.length c0_1, .slice A0_2 l0_2.length c0_2, .slice A0_3 l0_3.length c0_3]] w fun e w' => e = .returned (.bool r) ∧ Below w.heap.size w w' := by
 have hu30 := Try.underlying30
 have HR0_0 := am hr0_0
 have HC0_0 := am hc0_0
 clear hr0_0 hc0_0
 have HR0_1 := am hr0_1
 have HC0_1 := am hc0_1
 clear hr0_1 hc0_1
 have HR0_2 := am hr0_2
 have HC0_2 := am hc0_2
 clear hr0_2 hc0_2
 have HR0_3 := am hr0_3
 have HC0_3 := am hc0_3
 clear hr0_3 hc0_3
 have HB := am (Below.refl w.heap.size w)
 have H : ((spec_ColoredValid.f k l0_0 l0_1 l0_2 l0_3).bind fun t936 => (if t936 = true then (spec_ColorHolds.l0 k 0 l0_0 l0_1 l0_2 l0_3) else (some false))) = some r := h
 clear h
 replace H := Option.bind_eq_some_iff.mp H
 obtain ⟨t936, A20, H⟩ := H
 replace H : (if t936 = true then (spec_ColorHolds.l0 k 0 l0_0 l0_1 l0_2 l0_3) else (some false)) = some r := H
 have A2 := am A20
 clear A20
 by_cases c3 : t936 = true
 ·subst c3
  have H1 : (spec_ColorHolds.l0 k 0 l0_0 l0_1 l0_2 l0_3) = some r := by rw [if_pos rfl] at H; exact H
  clear H
  have H := H1
  clear H1
  have H' := am H
  clear H
  go_enter Try.func32, Try.ntmps32
  go_wp2_with (first | ((with_reducible refine gate_dst (N := 1) rfl ?_); refine box_event ?hg (N := 1) ?hd (cs := #[.slice A0_0 l0_0.length c0_0, .slice A0_1 l0_1.length c0_1, .slice A0_2 l0_2.length c0_2, .slice A0_3 l0_3.length c0_3]) (t := 30) ?hr ?_; (case hd => rfl); (case hg => rfl); (case hr => first | (go_simp; done) | (go_simp; rfl)); intro gb935 hg w4 hbox hb; have BK935 := am (hbox); have GW935 := am ((by rw [hg]; exact (below_size (bl HB.out)) : w.heap.size ≤ gb935)); have GE935 := am ((by rw [hg]; exact (below_size (bl HB.out)) : w.heap.size ≤ gb935)); replace HB := am (below_step (bl HB.out) hb); clear hb hbox hg; obtain ⟨hcz5_0, hcz5_1, hcz5_2, hcz5_3, hfz5_0, hfz5_1, hfz5_2, hfz5_3⟩ := cf4 BK935) | ((with_reducible refine gate_callee (f := 36) rfl ?_); refine gL (some 7) rfl rfl Try.func36 (by kernel_rfl) rfl #[.agg #[.slice A0_0 l0_0.length c0_0, .slice A0_1 l0_1.length c0_1, .slice A0_2 l0_2.length c0_2, .slice A0_3 l0_3.length c0_3]] rfl ?_; (with_reducible refine (spec_ColoredValid.calls k _ _ l0_0 _ _ l0_1 _ _ l0_2 _ _ l0_3 true _ ?side1 ?side2 ?side3 ?side4 ?side5 ?side6 ?side7 ?side8 A2.out).mono ?_); (case side1 => exact ci HR0_0 HB); (case side2 => exact HC0_0.out); (case side3 => exact ci HR0_1 HB); (case side4 => exact HC0_1.out); (case side5 => exact ci HR0_2 HB); (case side6 => exact HC0_2.out); (case side7 => exact ci HR0_3 HB); (case side8 => exact HC0_3.out); rintro e w6 ⟨rfl, hb⟩; refine ⟨_, rfl, ?_⟩; replace BK935 := bb BK935 hb; replace HB := am (below_step (bs1 GE935.out HB.out) hb); (try clear hb)))
  go_loopg [3] k (fun kq v3 w' => ∃ (x3_1 : Int), v3 = .int .i64 x3_1 ∧ Aside0 (spec_ColorHolds.l0 kq x3_1 l0_0 l0_1 l0_2 l0_3 = some r) ∧ Aside0 (kq ≤ k) ∧ Aside0 (w'.heap[gb935]? = some (.cells #[(.slice A0_0 l0_0.length c0_0), (.slice A0_1 l0_1.length c0_1), (.slice A0_2 l0_2.length c0_2), (.slice A0_3 l0_3.length c0_3)] 30 (0, 0))) ∧ Aside0 (Below w.heap.size w w'))
  case atStart => exact ⟨(0), (by first | rfl | (simp; done) | (simp [*]; done)), H', ⟨Nat.le_refl _⟩, ⟨kl BK935.out⟩, ⟨by exact bs1 GE935.out HB.out⟩⟩
  case round =>
   clear H'
   try clear p2
   try clear c3
   obtain ⟨x3_1, rfl, HA, HK1, BK935, HB⟩ := hrel
   cases gk with
   | zero => exact absurd HA.out (by simp [spec_ColorHolds.l0])
   | succ k1 =>
    have H := HA.out
    clear HA
    simp only [spec_ColorHolds.l0] at H
    by_cases c7 : x3_1 < (l0_3.length : Int)
    ·rw [if_pos c7] at H
     have c7b0 : decide (x3_1 < (l0_3.length : Int)) = true := decide_eq_true c7
     clear c7
     by_cases c8 : 0 ≤ x3_1
     ·rw [if_pos c8] at H
      have c8b0 : decide (0 ≤ x3_1) = true := decide_eq_true c8
      clear c8
      by_cases c9 : x3_1 < (l0_0.length : Int)
      ·rw [if_pos c9] at H
       have c9b0 : decide (x3_1 < (l0_0.length : Int)) = true := decide_eq_true c9
       clear c9
       by_cases c10 : x3_1 < (l0_1.length : Int)
       ·rw [if_pos c10] at H
        have c10b0 : decide (x3_1 < (l0_1.length : Int)) = true := decide_eq_true c10
        clear c10
        have HC11 := am H
        clear H
        obtain ⟨hcz12_0, hcz12_1, hcz12_2, hcz12_3, hfz12_0, hfz12_1, hfz12_2, hfz12_3⟩ := cf4 BK935
        have p937 : 0 ≤ (x3_1 : Int) := of_decide_eq_true (by first | (with_reducible assumption) | assumption)
        have q937 : x3_1 < (l0_0.length : Int) := of_decide_eq_true (by first | (with_reducible assumption) | assumption)
        obtain ⟨ad937, e937, hx937_0⟩ := Kd.at_int HR0_0.out x3_1 p937 q937
        cases e937
        try (replace hx937_0 := (HB.out.cell (World.block_lt_of_cell? w _ hx937_0)).trans hx937_0)
        replace p937 := eq_true p937
        replace q937 := eq_true q937
        have p938 : 0 ≤ (x3_1 : Int) := of_decide_eq_true (by first | (with_reducible assumption) | assumption)
        have q938 : x3_1 < (l0_1.length : Int) := of_decide_eq_true (by first | (with_reducible assumption) | assumption)
        obtain ⟨ad938, e938, hx938_0⟩ := Kd.at_int HR0_1.out x3_1 p938 q938
        cases e938
        try (replace hx938_0 := (HB.out.cell (World.block_lt_of_cell? w _ hx938_0)).trans hx938_0)
        replace p938 := eq_true p938
        replace q938 := eq_true q938
        go_upto_region 8 with (fail)
        go_cut [57] (fun v57 wc => ∃ (kq : Nat) (x57_10 : Bool), v57 = .bool x57_10 ∧ Aside0 (spec_ColorHolds.j1 kq x3_1 x57_10 l0_0 l0_1 l0_2 l0_3 = some r) ∧ Aside0 (kq ≤ k1) ∧ Aside0 (wc.heap[gb935]? = some (.cells #[(.slice (some ad937) l0_0.length c0_0), (.slice (some ad938) l0_1.length c0_1), (.slice A0_2 l0_2.length c0_2), (.slice A0_3 l0_3.length c0_3)] 30 (0, 0))) ∧ Aside0 (Below w.heap.size w wc))
        case first =>
         have H := HC11.out
         clear HC11
         by_cases c13 : (rd l0_3 x3_1) = 2
         ·rw [if_pos c13] at H
          have c13b0 : ((rd l0_3 x3_1) == 2) = true := beq_iff_eq.mpr c13
          have c13b1 : ((rd l0_3 x3_1) != 2) = false := bne_eq_false_iff_eq.mpr c13
          clear c13
          (first | rw [c13b0] | (simp only [i64_w, i32_w]; rw [c13b0]) | skip)
          by_cases c14 : (rd l0_0 x3_1) = (-1)
          ·rw [if_pos c14] at H
           have c14b0 : ((rd l0_0 x3_1) == (-1)) = true := beq_iff_eq.mpr c14
           have c14b1 : ((rd l0_0 x3_1) != (-1)) = false := bne_eq_false_iff_eq.mpr c14
           clear c14
           by_cases c15 : (rd l0_1 x3_1) = (-1)
           ·rw [if_pos c15] at H
            have c15b0 : ((rd l0_1 x3_1) == (-1)) = true := beq_iff_eq.mpr c15
            have c15b1 : ((rd l0_1 x3_1) != (-1)) = false := bne_eq_false_iff_eq.mpr c15
            clear c15
            have H' := am H
            clear H
            obtain ⟨hcz16_0, hcz16_1, hcz16_2, hcz16_3, hfz16_0, hfz16_1, hfz16_2, hfz16_3⟩ := cf4 BK935
            have p939 : 0 ≤ (x3_1 : Int) := of_decide_eq_true (by first | (with_reducible assumption) | assumption)
            have q939 : x3_1 < (l0_3.length : Int) := of_decide_eq_true (by first | (with_reducible assumption) | assumption)
            obtain ⟨ad939, e939, hx939_0⟩ := Kd.at_int HR0_3.out x3_1 p939 q939
            cases e939
            try (replace hx939_0 := (HB.out.cell (World.block_lt_of_cell? w _ hx939_0)).trans hx939_0)
            replace p939 := eq_true p939
            replace q939 := eq_true q939
            go_wp2
            go_meet
            case rel => exact ⟨_, (false), (by first | rfl | (simp; done) | (simp [*]; done)), H', ⟨by have := HK1.out; first | omega | exact Nat.le_refl _⟩, ⟨kl BK935.out⟩, ⟨by exact bs1 GE935.out HB.out⟩⟩
           ·rw [if_neg c15] at H
            have c15b0 : ((rd l0_1 x3_1) == (-1)) = false := beq_eq_false_iff_ne.mpr c15
            have c15b1 : ((rd l0_1 x3_1) != (-1)) = true := bne_iff_ne.mpr c15
            by_cases c17 : 0 ≤ (rd l0_1 x3_1)
            ·rw [if_pos c17] at H
             have c17b0 : decide (0 ≤ (rd l0_1 x3_1)) = true := decide_eq_true c17
             clear c17
             by_cases c18 : (rd l0_1 x3_1) < (l0_3.length : Int)
             ·rw [if_pos c18] at H
              have c18b0 : decide ((rd l0_1 x3_1) < (l0_3.length : Int)) = true := decide_eq_true c18
              clear c18
              have H' := am H
              clear H
              obtain ⟨hcz19_0, hcz19_1, hcz19_2, hcz19_3, hfz19_0, hfz19_1, hfz19_2, hfz19_3⟩ := cf4 BK935
              have p939 : 0 ≤ (x3_1 : Int) := of_decide_eq_true (by first | (with_reducible assumption) | assumption)
              have q939 : x3_1 < (l0_3.length : Int) := of_decide_eq_true (by first | (with_reducible assumption) | assumption)
              obtain ⟨ad939, e939, hx939_0⟩ := Kd.at_int HR0_3.out x3_1 p939 q939
              cases e939
              try (replace hx939_0 := (HB.out.cell (World.block_lt_of_cell? w _ hx939_0)).trans hx939_0)
              replace p939 := eq_true p939
              replace q939 := eq_true q939
              have p940 : 0 ≤ ((rd l0_1 x3_1) : Int) := of_decide_eq_true (by first | (with_reducible assumption) | assumption)
              have q940 : (rd l0_1 x3_1) < (l0_3.length : Int) := of_decide_eq_true (by first | (with_reducible assumption) | assumption)
              obtain ⟨ad940, e940, hx940_0⟩ := Kd.at_int HR0_3.out (rd l0_1 x3_1) p940 q940
              obtain rfl : ad939 = ad940 := (by injection e940)
              try (replace hx940_0 := (HB.out.cell (World.block_lt_of_cell? w _ hx940_0)).trans hx940_0)
              replace p940 := eq_true p940
              replace q940 := eq_true q940
              go_wp2
              go_meet
              case rel => exact ⟨_, (((rd l0_3 (rd l0_1 x3_1)) == 0)), (by first | rfl | (simp; done) | (simp [*]; done)), H', ⟨by have := HK1.out; first | omega | exact Nat.le_refl _⟩, ⟨kl BK935.out⟩, ⟨by exact bs1 GE935.out HB.out⟩⟩
             ·rw [if_neg c18] at H
              exact absurd H (by simp)
            ·rw [if_neg c17] at H
             exact absurd H (by simp)
          ·rw [if_neg c14] at H
           have c14b0 : ((rd l0_0 x3_1) == (-1)) = false := beq_eq_false_iff_ne.mpr c14
           have c14b1 : ((rd l0_0 x3_1) != (-1)) = true := bne_iff_ne.mpr c14
           by_cases c20 : 0 ≤ (rd l0_0 x3_1)
           ·rw [if_pos c20] at H
            have c20b0 : decide (0 ≤ (rd l0_0 x3_1)) = true := decide_eq_true c20
            clear c20
            by_cases c21 : (rd l0_0 x3_1) < (l0_3.length : Int)
            ·rw [if_pos c21] at H
             have c21b0 : decide ((rd l0_0 x3_1) < (l0_3.length : Int)) = true := decide_eq_true c21
             clear c21
             by_cases c22 : (rd l0_3 (rd l0_0 x3_1)) = 0
             ·rw [if_pos c22] at H
              have c22b0 : ((rd l0_3 (rd l0_0 x3_1)) == 0) = true := beq_iff_eq.mpr c22
              have c22b1 : ((rd l0_3 (rd l0_0 x3_1)) != 0) = false := bne_eq_false_iff_eq.mpr c22
              clear c22
              have H' := am H
              clear H
              obtain ⟨hcz23_0, hcz23_1, hcz23_2, hcz23_3, hfz23_0, hfz23_1, hfz23_2, hfz23_3⟩ := cf4 BK935
              have p939 : 0 ≤ (x3_1 : Int) := of_decide_eq_true (by first | (with_reducible assumption) | assumption)
              have q939 : x3_1 < (l0_3.length : Int) := of_decide_eq_true (by first | (with_reducible assumption) | assumption)
              obtain ⟨ad939, e939, hx939_0⟩ := Kd.at_int HR0_3.out x3_1 p939 q939
              cases e939
              try (replace hx939_0 := (HB.out.cell (World.block_lt_of_cell? w _ hx939_0)).trans hx939_0)
              replace p939 := eq_true p939
              replace q939 := eq_true q939
              have p941 : 0 ≤ ((rd l0_0 x3_1) : Int) := of_decide_eq_true (by first | (with_reducible assumption) | assumption)
              have q941 : (rd l0_0 x3_1) < (l0_3.length : Int) := of_decide_eq_true (by first | (with_reducible assumption) | assumption)
              obtain ⟨ad941, e941, hx941_0⟩ := Kd.at_int HR0_3.out (rd l0_0 x3_1) p941 q941
              obtain rfl : ad939 = ad941 := (by injection e941)
              try (replace hx941_0 := (HB.out.cell (World.block_lt_of_cell? w _ hx941_0)).trans hx941_0)
              replace p941 := eq_true p941
              replace q941 := eq_true q941
              go_wp2
              go_meet
              case rel => exact ⟨_, (true), (by first | rfl | (simp; done) | (simp [*]; done)), H', ⟨by have := HK1.out; first | omega | exact Nat.le_refl _⟩, ⟨kl BK935.out⟩, ⟨by exact bs1 GE935.out HB.out⟩⟩
             ·rw [if_neg c22] at H
              have c22b0 : ((rd l0_3 (rd l0_0 x3_1)) == 0) = false := beq_eq_false_iff_ne.mpr c22
              have c22b1 : ((rd l0_3 (rd l0_0 x3_1)) != 0) = true := bne_iff_ne.mpr c22
              by_cases c24 : (rd l0_1 x3_1) = (-1)
              ·rw [if_pos c24] at H
               have c24b0 : ((rd l0_1 x3_1) == (-1)) = true := beq_iff_eq.mpr c24
               have c24b1 : ((rd l0_1 x3_1) != (-1)) = false := bne_eq_false_iff_eq.mpr c24
               clear c24
               have H' := am H
               clear H
               obtain ⟨hcz25_0, hcz25_1, hcz25_2, hcz25_3, hfz25_0, hfz25_1, hfz25_2, hfz25_3⟩ := cf4 BK935
               have p939 : 0 ≤ (x3_1 : Int) := of_decide_eq_true (by first | (with_reducible assumption) | assumption)
               have q939 : x3_1 < (l0_3.length : Int) := of_decide_eq_true (by first | (with_reducible assumption) | assumption)
               obtain ⟨ad939, e939, hx939_0⟩ := Kd.at_int HR0_3.out x3_1 p939 q939
               cases e939
               try (replace hx939_0 := (HB.out.cell (World.block_lt_of_cell? w _ hx939_0)).trans hx939_0)
               replace p939 := eq_true p939
               replace q939 := eq_true q939
               have p941 : 0 ≤ ((rd l0_0 x3_1) : Int) := of_decide_eq_true (by first | (with_reducible assumption) | assumption)
               have q941 : (rd l0_0 x3_1) < (l0_3.length : Int) := of_decide_eq_true (by first | (with_reducible assumption) | assumption)
               obtain ⟨ad941, e941, hx941_0⟩ := Kd.at_int HR0_3.out (rd l0_0 x3_1) p941 q941
               obtain rfl : ad939 = ad941 := (by injection e941)
               try (replace hx941_0 := (HB.out.cell (World.block_lt_of_cell? w _ hx941_0)).trans hx941_0)
               replace p941 := eq_true p941
               replace q941 := eq_true q941
               go_wp2
               go_meet
               case rel => exact ⟨_, (false), (by first | rfl | (simp; done) | (simp [*]; done)), H', ⟨by have := HK1.out; first | omega | exact Nat.le_refl _⟩, ⟨kl BK935.out⟩, ⟨by exact bs1 GE935.out HB.out⟩⟩
              ·rw [if_neg c24] at H
               have c24b0 : ((rd l0_1 x3_1) == (-1)) = false := beq_eq_false_iff_ne.mpr c24
               have c24b1 : ((rd l0_1 x3_1) != (-1)) = true := bne_iff_ne.mpr c24
               by_cases c26 : 0 ≤ (rd l0_1 x3_1)
               ·rw [if_pos c26] at H
                have c26b0 : decide (0 ≤ (rd l0_1 x3_1)) = true := decide_eq_true c26
                clear c26
                by_cases c27 : (rd l0_1 x3_1) < (l0_3.length : Int)
                ·rw [if_pos c27] at H
                 have c27b0 : decide ((rd l0_1 x3_1) < (l0_3.length : Int)) = true := decide_eq_true c27
                 clear c27
                 have H' := am H
                 clear H
                 obtain ⟨hcz28_0, hcz28_1, hcz28_2, hcz28_3, hfz28_0, hfz28_1, hfz28_2, hfz28_3⟩ := cf4 BK935
                 have p939 : 0 ≤ (x3_1 : Int) := of_decide_eq_true (by first | (with_reducible assumption) | assumption)
                 have q939 : x3_1 < (l0_3.length : Int) := of_decide_eq_true (by first | (with_reducible assumption) | assumption)
                 obtain ⟨ad939, e939, hx939_0⟩ := Kd.at_int HR0_3.out x3_1 p939 q939
                 cases e939
                 try (replace hx939_0 := (HB.out.cell (World.block_lt_of_cell? w _ hx939_0)).trans hx939_0)
                 replace p939 := eq_true p939
                 replace q939 := eq_true q939
                 have p941 : 0 ≤ ((rd l0_0 x3_1) : Int) := of_decide_eq_true (by first | (with_reducible assumption) | assumption)
                 have q941 : (rd l0_0 x3_1) < (l0_3.length : Int) := of_decide_eq_true (by first | (with_reducible assumption) | assumption)
                 obtain ⟨ad941, e941, hx941_0⟩ := Kd.at_int HR0_3.out (rd l0_0 x3_1) p941 q941
                 obtain rfl : ad939 = ad941 := (by injection e941)
                 try (replace hx941_0 := (HB.out.cell (World.block_lt_of_cell? w _ hx941_0)).trans hx941_0)
                 replace p941 := eq_true p941
                 replace q941 := eq_true q941
                 have p942 : 0 ≤ ((rd l0_1 x3_1) : Int) := of_decide_eq_true (by first | (with_reducible assumption) | assumption)
                 have q942 : (rd l0_1 x3_1) < (l0_3.length : Int) := of_decide_eq_true (by first | (with_reducible assumption) | assumption)
                 obtain ⟨ad942, e942, hx942_0⟩ := Kd.at_int HR0_3.out (rd l0_1 x3_1) p942 q942
                 obtain rfl : ad939 = ad942 := (by injection e942)
                 try (replace hx942_0 := (HB.out.cell (World.block_lt_of_cell? w _ hx942_0)).trans hx942_0)
                 replace p942 := eq_true p942
                 replace q942 := eq_true q942
                 go_wp2
                 go_meet
                 case rel => exact ⟨_, (((rd l0_3 (rd l0_1 x3_1)) == 0)), (by first | rfl | (simp; done) | (simp [*]; done)), H', ⟨by have := HK1.out; first | omega | exact Nat.le_refl _⟩, ⟨kl BK935.out⟩, ⟨by exact bs1 GE935.out HB.out⟩⟩
                ·rw [if_neg c27] at H
                 exact absurd H (by simp)
               ·rw [if_neg c26] at H
                exact absurd H (by simp)
            ·rw [if_neg c21] at H
             exact absurd H (by simp)
           ·rw [if_neg c20] at H
            exact absurd H (by simp)
         ·rw [if_neg c13] at H
          have c13b0 : ((rd l0_3 x3_1) == 2) = false := beq_eq_false_iff_ne.mpr c13
          have c13b1 : ((rd l0_3 x3_1) != 2) = true := bne_iff_ne.mpr c13
          (first | rw [c13b0] | (simp only [i64_w, i32_w]; rw [c13b0]) | skip)
          have H' := am H
          clear H
          obtain ⟨hcz29_0, hcz29_1, hcz29_2, hcz29_3, hfz29_0, hfz29_1, hfz29_2, hfz29_3⟩ := cf4 BK935
          have p939 : 0 ≤ (x3_1 : Int) := of_decide_eq_true (by first | (with_reducible assumption) | assumption)
          have q939 : x3_1 < (l0_3.length : Int) := of_decide_eq_true (by first | (with_reducible assumption) | assumption)
          obtain ⟨ad939, e939, hx939_0⟩ := Kd.at_int HR0_3.out x3_1 p939 q939
          cases e939
          try (replace hx939_0 := (HB.out.cell (World.block_lt_of_cell? w _ hx939_0)).trans hx939_0)
          replace p939 := eq_true p939
          replace q939 := eq_true q939
          go_wp2
          go_meet
          case rel => exact ⟨_, (false), (by first | rfl | (simp; done) | (simp [*]; done)), H', ⟨by have := HK1.out; first | omega | exact Nat.le_refl _⟩, ⟨kl BK935.out⟩, ⟨by exact bs1 GE935.out HB.out⟩⟩
        case rest =>
         clear HC11
         try clear c1
         try clear c2
         try clear p2
         try clear c3
         try clear c7
         try clear c7b0
         try clear c8
         try clear c8b0
         try clear c9
         try clear c9b0
         try clear p9
         try clear q9
         try clear hx9
         try clear c10
         try clear c10b0
         try clear c13
         try clear c13b0
         try clear c13b1
         try clear c14
         try clear c14b0
         try clear c14b1
         try clear c15
         try clear c15b0
         try clear c15b1
         try clear c17
         try clear c17b0
         try clear c18
         try clear c18b0
         try clear c20
         try clear c20b0
         try clear c21
         try clear c21b0
         try clear c22
         try clear c22b0
         try clear c22b1
         try clear c24
         try clear c24b0
         try clear c24b1
         try clear c26
         try clear c26b0
         try clear c27
         try clear c27b0
         try clear hx937_0
         try clear hx938_0
         try clear hx939_0
         try clear hx940_0
         try clear hx941_0
         try clear hx942_0
         try clear p2
         try clear p937
         try clear p938
         try clear p939
         try clear p940
         try clear p941
         try clear p942
         try clear q937
         try clear q938
         try clear q939
         try clear q940
         try clear q941
         try clear q942
         obtain ⟨kq, x57_10, rfl, HA, HJ10, BK935, HB⟩ := hcut
         cases kq with
         | zero => exact absurd HA.out (by simp [spec_ColorHolds.j1])
         | succ kj10 =>
          have H := HA.out
          clear HA
          simp only [spec_ColorHolds.j1] at H
          by_cases c30 : x57_10 = true
          ·subst c30
           have H1 : (some false) = some r := by rw [if_pos rfl] at H; exact H
           clear H
           have H := H1
           clear H1
           obtain rfl := Option.some.inj H
           go_wp2
           go_ret
           exact ⟨by first | rfl | (simp [errW_none, errW_some] <;> rfl) | (simp [*, errW_none, errW_some] <;> rfl), by exact bs1 GE935.out HB.out⟩
          ·replace c30 := Bool.eq_false_iff.mpr c30
           subst c30
           have H1 : (spec_ColorHolds.l0 kj10 (wrap64 (x3_1 + 1)) l0_0 l0_1 l0_2 l0_3) = some r := by rw [if_neg (show ¬ (false = true) by decide)] at H; exact H
           clear H
           have H := H1
           clear H1
           have H' := am H
           clear H
           go_wp2
           go_roundg kj10
           case measure => have := HK1.out; have := HJ10.out; omega
           case rel => exact ⟨(wrap64 (x3_1 + 1)), (by first | rfl | (simp; done) | (simp [*]; done)), H', ⟨by have := HK1.out; have := HJ10.out; omega⟩, ⟨kl BK935.out⟩, ⟨by exact bs1 GE935.out HB.out⟩⟩
       ·rw [if_neg c10] at H
        exact absurd H (by simp)
      ·rw [if_neg c9] at H
       exact absurd H (by simp)
     ·rw [if_neg c8] at H
      exact absurd H (by simp)
    ·rw [if_neg c7] at H
     have c7b0 : decide (x3_1 < (l0_3.length : Int)) = false := decide_eq_false c7
     clear c7
     obtain rfl := Option.some.inj H
     obtain ⟨hcz31_0, hcz31_1, hcz31_2, hcz31_3, hfz31_0, hfz31_1, hfz31_2, hfz31_3⟩ := cf4 BK935
     go_wp2
     go_ret
     exact ⟨by first | rfl | (simp [errW_none, errW_some] <;> rfl) | (simp [*, errW_none, errW_some] <;> rfl), by exact bs1 GE935.out HB.out⟩
 ·replace c3 := Bool.eq_false_iff.mpr c3
  subst c3
  have H1 : (some false) = some r := by rw [if_neg (show ¬ (false = true) by decide)] at H; exact H
  clear H
  have H := H1
  clear H1
  obtain rfl := Option.some.inj H
  go_enter Try.func32, Try.ntmps32
  go_wp2_with (first | ((with_reducible refine gate_dst (N := 1) rfl ?_); refine box_event ?hg (N := 1) ?hd (cs := #[.slice A0_0 l0_0.length c0_0, .slice A0_1 l0_1.length c0_1, .slice A0_2 l0_2.length c0_2, .slice A0_3 l0_3.length c0_3]) (t := 30) ?hr ?_; (case hd => rfl); (case hg => rfl); (case hr => first | (go_simp; done) | (go_simp; rfl)); intro gb935 hg w32 hbox hb; have BK935 := am (hbox); have GW935 := am ((by rw [hg]; exact (below_size (bl HB.out)) : w.heap.size ≤ gb935)); have GE935 := am ((by rw [hg]; exact (below_size (bl HB.out)) : w.heap.size ≤ gb935)); replace HB := am (below_step (bl HB.out) hb); clear hb hbox hg; obtain ⟨hcz33_0, hcz33_1, hcz33_2, hcz33_3, hfz33_0, hfz33_1, hfz33_2, hfz33_3⟩ := cf4 BK935) | ((with_reducible refine gate_callee (f := 36) rfl ?_); refine gL (some 7) rfl rfl Try.func36 (by kernel_rfl) rfl #[.agg #[.slice A0_0 l0_0.length c0_0, .slice A0_1 l0_1.length c0_1, .slice A0_2 l0_2.length c0_2, .slice A0_3 l0_3.length c0_3]] rfl ?_; (with_reducible refine (spec_ColoredValid.calls k _ _ l0_0 _ _ l0_1 _ _ l0_2 _ _ l0_3 false _ ?side1 ?side2 ?side3 ?side4 ?side5 ?side6 ?side7 ?side8 A2.out).mono ?_); (case side1 => exact ci HR0_0 HB); (case side2 => exact HC0_0.out); (case side3 => exact ci HR0_1 HB); (case side4 => exact HC0_1.out); (case side5 => exact ci HR0_2 HB); (case side6 => exact HC0_2.out); (case side7 => exact ci HR0_3 HB); (case side8 => exact HC0_3.out); rintro e w34 ⟨rfl, hb⟩; refine ⟨_, rfl, ?_⟩; replace BK935 := bb BK935 hb; replace HB := am (below_step (bs1 GE935.out HB.out) hb); (try clear hb)))
  go_ret
  exact ⟨by first | rfl | (simp [errW_none, errW_some] <;> rfl) | (simp [*, errW_none, errW_some] <;> rfl), by exact bs1 GE935.out HB.out⟩

end Go.Proofs.Ytkbaggfkidalfaa.A
