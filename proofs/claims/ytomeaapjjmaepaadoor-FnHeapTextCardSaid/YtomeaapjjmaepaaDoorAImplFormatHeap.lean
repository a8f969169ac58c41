/- Contracts of functions of the given program (AImplFormatHeap). No conditions beyond those stated. -/
import Derived.Test.YtomeaapjjmaepaaDoorA0
import Derived.Test.YtomeaapjjmaepaaDoorAImplDigit
import Derived.Test.YtomeaapjjmaepaaDoorAImplHeapValid
import Derived.Test.YtomeaapjjmaepaaDoorA0
namespace Go.Proofs.YtomeaapjjmaepaaDoor.A
open Go.RowKit Go.Proofs.YtomeaapjjmaepaaDoorW.PrintWords Go.Proofs.YtomeaapjjmaepaaDoorW.PrintLast Go.Proofs.YtomeaapjjmaepaaDoorW.PrintMore
attribute [local go_sem] max2_int min2_int max_two min_two max_three min_three max_four min_four   -- for this text's walks alone
set_option linter.unusedVariables false
set_option linter.unusedSimpArgs false

/-! ### impl_FormatHeap -/
mutual
def impl_FormatHeap.l0 : Nat → ByteArray → Int → Int → List Int → List Int → List Int → Option (ByteArray)
 | 0, _, _, _, _, _, _ => none
 | k + 1, x3, x12, x13, x167000, x167001, x167002 => if x13 < x12 then (if 0 ≤ x13 then (if x13 < (x167000.length : Int) then ((impl_digit.f (rd x167000 x13)).bind fun t169 => (if x13 < (x167001.length : Int) then ((impl_digit.f (rd x167001 x13)).bind fun t171 => (if t169.size + t171.size ≤ 9223372036854775807 then (if (t169 ++ t171).size + 1 ≤ 9223372036854775807 then (if x3.size + ((t169 ++ t171) ++ (⟨#[32]⟩ : ByteArray)).size ≤ 9223372036854775807 then (impl_FormatHeap.l0 k (x3 ++ ((t169 ++ t171) ++ (⟨#[32]⟩ : ByteArray))) x12 (wrap64 (x13 + 1)) x167000 x167001 x167002) else (none)) else (none)) else (none))) else (none))) else (none)) else (none)) else (if x3.size + 1 ≤ 9223372036854775807 then (impl_FormatHeap.l1 k (x3 ++ (⟨#[47]⟩ : ByteArray)) x167002 (x167002.length : Int) 0) else (none))
def impl_FormatHeap.l1 : Nat → ByteArray → List Int → Int → Int → Option (ByteArray)
 | 0, _, _, _, _ => none
 | k + 1, x3, x36, x37, x38 => if x38 < x37 then (if 0 ≤ x38 then (if x38 < (x36.length : Int) then ((impl_digit.f (rd x36 x38)).bind fun t173 => (if 1 + t173.size ≤ 9223372036854775807 then (if x3.size + ((⟨#[32]⟩ : ByteArray) ++ t173).size ≤ 9223372036854775807 then (impl_FormatHeap.l1 k (x3 ++ ((⟨#[32]⟩ : ByteArray) ++ t173)) x36 x37 (wrap64 (x38 + 1))) else (none)) else (none))) else (none)) else (none)) else (some x3)
end
def impl_FormatHeap.f (k : Nat) (l0_0 : List Int) (l0_1 : List Int) (l0_2 : List Int) : Option (ByteArray) := (impl_HeapValid.f k l0_0 l0_1 l0_2).bind fun t167 => (if t167 = true then (impl_FormatHeap.l0 k (⟨#[]⟩ : ByteArray) (l0_0.length : Int) 0 l0_0 l0_1 l0_2) else (some (⟨#[]⟩ : ByteArray)))
theorem impl_FormatHeap.mono_l : ∀ k, (∀ y0 y1 y2 y3 y4 y5, LeO (impl_FormatHeap.l0 k y0 y1 y2 y3 y4 y5) (impl_FormatHeap.l0 (k + 1) y0 y1 y2 y3 y4 y5)) ∧ (∀ y0 y1 y2 y3, LeO (impl_FormatHeap.l1 k y0 y1 y2 y3) (impl_FormatHeap.l1 (k + 1) y0 y1 y2 y3))
 | 0 => ⟨fun _ _ _ _ _ _ r h => by simp [impl_FormatHeap.l0] at h, fun _ _ _ _ r h => by simp [impl_FormatHeap.l1] at h⟩
 | k + 1 => by
  obtain ⟨ih0, ih1⟩ := impl_FormatHeap.mono_l k
  refine ⟨?_, ?_⟩
  ·intro y0 y1 y2 y3 y4 y5
   unfold impl_FormatHeap.l0
   repeat' first
   | (with_reducible exact ih0 _ _ _ _ _ _)
   | (with_reducible exact ih1 _ _ _ _)
   | (with_reducible exact impl_HeapValid.mono _ _ _ _)
   | (with_reducible exact LeO.refl _)
   | (with_reducible exact LeO.none _)
   | (with_reducible refine LeO.ite ?_ ?_)
   | (with_reducible refine LeO.bind ?_ (fun _ => ?_))
   | exact ih0 _ _ _ _ _ _
   | exact ih1 _ _ _ _
   | exact impl_HeapValid.mono _ _ _ _
   | exact LeO.none _
   | refine LeO.ite ?_ ?_
   | refine LeO.bind ?_ (fun _ => ?_)
  ·intro y0 y1 y2 y3
   unfold impl_FormatHeap.l1
   repeat' first
   | (with_reducible exact ih0 _ _ _ _ _ _)
   | (with_reducible exact ih1 _ _ _ _)
   | (with_reducible exact impl_HeapValid.mono _ _ _ _)
   | (with_reducible exact LeO.refl _)
   | (with_reducible exact LeO.none _)
   | (with_reducible refine LeO.ite ?_ ?_)
   | (with_reducible refine LeO.bind ?_ (fun _ => ?_))
   | exact ih0 _ _ _ _ _ _
   | exact ih1 _ _ _ _
   | exact impl_HeapValid.mono _ _ _ _
   | exact LeO.none _
   | refine LeO.ite ?_ ?_
   | refine LeO.bind ?_ (fun _ => ?_)
theorem impl_FormatHeap.mono : ∀ a0 a1 a2 k, LeO (impl_FormatHeap.f k a0 a1 a2) (impl_FormatHeap.f (k + 1) a0 a1 a2) := by
 intro a0 a1 a2 k
 obtain ⟨ih0, ih1⟩ := impl_FormatHeap.mono_l k
 unfold impl_FormatHeap.f
 repeat' first
   | (with_reducible exact ih0 _ _ _ _ _ _)
   | (with_reducible exact ih1 _ _ _ _)
   | (with_reducible exact impl_HeapValid.mono _ _ _ _)
   | (with_reducible exact LeO.refl _)
   | (with_reducible exact LeO.none _)
   | (with_reducible refine LeO.ite ?_ ?_)
   | (with_reducible refine LeO.bind ?_ (fun _ => ?_))
   | exact ih0 _ _ _ _ _ _
   | exact ih1 _ _ _ _
   | exact impl_HeapValid.mono _ _ _ _
   | exact LeO.none _
   | refine LeO.ite ?_ ?_
   | refine LeO.bind ?_ (fun _ => ?_)
set_option maxHeartbeats 8000000 in
set_option maxRecDepth 100000 in
theorem impl_FormatHeap.calls (k : Nat) (A0_0 : Option Addr) (c0_0 : Nat) (l0_0 : List Int) (A0_1 : Option Addr) (c0_1 : Nat) (l0_1 : List Int) (A0_2 : Option Addr) (c0_2 : Nat) (l0_2 : List Int) (r : ByteArray) (w : World) (hr0_0 : Kd.C (Kd.int .i64) w A0_0 l0_0.length l0_0) (hc0_0 : l0_0.length ≤ c0_0) (hr0_1 : Kd.C (Kd.int .i64) w A0_1 l0_1.length l0_1) (hc0_1 : l0_1.length ≤ c0_1) (hr0_2 : Kd.C (Kd.int .i64) w A0_2 l0_2.length l0_2) (hc0_2 : l0_2.length ≤ c0_2) (h : impl_FormatHeap.f k l0_0 l0_1 l0_2 = some r) :
  Calls Tryd.prog 18 #[.agg #[.slice A0_0 l0_0.length c0_0, .slice A0_1 l0_1.length c0_1, .slice A0_2 l0_2.length c0_2]] w fun e w' => e = .returned (.string r) ∧ Below w.heap.size w w' := by
 have hu24 := Tryd.underlying24
 have HR0_0 := am hr0_0
 have HC0_0 := am hc0_0
 clear hr0_0 hc0_0
 have HR0_1 := am hr0_1
 have HC0_1 := am hc0_1
 clear hr0_1 hc0_1
 have HR0_2 := am hr0_2
 have HC0_2 := am hc0_2
 clear hr0_2 hc0_2
 have HB := am (Below.refl w.heap.size w)
 have H : ((impl_HeapValid.f k l0_0 l0_1 l0_2).bind fun t167 => (if t167 = true then (impl_FormatHeap.l0 k (⟨#[]⟩ : ByteArray) (l0_0.length : Int) 0 l0_0 l0_1 l0_2) else (some (⟨#[]⟩ : ByteArray)))) = some r := h
 clear h
 replace H := Option.bind_eq_some_iff.mp H
 obtain ⟨t167, A20, H⟩ := H
 replace H : (if t167 = true then (impl_FormatHeap.l0 k (⟨#[]⟩ : ByteArray) (l0_0.length : Int) 0 l0_0 l0_1 l0_2) else (some (⟨#[]⟩ : ByteArray))) = some r := H
 have A2 := am A20
 clear A20
 by_cases c3 : t167 = true
 ·subst c3
  have H1 : (impl_FormatHeap.l0 k (⟨#[]⟩ : ByteArray) (l0_0.length : Int) 0 l0_0 l0_1 l0_2) = some r := by rw [if_pos rfl] at H; exact H
  clear H
  have H := H1
  clear H1
  have H' := am H
  clear H
  go_enter Tryd.func18, Tryd.ntmps18
  go_wp2_with (first | ((with_reducible refine gate_dst (N := 1) rfl ?_); refine box_event ?hg (N := 1) ?hd (cs := #[.slice A0_0 l0_0.length c0_0, .slice A0_1 l0_1.length c0_1, .slice A0_2 l0_2.length c0_2]) (t := 24) ?hr ?_; (case hd => rfl); (case hg => rfl); (case hr => first | (go_simp; done) | (go_simp; rfl)); intro gb166 hg w4 hbox hb; have BK166 := am (hbox); have GW166 := am ((by rw [hg]; exact (below_size (bl HB.out)) : w.heap.size ≤ gb166)); have GE166 := am ((by rw [hg]; exact (below_size (bl HB.out)) : w.heap.size ≤ gb166)); replace HB := am (below_step (bl HB.out) hb); clear hb hbox hg; obtain ⟨hcz5_0, hcz5_1, hcz5_2, hfz5_0, hfz5_1, hfz5_2⟩ := cf3 BK166) | (go_at_call 16; (with_reducible refine (impl_HeapValid.calls k (fun k_ => k_ < w.heap.size) _ _ l0_0 (fun k_ => k_ < w.heap.size) _ _ l0_1 (fun k_ => k_ < w.heap.size) _ _ l0_2 true _ ?side1 ?side2 ?side3 A2.out).mono ?_); (case side1 => exact Kd.V_mk HC0_0.out (Kd.F_below (Kd.C_F (Kd.heap_int .i64) HR0_0.out) (bs1 GE166.out HB.out))); (case side2 => exact Kd.V_mk HC0_1.out (Kd.F_below (Kd.C_F (Kd.heap_int .i64) HR0_1.out) (bs1 GE166.out HB.out))); (case side3 => exact Kd.V_mk HC0_2.out (Kd.F_below (Kd.C_F (Kd.heap_int .i64) HR0_2.out) (bs1 GE166.out HB.out))); rintro e w6 ⟨rfl, hb⟩; replace BK166 := bb BK166 hb; replace HB := am (below_step (bs1 GE166.out HB.out) hb); (try clear hb); obtain ⟨hcz7_0, hcz7_1, hcz7_2, hfz7_0, hfz7_1, hfz7_2⟩ := cf3 BK166))
  repeat (go_quiet (first | ((with_reducible refine gate_dst (N := 1) rfl ?_); refine box_event ?hg (N := 1) ?hd (cs := #[.slice A0_0 l0_0.length c0_0, .slice A0_1 l0_1.length c0_1, .slice A0_2 l0_2.length c0_2]) (t := 24) ?hr ?_; (case hd => rfl); (case hg => rfl); (case hr => first | (go_simp; done) | (go_simp; rfl)); intro gb166 hg w4 hbox hb; have BK166 := am (hbox); have GW166 := am ((by rw [hg]; exact (below_size (bl HB.out)) : w.heap.size ≤ gb166)); have GE166 := am ((by rw [hg]; exact (below_size (bl HB.out)) : w.heap.size ≤ gb166)); replace HB := am (below_step (bl HB.out) hb); clear hb hbox hg; obtain ⟨hcz5_0, hcz5_1, hcz5_2, hfz5_0, hfz5_1, hfz5_2⟩ := cf3 BK166) | (go_at_call 16; (with_reducible refine (impl_HeapValid.calls k (fun k_ => k_ < w.heap.size) _ _ l0_0 (fun k_ => k_ < w.heap.size) _ _ l0_1 (fun k_ => k_ < w.heap.size) _ _ l0_2 true _ ?side1 ?side2 ?side3 A2.out).mono ?_); (case side1 => exact Kd.V_mk HC0_0.out (Kd.F_below (Kd.C_F (Kd.heap_int .i64) HR0_0.out) (bs1 GE166.out HB.out))); (case side2 => exact Kd.V_mk HC0_1.out (Kd.F_below (Kd.C_F (Kd.heap_int .i64) HR0_1.out) (bs1 GE166.out HB.out))); (case side3 => exact Kd.V_mk HC0_2.out (Kd.F_below (Kd.C_F (Kd.heap_int .i64) HR0_2.out) (bs1 GE166.out HB.out))); rintro e w6 ⟨rfl, hb⟩; replace BK166 := bb BK166 hb; replace HB := am (below_step (bs1 GE166.out HB.out) hb); (try clear hb); obtain ⟨hcz7_0, hcz7_1, hcz7_2, hfz7_0, hfz7_1, hfz7_2⟩ := cf3 BK166)); try go_wp2_with (first | ((with_reducible refine gate_dst (N := 1) rfl ?_); refine box_event ?hg (N := 1) ?hd (cs := #[.slice A0_0 l0_0.length c0_0, .slice A0_1 l0_1.length c0_1, .slice A0_2 l0_2.length c0_2]) (t := 24) ?hr ?_; (case hd => rfl); (case hg => rfl); (case hr => first | (go_simp; done) | (go_simp; rfl)); intro gb166 hg w4 hbox hb; have BK166 := am (hbox); have GW166 := am ((by rw [hg]; exact (below_size (bl HB.out)) : w.heap.size ≤ gb166)); have GE166 := am ((by rw [hg]; exact (below_size (bl HB.out)) : w.heap.size ≤ gb166)); replace HB := am (below_step (bl HB.out) hb); clear hb hbox hg; obtain ⟨hcz5_0, hcz5_1, hcz5_2, hfz5_0, hfz5_1, hfz5_2⟩ := cf3 BK166) | (go_at_call 16; (with_reducible refine (impl_HeapValid.calls k (fun k_ => k_ < w.heap.size) _ _ l0_0 (fun k_ => k_ < w.heap.size) _ _ l0_1 (fun k_ => k_ < w.heap.size) _ _ l0_2 true _ ?side1 ?side2 ?side3 A2.out).mono ?_); (case side1 => exact Kd.V_mk HC0_0.out (Kd.F_below (Kd.C_F (Kd.heap_int .i64) HR0_0.out) (bs1 GE166.out HB.out))); (case side2 => exact Kd.V_mk HC0_1.out (Kd.F_below (Kd.C_F (Kd.heap_int .i64) HR0_1.out) (bs1 GE166.out HB.out))); (case side3 => exact Kd.V_mk HC0_2.out (Kd.F_below (Kd.C_F (Kd.heap_int .i64) HR0_2.out) (bs1 GE166.out HB.out))); rintro e w6 ⟨rfl, hb⟩; replace BK166 := bb BK166 hb; replace HB := am (below_step (bs1 GE166.out HB.out) hb); (try clear hb); obtain ⟨hcz7_0, hcz7_1, hcz7_2, hfz7_0, hfz7_1, hfz7_2⟩ := cf3 BK166)))
  go_loopg [3, 13] k (fun kq v3 v13 w' => ∃ (x3_1 : ByteArray) (x13_1 : Int), v3 = .string x3_1 ∧ v13 = .int .i64 x13_1 ∧ Aside0 (impl_FormatHeap.l0 kq x3_1 (l0_0.length : Int) x13_1 l0_0 l0_1 l0_2 = some r) ∧ Aside0 (kq ≤ k) ∧ Aside0 (w'.heap[gb166]? = some (.cells #[(.slice A0_0 l0_0.length c0_0), (.slice A0_1 l0_1.length c0_1), (.slice A0_2 l0_2.length c0_2)] 24 (0, 0))) ∧ Aside0 (Below w.heap.size w w'))
  case atStart => exact ⟨((⟨#[]⟩ : ByteArray)), (0), (by first | rfl | (simp; done) | (simp [*]; done)), (by first | rfl | (simp; done) | (simp [*]; done)), H', ⟨Nat.le_refl _⟩, ⟨kl BK166.out⟩, ⟨by exact bs1 GE166.out HB.out⟩⟩
  case round =>
   clear H'
   try clear c1
   try clear p2
   try clear c3
   obtain ⟨x3_1, x13_1, rfl, rfl, HA, HK1, BK166, HB⟩ := hrel
   cases gk with
   | zero => exact absurd HA.out (by simp [impl_FormatHeap.l0])
   | succ k1 =>
    have H := HA.out
    clear HA
    simp only [impl_FormatHeap.l0] at H
    by_cases c8 : x13_1 < (l0_0.length : Int)
    ·rw [if_pos c8] at H
     have c8b0 : decide (x13_1 < (l0_0.length : Int)) = true := decide_eq_true c8
     clear c8
     by_cases c9 : 0 ≤ x13_1
     ·rw [if_pos c9] at H
      have c9b0 : decide (0 ≤ x13_1) = true := decide_eq_true c9
      clear c9
      by_cases c10 : x13_1 < (l0_0.length : Int)
      ·rw [if_pos c10] at H
       have c10b0 : decide (x13_1 < (l0_0.length : Int)) = true := decide_eq_true c10
       clear c10
       replace H := Option.bind_eq_some_iff.mp H
       obtain ⟨t169, A110, H⟩ := H
       replace H : (if x13_1 < (l0_1.length : Int) then ((impl_digit.f (rd l0_1 x13_1)).bind fun t171 => (if t169.size + t171.size ≤ 9223372036854775807 then (if (t169 ++ t171).size + 1 ≤ 9223372036854775807 then (if x3_1.size + ((t169 ++ t171) ++ (⟨#[32]⟩ : ByteArray)).size ≤ 9223372036854775807 then (impl_FormatHeap.l0 k1 (x3_1 ++ ((t169 ++ t171) ++ (⟨#[32]⟩ : ByteArray))) (l0_0.length : Int) (wrap64 (x13_1 + 1)) l0_0 l0_1 l0_2) else (none)) else (none)) else (none))) else (none)) = some r := H
       have A11 := am A110
       clear A110
       by_cases c12 : x13_1 < (l0_1.length : Int)
       ·rw [if_pos c12] at H
        have c12b0 : decide (x13_1 < (l0_1.length : Int)) = true := decide_eq_true c12
        clear c12
        replace H := Option.bind_eq_some_iff.mp H
        obtain ⟨t171, A130, H⟩ := H
        replace H : (if t169.size + t171.size ≤ 9223372036854775807 then (if (t169 ++ t171).size + 1 ≤ 9223372036854775807 then (if x3_1.size + ((t169 ++ t171) ++ (⟨#[32]⟩ : ByteArray)).size ≤ 9223372036854775807 then (impl_FormatHeap.l0 k1 (x3_1 ++ ((t169 ++ t171) ++ (⟨#[32]⟩ : ByteArray))) (l0_0.length : Int) (wrap64 (x13_1 + 1)) l0_0 l0_1 l0_2) else (none)) else (none)) else (none)) = some r := H
        have A13 := am A130
        clear A130
        by_cases c14 : t169.size + t171.size ≤ 9223372036854775807
        ·rw [if_pos c14] at H
         have c14b0 := eq_true c14
         have c14b1 : decide (t169.size + t171.size ≤ 9223372036854775807) = true := decide_eq_true c14
         try have c14b2 : (9223372036854775807 < t169.size + t171.size) = False := eq_false (Nat.not_lt.2 c14)
         by_cases c15 : (t169 ++ t171).size + 1 ≤ 9223372036854775807
         ·rw [if_pos c15] at H
          have c15b0 := eq_true c15
          have c15b1 : decide ((t169 ++ t171).size + 1 ≤ 9223372036854775807) = true := decide_eq_true c15
          try have c15b2 : (9223372036854775807 < (t169 ++ t171).size + 1) = False := eq_false (Nat.not_lt.2 c15)
          try (have c15b3 := c15b2; simp only [ByteArray.size_append] at c15b3)
          by_cases c16 : x3_1.size + ((t169 ++ t171) ++ (⟨#[32]⟩ : ByteArray)).size ≤ 9223372036854775807
          ·rw [if_pos c16] at H
           have c16b0 := eq_true c16
           have c16b1 : decide (x3_1.size + ((t169 ++ t171) ++ (⟨#[32]⟩ : ByteArray)).size ≤ 9223372036854775807) = true := decide_eq_true c16
           try have c16b2 : (9223372036854775807 < x3_1.size + ((t169 ++ t171) ++ (⟨#[32]⟩ : ByteArray)).size) = False := eq_false (Nat.not_lt.2 c16)
           try (have c16b3 := c16b2; simp only [ByteArray.size_append] at c16b3)
           try (have c16b4 := c16b2; simp only [ByteArray.size_append, show (⟨#[32]⟩ : ByteArray).size = 1 from rfl] at c16b4)
           have H' := am H
           clear H
           obtain ⟨hcz17_0, hcz17_1, hcz17_2, hfz17_0, hfz17_1, hfz17_2⟩ := cf3 BK166
           have p168 : 0 ≤ (x13_1 : Int) := of_decide_eq_true (by first | (with_reducible assumption) | assumption)
           have q168 : x13_1 < (l0_0.length : Int) := of_decide_eq_true (by first | (with_reducible assumption) | assumption)
           obtain ⟨ad168, e168, hx168_0⟩ := Kd.at_int HR0_0.out x13_1 p168 q168
           cases e168
           try (replace hx168_0 := (HB.out.cell (World.block_lt_of_cell? w _ hx168_0)).trans hx168_0)
           replace p168 := eq_true p168
           replace q168 := eq_true q168
           go_wp2_with (first | (go_at_call 38; (with_reducible refine (impl_digit.calls (rd l0_0 x13_1) t169 _ A11.out).mono ?_); rintro e w' ⟨rfl, ⟨nd, rfl⟩⟩; (try first | exact ⟨rfl, _, World.drewN_drewN _ _ _⟩ | exact ⟨rfl, _, Eq.trans (World.drewN_drewN _ _ _) (congrArg (World.drewN _) (Nat.add_assoc _ _ _))⟩); have p170 : 0 ≤ (x13_1 : Int) := of_decide_eq_true (by first | (with_reducible assumption) | assumption); have q170 : x13_1 < (l0_1.length : Int) := of_decide_eq_true (by first | (with_reducible assumption) | assumption); obtain ⟨ad170, e170, hx170_0⟩ := Kd.at_int HR0_1.out x13_1 p170 q170; cases e170; replace hx170_0 := (HB.out.cell (World.block_lt_of_cell? w _ hx170_0)).trans hx170_0; replace p170 := eq_true p170; replace q170 := eq_true q170) | (go_at_call 38; (with_reducible refine (impl_digit.calls (rd l0_1 x13_1) t171 _ A13.out).mono ?_); rintro e w' ⟨rfl, ⟨nd, rfl⟩⟩; (try first | exact ⟨rfl, _, World.drewN_drewN _ _ _⟩ | exact ⟨rfl, _, Eq.trans (World.drewN_drewN _ _ _) (congrArg (World.drewN _) (Nat.add_assoc _ _ _))⟩)))
           repeat (go_quiet (first | (go_at_call 38; (with_reducible refine (impl_digit.calls (rd l0_0 x13_1) t169 _ A11.out).mono ?_); rintro e w' ⟨rfl, ⟨nd, rfl⟩⟩; (try first | exact ⟨rfl, _, World.drewN_drewN _ _ _⟩ | exact ⟨rfl, _, Eq.trans (World.drewN_drewN _ _ _) (congrArg (World.drewN _) (Nat.add_assoc _ _ _))⟩); have p170 : 0 ≤ (x13_1 : Int) := of_decide_eq_true (by first | (with_reducible assumption) | assumption); have q170 : x13_1 < (l0_1.length : Int) := of_decide_eq_true (by first | (with_reducible assumption) | assumption); obtain ⟨ad170, e170, hx170_0⟩ := Kd.at_int HR0_1.out x13_1 p170 q170; cases e170; replace hx170_0 := (HB.out.cell (World.block_lt_of_cell? w _ hx170_0)).trans hx170_0; replace p170 := eq_true p170; replace q170 := eq_true q170) | (go_at_call 38; (with_reducible refine (impl_digit.calls (rd l0_1 x13_1) t171 _ A13.out).mono ?_); rintro e w' ⟨rfl, ⟨nd, rfl⟩⟩; (try first | exact ⟨rfl, _, World.drewN_drewN _ _ _⟩ | exact ⟨rfl, _, Eq.trans (World.drewN_drewN _ _ _) (congrArg (World.drewN _) (Nat.add_assoc _ _ _))⟩))); try go_wp2_with (first | (go_at_call 38; (with_reducible refine (impl_digit.calls (rd l0_0 x13_1) t169 _ A11.out).mono ?_); rintro e w' ⟨rfl, ⟨nd, rfl⟩⟩; (try first | exact ⟨rfl, _, World.drewN_drewN _ _ _⟩ | exact ⟨rfl, _, Eq.trans (World.drewN_drewN _ _ _) (congrArg (World.drewN _) (Nat.add_assoc _ _ _))⟩); have p170 : 0 ≤ (x13_1 : Int) := of_decide_eq_true (by first | (with_reducible assumption) | assumption); have q170 : x13_1 < (l0_1.length : Int) := of_decide_eq_true (by first | (with_reducible assumption) | assumption); obtain ⟨ad170, e170, hx170_0⟩ := Kd.at_int HR0_1.out x13_1 p170 q170; cases e170; replace hx170_0 := (HB.out.cell (World.block_lt_of_cell? w _ hx170_0)).trans hx170_0; replace p170 := eq_true p170; replace q170 := eq_true q170) | (go_at_call 38; (with_reducible refine (impl_digit.calls (rd l0_1 x13_1) t171 _ A13.out).mono ?_); rintro e w' ⟨rfl, ⟨nd, rfl⟩⟩; (try first | exact ⟨rfl, _, World.drewN_drewN _ _ _⟩ | exact ⟨rfl, _, Eq.trans (World.drewN_drewN _ _ _) (congrArg (World.drewN _) (Nat.add_assoc _ _ _))⟩))))
           go_roundg k1
           case measure => have := HK1.out; omega
           case rel => exact ⟨(x3_1 ++ ((t169 ++ t171) ++ (⟨#[32]⟩ : ByteArray))), (wrap64 (x13_1 + 1)), (by first | rfl | (simp; done) | (simp [*]; done)), (by first | rfl | (simp; done) | (simp [*]; done)), H', ⟨by have := HK1.out; omega⟩, ⟨kl BK166.out⟩, ⟨by exact bs1 GE166.out HB.out⟩⟩
          ·rw [if_neg c16] at H
           exact absurd H (by simp)
         ·rw [if_neg c15] at H
          exact absurd H (by simp)
        ·rw [if_neg c14] at H
         exact absurd H (by simp)
       ·rw [if_neg c12] at H
        exact absurd H (by simp)
      ·rw [if_neg c10] at H
       exact absurd H (by simp)
     ·rw [if_neg c9] at H
      exact absurd H (by simp)
    ·rw [if_neg c8] at H
     have c8b0 : decide (x13_1 < (l0_0.length : Int)) = false := decide_eq_false c8
     clear c8
     by_cases c18 : x3_1.size + 1 ≤ 9223372036854775807
     ·rw [if_pos c18] at H
      have c18b0 := eq_true c18
      have c18b1 : decide (x3_1.size + 1 ≤ 9223372036854775807) = true := decide_eq_true c18
      try have c18b2 : (9223372036854775807 < x3_1.size + 1) = False := eq_false (Nat.not_lt.2 c18)
      have H' := am H
      clear H
      obtain ⟨hcz19_0, hcz19_1, hcz19_2, hfz19_0, hfz19_1, hfz19_2⟩ := cf3 BK166
      go_wp2
      repeat (go_quiet (fail); try go_wp2)
      go_loopg [3, 38] k1 (fun kq v3 v38 w' => ∃ (x3_2 : ByteArray) (x38_2 : Int), v3 = .string x3_2 ∧ v38 = .int .i64 x38_2 ∧ Aside0 (impl_FormatHeap.l1 kq x3_2 l0_2 (l0_2.length : Int) x38_2 = some r) ∧ Aside0 (kq ≤ k1) ∧ Aside0 (w'.heap[gb166]? = some (.cells #[(.slice A0_0 l0_0.length c0_0), (.slice A0_1 l0_1.length c0_1), (.slice A0_2 l0_2.length c0_2)] 24 (0, 0))) ∧ Aside0 (Below w.heap.size w w'))
      case atStart => exact ⟨(x3_1 ++ (⟨#[47]⟩ : ByteArray)), (0), (by first | rfl | (simp; done) | (simp [*]; done)), (by first | rfl | (simp; done) | (simp [*]; done)), H', ⟨Nat.le_refl _⟩, ⟨kl BK166.out⟩, ⟨by exact bs1 GE166.out HB.out⟩⟩
      case round =>
       clear H'
       try clear c1
       try clear p1
       try clear q1
       try clear hx1
       try clear p2
       try clear c3
       try clear p6
       try clear c8
       try clear c8b0
       try clear c9
       try clear c9b0
       try clear c10
       try clear c10b0
       try clear c12
       try clear c12b0
       try clear c14
       try clear c14b0
       try clear c14b1
       try clear c14b2
       try clear c15
       try clear c15b0
       try clear c15b1
       try clear c15b2
       try clear c16
       try clear c16b0
       try clear c16b1
       try clear c16b2
       try clear p16
       try clear q16
       try clear hx16
       try clear p17
       try clear q17
       try clear hx17
       try clear c18
       try clear c18b0
       try clear c18b1
       try clear c18b2
       try clear hx168_0
       try clear hx170_0
       try clear p168
       try clear p170
       try clear p2
       try clear q168
       try clear q170
       obtain ⟨x3_2, x38_2, rfl, rfl, HA, HK2, BK166, HB⟩ := hrel
       cases gk with
       | zero => exact absurd HA.out (by simp [impl_FormatHeap.l1])
       | succ k2 =>
        have H := HA.out
        clear HA
        simp only [impl_FormatHeap.l1] at H
        by_cases c20 : x38_2 < (l0_2.length : Int)
        ·rw [if_pos c20] at H
         have c20b0 : decide (x38_2 < (l0_2.length : Int)) = true := decide_eq_true c20
         clear c20
         by_cases c21 : 0 ≤ x38_2
         ·rw [if_pos c21] at H
          have c21b0 : decide (0 ≤ x38_2) = true := decide_eq_true c21
          clear c21
          by_cases c22 : x38_2 < (l0_2.length : Int)
          ·rw [if_pos c22] at H
           have c22b0 : decide (x38_2 < (l0_2.length : Int)) = true := decide_eq_true c22
           clear c22
           replace H := Option.bind_eq_some_iff.mp H
           obtain ⟨t173, A230, H⟩ := H
           replace H : (if 1 + t173.size ≤ 9223372036854775807 then (if x3_2.size + ((⟨#[32]⟩ : ByteArray) ++ t173).size ≤ 9223372036854775807 then (impl_FormatHeap.l1 k2 (x3_2 ++ ((⟨#[32]⟩ : ByteArray) ++ t173)) l0_2 (l0_2.length : Int) (wrap64 (x38_2 + 1))) else (none)) else (none)) = some r := H
           have A23 := am A230
           clear A230
           by_cases c24 : 1 + t173.size ≤ 9223372036854775807
           ·rw [if_pos c24] at H
            have c24b0 := eq_true c24
            have c24b1 : decide (1 + t173.size ≤ 9223372036854775807) = true := decide_eq_true c24
            try have c24b2 : (9223372036854775807 < 1 + t173.size) = False := eq_false (Nat.not_lt.2 c24)
            by_cases c25 : x3_2.size + ((⟨#[32]⟩ : ByteArray) ++ t173).size ≤ 9223372036854775807
            ·rw [if_pos c25] at H
             have c25b0 := eq_true c25
             have c25b1 : decide (x3_2.size + ((⟨#[32]⟩ : ByteArray) ++ t173).size ≤ 9223372036854775807) = true := decide_eq_true c25
             try have c25b2 : (9223372036854775807 < x3_2.size + ((⟨#[32]⟩ : ByteArray) ++ t173).size) = False := eq_false (Nat.not_lt.2 c25)
             try (have c25b3 := c25b2; simp only [ByteArray.size_append] at c25b3)
             try (have c25b4 := c25b2; simp only [ByteArray.size_append, show (⟨#[32]⟩ : ByteArray).size = 1 from rfl] at c25b4)
             have H' := am H
             clear H
             have p172 : 0 ≤ (x38_2 : Int) := of_decide_eq_true (by first | (with_reducible assumption) | assumption)
             have q172 : x38_2 < (l0_2.length : Int) := of_decide_eq_true (by first | (with_reducible assumption) | assumption)
             obtain ⟨ad172, e172, hx172_0⟩ := Kd.at_int HR0_2.out x38_2 p172 q172
             cases e172
             try (replace hx172_0 := (HB.out.cell (World.block_lt_of_cell? w _ hx172_0)).trans hx172_0)
             replace p172 := eq_true p172
             replace q172 := eq_true q172
             go_wp2_with (first | (go_at_call 38; (with_reducible refine (impl_digit.calls (rd l0_2 x38_2) t173 _ A23.out).mono ?_); rintro e w' ⟨rfl, ⟨nd, rfl⟩⟩; (try first | exact ⟨rfl, _, World.drewN_drewN _ _ _⟩ | exact ⟨rfl, _, Eq.trans (World.drewN_drewN _ _ _) (congrArg (World.drewN _) (Nat.add_assoc _ _ _))⟩)))
             repeat (go_quiet (first | (go_at_call 38; (with_reducible refine (impl_digit.calls (rd l0_2 x38_2) t173 _ A23.out).mono ?_); rintro e w' ⟨rfl, ⟨nd, rfl⟩⟩; (try first | exact ⟨rfl, _, World.drewN_drewN _ _ _⟩ | exact ⟨rfl, _, Eq.trans (World.drewN_drewN _ _ _) (congrArg (World.drewN _) (Nat.add_assoc _ _ _))⟩))); try go_wp2_with (first | (go_at_call 38; (with_reducible refine (impl_digit.calls (rd l0_2 x38_2) t173 _ A23.out).mono ?_); rintro e w' ⟨rfl, ⟨nd, rfl⟩⟩; (try first | exact ⟨rfl, _, World.drewN_drewN _ _ _⟩ | exact ⟨rfl, _, Eq.trans (World.drewN_drewN _ _ _) (congrArg (World.drewN _) (Nat.add_assoc _ _ _))⟩))))
             go_roundg k2
             case measure => have := HK1.out; have := HK2.out; omega
             case rel => exact ⟨(x3_2 ++ ((⟨#[32]⟩ : ByteArray) ++ t173)), (wrap64 (x38_2 + 1)), (by first | rfl | (simp; done) | (simp [*]; done)), (by first | rfl | (simp; done) | (simp [*]; done)), H', ⟨by have := HK1.out; have := HK2.out; omega⟩, ⟨kl BK166.out⟩, ⟨by exact bs1 GE166.out HB.out⟩⟩
            ·rw [if_neg c25] at H
             exact absurd H (by simp)
           ·rw [if_neg c24] at H
            exact absurd H (by simp)
          ·rw [if_neg c22] at H
           exact absurd H (by simp)
         ·rw [if_neg c21] at H
          exact absurd H (by simp)
        ·rw [if_neg c20] at H
         have c20b0 : decide (x38_2 < (l0_2.length : Int)) = false := decide_eq_false c20
         clear c20
         obtain rfl := Option.some.inj H
         go_wp2
         repeat (go_quiet (fail); try go_wp2)
         go_ret
         exact ⟨by first | rfl | (simp [errW_none, errW_some] <;> rfl) | (simp [*, errW_none, errW_some] <;> rfl), by exact bs1 GE166.out HB.out⟩
     ·rw [if_neg c18] at H
      exact absurd H (by simp)
 ·replace c3 := Bool.eq_false_iff.mpr c3
  subst c3
  have H1 : (some (⟨#[]⟩ : ByteArray)) = some r := by rw [if_neg (show ¬ (false = true) by decide)] at H; exact H
  clear H
  have H := H1
  clear H1
  obtain rfl := Option.some.inj H
  go_enter Tryd.func18, Tryd.ntmps18
  go_wp2_with (first | ((with_reducible refine gate_dst (N := 1) rfl ?_); refine box_event ?hg (N := 1) ?hd (cs := #[.slice A0_0 l0_0.length c0_0, .slice A0_1 l0_1.length c0_1, .slice A0_2 l0_2.length c0_2]) (t := 24) ?hr ?_; (case hd => rfl); (case hg => rfl); (case hr => first | (go_simp; done) | (go_simp; rfl)); intro gb166 hg w26 hbox hb; have BK166 := am (hbox); have GW166 := am ((by rw [hg]; exact (below_size (bl HB.out)) : w.heap.size ≤ gb166)); have GE166 := am ((by rw [hg]; exact (below_size (bl HB.out)) : w.heap.size ≤ gb166)); replace HB := am (below_step (bl HB.out) hb); clear hb hbox hg; obtain ⟨hcz27_0, hcz27_1, hcz27_2, hfz27_0, hfz27_1, hfz27_2⟩ := cf3 BK166) | (go_at_call 16; (with_reducible refine (impl_HeapValid.calls k (fun k_ => k_ < w.heap.size) _ _ l0_0 (fun k_ => k_ < w.heap.size) _ _ l0_1 (fun k_ => k_ < w.heap.size) _ _ l0_2 false _ ?side1 ?side2 ?side3 A2.out).mono ?_); (case side1 => exact Kd.V_mk HC0_0.out (Kd.F_below (Kd.C_F (Kd.heap_int .i64) HR0_0.out) (bs1 GE166.out HB.out))); (case side2 => exact Kd.V_mk HC0_1.out (Kd.F_below (Kd.C_F (Kd.heap_int .i64) HR0_1.out) (bs1 GE166.out HB.out))); (case side3 => exact Kd.V_mk HC0_2.out (Kd.F_below (Kd.C_F (Kd.heap_int .i64) HR0_2.out) (bs1 GE166.out HB.out))); rintro e w28 ⟨rfl, hb⟩; replace BK166 := bb BK166 hb; replace HB := am (below_step (bs1 GE166.out HB.out) hb); (try clear hb)))
  repeat (go_quiet (first | ((with_reducible refine gate_dst (N := 1) rfl ?_); refine box_event ?hg (N := 1) ?hd (cs := #[.slice A0_0 l0_0.length c0_0, .slice A0_1 l0_1.length c0_1, .slice A0_2 l0_2.length c0_2]) (t := 24) ?hr ?_; (case hd => rfl); (case hg => rfl); (case hr => first | (go_simp; done) | (go_simp; rfl)); intro gb166 hg w26 hbox hb; have BK166 := am (hbox); have GW166 := am ((by rw [hg]; exact (below_size (bl HB.out)) : w.heap.size ≤ gb166)); have GE166 := am ((by rw [hg]; exact (below_size (bl HB.out)) : w.heap.size ≤ gb166)); replace HB := am (below_step (bl HB.out) hb); clear hb hbox hg; obtain ⟨hcz27_0, hcz27_1, hcz27_2, hfz27_0, hfz27_1, hfz27_2⟩ := cf3 BK166) | (go_at_call 16; (with_reducible refine (impl_HeapValid.calls k (fun k_ => k_ < w.heap.size) _ _ l0_0 (fun k_ => k_ < w.heap.size) _ _ l0_1 (fun k_ => k_ < w.heap.size) _ _ l0_2 false _ ?side1 ?side2 ?side3 A2.out).mono ?_); (case side1 => exact Kd.V_mk HC0_0.out (Kd.F_below (Kd.C_F (Kd.heap_int .i64) HR0_0.out) (bs1 GE166.out HB.out))); (case side2 => exact Kd.V_mk HC0_1.out (Kd.F_below (Kd.C_F (Kd.heap_int .i64) HR0_1.out) (bs1 GE166.out HB.out))); (case side3 => exact Kd.V_mk HC0_2.out (Kd.F_below (Kd.C_F (Kd.heap_int .i64) HR0_2.out) (bs1 GE166.out HB.out))); rintro e w28 ⟨rfl, hb⟩; replace BK166 := bb BK166 hb; replace HB := am (below_step (bs1 GE166.out HB.out) hb); (try clear hb))); try go_wp2_with (first | ((with_reducible refine gate_dst (N := 1) rfl ?_); refine box_event ?hg (N := 1) ?hd (cs := #[.slice A0_0 l0_0.length c0_0, .slice A0_1 l0_1.length c0_1, .slice A0_2 l0_2.length c0_2]) (t := 24) ?hr ?_; (case hd => rfl); (case hg => rfl); (case hr => first | (go_simp; done) | (go_simp; rfl)); intro gb166 hg w26 hbox hb; have BK166 := am (hbox); have GW166 := am ((by rw [hg]; exact (below_size (bl HB.out)) : w.heap.size ≤ gb166)); have GE166 := am ((by rw [hg]; exact (below_size (bl HB.out)) : w.heap.size ≤ gb166)); replace HB := am (below_step (bl HB.out) hb); clear hb hbox hg; obtain ⟨hcz27_0, hcz27_1, hcz27_2, hfz27_0, hfz27_1, hfz27_2⟩ := cf3 BK166) | (go_at_call 16; (with_reducible refine (impl_HeapValid.calls k (fun k_ => k_ < w.heap.size) _ _ l0_0 (fun k_ => k_ < w.heap.size) _ _ l0_1 (fun k_ => k_ < w.heap.size) _ _ l0_2 false _ ?side1 ?side2 ?side3 A2.out).mono ?_); (case side1 => exact Kd.V_mk HC0_0.out (Kd.F_below (Kd.C_F (Kd.heap_int .i64) HR0_0.out) (bs1 GE166.out HB.out))); (case side2 => exact Kd.V_mk HC0_1.out (Kd.F_below (Kd.C_F (Kd.heap_int .i64) HR0_1.out) (bs1 GE166.out HB.out))); (case side3 => exact Kd.V_mk HC0_2.out (Kd.F_below (Kd.C_F (Kd.heap_int .i64) HR0_2.out) (bs1 GE166.out HB.out))); rintro e w28 ⟨rfl, hb⟩; replace BK166 := bb BK166 hb; replace HB := am (below_step (bs1 GE166.out HB.out) hb); (try clear hb))))
  go_ret
  exact ⟨by first | rfl | (simp [errW_none, errW_some] <;> rfl) | (simp [*, errW_none, errW_some] <;> rfl), by exact bs1 GE166.out HB.out⟩

end Go.Proofs.YtomeaapjjmaepaaDoor.A
