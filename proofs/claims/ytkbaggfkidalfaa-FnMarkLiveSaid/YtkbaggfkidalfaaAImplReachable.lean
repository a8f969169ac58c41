/- Contracts of functions of the given program (AImplReachable). No conditions beyond those stated. -/
import Derived.Test.YtkbaggfkidalfaaA0
import Derived.Test.YtkbaggfkidalfaaAImplDistances
import Derived.Test.YtkbaggfkidalfaaAImplHeapValid
import Derived.Test.YtkbaggfkidalfaaA0
namespace Go.Proofs.Ytkbaggfkidalfaa.A
open Go.RowKit Go.Proofs.YtkbaggfkidalfaaW.PrintWords Go.Proofs.YtkbaggfkidalfaaW.PrintLast Go.Proofs.YtkbaggfkidalfaaW.PrintMore
attribute [local go_sem] max2_int min2_int max_two min_two max_three min_three max_four min_four   -- for this text's walks alone
set_option linter.unusedVariables false
set_option linter.unusedSimpArgs false

/-! ### impl_Reachable -/
def impl_Reachable.l0 : Nat → List Bool → List Int → Int → Int → Option (List Bool)
 | 0, _, _, _, _ => none
 | k + 1, x3, x11, x12, x13 => if x13 < x12 then (if 0 ≤ x13 then (if x13 < (x11.length : Int) then (if x3.length < 140737488355328 then (impl_Reachable.l0 k (x3 ++ [decide ((rd x11 x13) > 0)]) x11 x12 (wrap64 (x13 + 1))) else (none)) else (none)) else (none)) else (some x3)
def impl_Reachable.f (k : Nat) (l0_0 : List Int) (l0_1 : List Int) (l0_2 : List Int) : Option (List Bool) := (impl_HeapValid.f k l0_0 l0_1 l0_2).bind fun t1526 => (if t1526 = true then ((impl_distances.f l0_0 l0_1 l0_2).bind fun t1530 => (impl_Reachable.l0 k (([] : List Bool)) t1530 (t1530.length : Int) 0)) else (some ([] : List Bool)))
theorem impl_Reachable.mono_l : ∀ k, (∀ y0 y1 y2 y3, LeO (impl_Reachable.l0 k y0 y1 y2 y3) (impl_Reachable.l0 (k + 1) y0 y1 y2 y3))
 | 0 => fun _ _ _ _ r h => by simp [impl_Reachable.l0] at h
 | k + 1 => by
  have ih0 := impl_Reachable.mono_l k
  ·intro y0 y1 y2 y3
   unfold impl_Reachable.l0
   repeat' first
   | (with_reducible exact ih0 _ _ _ _)
   | (with_reducible exact impl_HeapValid.mono _ _ _ _)
   | (with_reducible exact LeO.refl _)
   | (with_reducible exact LeO.none _)
   | (with_reducible refine LeO.ite ?_ ?_)
   | (with_reducible refine LeO.bind ?_ (fun _ => ?_))
   | exact ih0 _ _ _ _
   | exact impl_HeapValid.mono _ _ _ _
   | exact LeO.none _
   | refine LeO.ite ?_ ?_
   | refine LeO.bind ?_ (fun _ => ?_)
theorem impl_Reachable.mono : ∀ a0 a1 a2 k, LeO (impl_Reachable.f k a0 a1 a2) (impl_Reachable.f (k + 1) a0 a1 a2) := by
 intro a0 a1 a2 k
 have ih0 := impl_Reachable.mono_l k
 unfold impl_Reachable.f
 repeat' first
   | (with_reducible exact ih0 _ _ _ _)
   | (with_reducible exact impl_HeapValid.mono _ _ _ _)
   | (with_reducible exact LeO.refl _)
   | (with_reducible exact LeO.none _)
   | (with_reducible refine LeO.ite ?_ ?_)
   | (with_reducible refine LeO.bind ?_ (fun _ => ?_))
   | exact ih0 _ _ _ _
   | exact impl_HeapValid.mono _ _ _ _
   | exact LeO.none _
   | refine LeO.ite ?_ ?_
   | refine LeO.bind ?_ (fun _ => ?_)
set_option maxHeartbeats 8000000 in
set_option maxRecDepth 100000 in
theorem impl_Reachable.calls (k : Nat) (A0_0 : Option Addr) (c0_0 : Nat) (l0_0 : List Int) (A0_1 : Option Addr) (c0_1 : Nat) (l0_1 : List Int) (A0_2 : Option Addr) (c0_2 : Nat) (l0_2 : List Int) (r : List Bool) (w : World) (hr0_0 : Kd.C (Kd.int .i64) w A0_0 l0_0.length l0_0) (hc0_0 : l0_0.length ≤ c0_0) (hr0_1 : Kd.C (Kd.int .i64) w A0_1 l0_1.length l0_1) (hc0_1 : l0_1.length ≤ c0_1) (hr0_2 : Kd.C (Kd.int .i64) w A0_2 l0_2.length l0_2) (hc0_2 : l0_2.length ≤ c0_2) (h : impl_Reachable.f k l0_0 l0_1 l0_2 = some r) :
  Calls Try.prog 48 #[.agg #[.slice A0_0 l0_0.length c0_0, .slice A0_1 l0_1.length c0_1, .slice A0_2 l0_2.length c0_2]] w fun e w' => ∃ v0_ : Value, e = .returned (v0_) ∧ Kd.R Kd.bool 4 w' w.heap.size (fun _ => True) v0_ r ∧ Below w.heap.size w w' := by
 have hu28 := Try.underlying28
 have HR0_0 := am hr0_0
 have HC0_0 := am hc0_0
 clear hr0_0 hc0_0
 have HR0_1 := am hr0_1
 have HC0_1 := am hc0_1
 clear hr0_1 hc0_1
 have HR0_2 := am hr0_2
 have HC0_2 := am hc0_2
 clear hr0_2 hc0_2
 have HB := am (Below.refl w.heap.size w)
 have H : ((impl_HeapValid.f k l0_0 l0_1 l0_2).bind fun t1526 => (if t1526 = true then ((impl_distances.f l0_0 l0_1 l0_2).bind fun t1530 => (impl_Reachable.l0 k (([] : List Bool)) t1530 (t1530.length : Int) 0)) else (some ([] : List Bool)))) = some r := h
 clear h
 replace H := Option.bind_eq_some_iff.mp H
 obtain ⟨t1526, A20, H⟩ := H
 replace H : (if t1526 = true then ((impl_distances.f l0_0 l0_1 l0_2).bind fun t1530 => (impl_Reachable.l0 k (([] : List Bool)) t1530 (t1530.length : Int) 0)) else (some ([] : List Bool))) = some r := H
 have A2 := am A20
 clear A20
 by_cases c3 : t1526 = true
 ·subst c3
  have H1 : ((impl_distances.f l0_0 l0_1 l0_2).bind fun t1530 => (impl_Reachable.l0 k (([] : List Bool)) t1530 (t1530.length : Int) 0)) = some r := by rw [if_pos rfl] at H; exact H
  clear H
  have H := H1
  clear H1
  obtain ⟨y1527, hy1527⟩ : ∃ y_ : List Bool, y_ = (([] : List Bool)) := ⟨_, rfl⟩
  replace H : ((impl_distances.f l0_0 l0_1 l0_2).bind fun t1530 => (impl_Reachable.l0 k y1527 t1530 (t1530.length : Int) 0)) = some r := by first | (rw [hy1527]; with_reducible exact H) | (have H2_ := (Option.bind_some _ _).symm.trans H; rw [hy1527]; with_reducible exact H2_) | (have H2_ := (Option.bind_some _ _).symm.trans H; with_reducible exact H2_) | with_reducible exact H | (rw [hy1527]; exact H) | exact H
  have Ny1527 := am hy1527
  clear hy1527
  replace H := Option.bind_eq_some_iff.mp H
  obtain ⟨t1530, A40, H⟩ := H
  replace H : (impl_Reachable.l0 k y1527 t1530 (t1530.length : Int) 0) = some r := H
  have A4 := am A40
  clear A40
  have H' := am H
  clear H
  go_enter Try.func48, Try.ntmps48
  go_wp2_with (first | ((with_reducible refine gate_dst (N := 1) rfl ?_); refine box_event ?hg (N := 1) ?hd (cs := #[.slice A0_0 l0_0.length c0_0, .slice A0_1 l0_1.length c0_1, .slice A0_2 l0_2.length c0_2]) (t := 28) ?hr ?_; (case hd => rfl); (case hg => rfl); (case hr => first | (go_simp; done) | (go_simp; rfl)); intro gb1525 hg w5 hbox hb; have BK1525 := am (hbox); have GW1525 := am ((by rw [hg]; exact (below_size (bl HB.out)) : w.heap.size ≤ gb1525)); have GE1525 := am ((by rw [hg]; exact (below_size (bl HB.out)) : w.heap.size ≤ gb1525)); replace HB := am (below_step (bl HB.out) hb); clear hb hbox hg; obtain ⟨hcz6_0, hcz6_1, hcz6_2, hfz6_0, hfz6_1, hfz6_2⟩ := cf3 BK1525) | ((with_reducible refine gate_callee (f := 50) rfl ?_); refine gL (some 7) rfl rfl Try.func50 (by kernel_rfl) rfl #[.agg #[.slice A0_0 l0_0.length c0_0, .slice A0_1 l0_1.length c0_1, .slice A0_2 l0_2.length c0_2]] rfl ?_; (with_reducible refine (impl_HeapValid.calls k (fun k_ => k_ < w.heap.size) _ _ l0_0 (fun k_ => k_ < w.heap.size) _ _ l0_1 (fun k_ => k_ < w.heap.size) _ _ l0_2 true _ ?side1 ?side2 ?side3 A2.out).mono ?_); (case side1 => exact Kd.V_mk HC0_0.out (Kd.F_below (Kd.C_F (Kd.heap_int .i64) HR0_0.out) (bs1 GE1525.out HB.out))); (case side2 => exact Kd.V_mk HC0_1.out (Kd.F_below (Kd.C_F (Kd.heap_int .i64) HR0_1.out) (bs1 GE1525.out HB.out))); (case side3 => exact Kd.V_mk HC0_2.out (Kd.F_below (Kd.C_F (Kd.heap_int .i64) HR0_2.out) (bs1 GE1525.out HB.out))); rintro e w7 ⟨rfl, hb⟩; refine ⟨_, rfl, ?_⟩; replace BK1525 := bb BK1525 hb; replace HB := am (below_step (bs1 GE1525.out HB.out) hb); (try clear hb)) | ((with_reducible refine gate_dst (N := 9) rfl ?_); refine Kd.R_lit Kd.bool _ 4 ?hg (N := 9) ?hd (xs := ([] : List Bool)) (inner := []) (ok := fun _ => True) (okp := fun _ => True) ?hr ?hp (fun _ hk => hk) trivial (Below.refl _ _) (Nat.le_refl _) (by simp) ?_; (case hd => rfl); (case hg => rfl); (case hr => first | (go_simp; done) | (go_simp; rfl)); (case hp => exact (Reps.none _ _)); intro v1528 w8 ho9 hb hg_ hnew_; clear hg_ hnew_; (first | rw [← Ny1527.out] at ho9 | (simp only [Int.reduceToNat] at ho9; rw [← Ny1527.out] at ho9)); have HO1529 := ln0 ho9 (bs1 GE1525.out HB.out); replace BK1525 := bb BK1525 hb; replace HB := am (below_step (bs1 GE1525.out HB.out) hb); clear hb ho9; obtain ⟨hcz10_0, hcz10_1, hcz10_2, hfz10_0, hfz10_1, hfz10_2⟩ := cf3 BK1525) | ((with_reducible refine gate_callee (f := 84) rfl ?_); refine gL (some 11) rfl rfl Try.func84 (by kernel_rfl) rfl #[.agg #[.slice A0_0 l0_0.length c0_0, .slice A0_1 l0_1.length c0_1, .slice A0_2 l0_2.length c0_2]] rfl ?_; (with_reducible refine (impl_distances.calls _ _ l0_0 _ _ l0_1 _ _ l0_2 t1530 _ ?side1 ?side2 ?side3 ?side4 ?side5 ?side6 A4.out).mono ?_); (case side1 => exact ci HR0_0 HB); (case side2 => exact HC0_0.out); (case side3 => exact ci HR0_1 HB); (case side4 => exact HC0_1.out); (case side5 => exact ci HR0_2 HB); (case side6 => exact HC0_2.out); rintro e w11 ⟨v1531, rfl, ho0, hb⟩; refine ⟨_, rfl, ?_⟩; replace HO1529 := rb HO1529 hb; have HO1532 := ln0 ho0 (bs1 GE1525.out HB.out); replace BK1525 := bb BK1525 hb; replace HB := am (below_step (bs1 GE1525.out HB.out) hb); (try clear hb ho0); obtain ⟨Ao12, co12, eo12⟩ := Kd.R_slice HO1532.out; subst eo12))
  go_loopg [3, 13] k (fun kq v3 v13 w' => ∃ (x3_1 : List Bool) (x13_1 : Int), v13 = .int .i64 x13_1 ∧ Aside0 (impl_Reachable.l0 kq x3_1 t1530 (t1530.length : Int) x13_1 = some r) ∧ Aside0 (kq ≤ k) ∧ Aside0 (Kd.R Kd.bool 4 w' w.heap.size (fun _ => True) v3 x3_1) ∧ Aside0 (Kd.R (Kd.int .i64) 3 w' w.heap.size (fun _ => True) (.slice Ao12 t1530.length co12) t1530) ∧ Aside0 (w'.heap[gb1525]? = some (.cells #[(.slice A0_0 l0_0.length c0_0), (.slice A0_1 l0_1.length c0_1), (.slice A0_2 l0_2.length c0_2)] 28 (0, 0))) ∧ Aside0 (Below w.heap.size w w'))
  case atStart => exact ⟨(y1527), (0), (by first | rfl | (simp; done) | (simp [*]; done)), H', ⟨Nat.le_refl _⟩, ⟨rl HO1529.out⟩, ⟨rl HO1532.out⟩, ⟨kl BK1525.out⟩, ⟨by exact bs1 GE1525.out HB.out⟩⟩
  case round =>
   clear H'
   try clear p2
   try clear c3
   try clear c4
   try clear c5
   try clear c8
   obtain ⟨x3_1, x13_1, rfl, HA, HK1, HO_3, HO_11, BK1525, HB⟩ := hrel
   cases gk with
   | zero => exact absurd HA.out (by simp [impl_Reachable.l0])
   | succ k1 =>
    have H := HA.out
    clear HA
    simp only [impl_Reachable.l0] at H
    by_cases c13 : x13_1 < (t1530.length : Int)
    ·rw [if_pos c13] at H
     have c13b0 : decide (x13_1 < (t1530.length : Int)) = true := decide_eq_true c13
     clear c13
     by_cases c14 : 0 ≤ x13_1
     ·rw [if_pos c14] at H
      have c14b0 : decide (0 ≤ x13_1) = true := decide_eq_true c14
      clear c14
      by_cases c15 : x13_1 < (t1530.length : Int)
      ·rw [if_pos c15] at H
       have c15b0 : decide (x13_1 < (t1530.length : Int)) = true := decide_eq_true c15
       clear c15
       by_cases c16 : x3_1.length < 140737488355328
       ·rw [if_pos c16] at H
        have LMc16 := am c16
        clear c16
        obtain ⟨y1534, hy1534⟩ : ∃ y_ : List Bool, y_ = (x3_1 ++ [decide ((rd t1530 x13_1) > 0)]) := ⟨_, rfl⟩
        replace H : (impl_Reachable.l0 k1 y1534 t1530 (t1530.length : Int) (wrap64 (x13_1 + 1))) = some r := by first | (rw [hy1534]; with_reducible exact H) | (have H2_ := (Option.bind_some _ _).symm.trans H; rw [hy1534]; with_reducible exact H2_) | (have H2_ := (Option.bind_some _ _).symm.trans H; with_reducible exact H2_) | with_reducible exact H | (rw [hy1534]; exact H) | exact H
        have Ny1534 := am hy1534
        clear hy1534
        have H' := am H
        clear H
        have p1533 : 0 ≤ (x13_1 : Int) := of_decide_eq_true (by first | (with_reducible assumption) | assumption)
        have q1533 : x13_1 < (t1530.length : Int) := of_decide_eq_true (by first | (with_reducible assumption) | assumption)
        obtain ⟨ad1533, e1533, hx1533_0⟩ := Kd.at_int (Kd.R_reads' HO_11.out).2.2 x13_1 p1533 q1533
        cases e1533
        replace p1533 := eq_true p1533
        replace q1533 := eq_true q1533
        go_wp2_with (first | ((with_reducible refine gate_builtin (b := .append) (xs := #[.tmp 17, .tmp 20]) rfl ?_); at_builtin; refine Kd.R_append Kd.bool (w0 := w) w.heap.size rfl (.tmp 17) (.tmp 20) 54 4 (.bool false) 1 rfl Try.underlying54 info4 rfl (by decide) (by omega) u3 x3_1 (decide ((rd t1530 x13_1) > 0)) [.bool (decide ((rd t1530 x13_1) > 0))] (fun _ => True) (fun _ => False) rfl rfl ?aP (fun _ hk => hk.elim) ?aF ?aO ?aB ?aS ?aL ?_; (case aP => exact rfl); (case aB => exact (bs1 GE1525.out HB.out)); (case aF => exact (fun _ _ => trivial)); (case aO => exact (rl HO_3.out)); (case aS => exact (below_size (bs1 GE1525.out HB.out))); (case aL => have := LMc16.out; omega); intro v1535 w17 ho hb hg hat; rw [← Ny1534.out] at ho; replace HO_11 := am (Kd.R_over' (rl HO_11.out) (Kd.R_typed (rl HO_3.out)) (by decide) hg); replace BK1525 := am (blk_grown (g := gb1525) (o := .cells #[.slice A0_0 l0_0.length c0_0, .slice A0_1 l0_1.length c0_1, .slice A0_2 l0_2.length c0_2] 28 (0, 0)) (kl BK1525.out) hg (Kd.R_ne HO_3.out BK1525.out (by decide))); replace HB := am (hb); have HO1536 := am (ho); clear HO_3; clear ho hb hg hat))
        go_roundg k1
        case measure => have := HK1.out; omega
        case rel => exact ⟨(y1534), (wrap64 (x13_1 + 1)), (by first | rfl | (simp; done) | (simp [*]; done)), H', ⟨by have := HK1.out; omega⟩, ⟨rl HO1536.out⟩, ⟨rl HO_11.out⟩, ⟨kl BK1525.out⟩, ⟨by exact bs1 GE1525.out HB.out⟩⟩
       ·rw [if_neg c16] at H
        exact absurd H (by simp)
      ·rw [if_neg c15] at H
       exact absurd H (by simp)
     ·rw [if_neg c14] at H
      exact absurd H (by simp)
    ·rw [if_neg c13] at H
     have c13b0 : decide (x13_1 < (t1530.length : Int)) = false := decide_eq_false c13
     clear c13
     obtain rfl := Option.some.inj H
     go_wp2
     go_ret
     exact ⟨_, by first | rfl | (simp [errW_none, errW_some] <;> rfl) | (simp [*, errW_none, errW_some] <;> rfl), by exact rl HO_3.out, by exact bs1 GE1525.out HB.out⟩
 ·replace c3 := Bool.eq_false_iff.mpr c3
  subst c3
  have H1 : (some ([] : List Bool)) = some r := by rw [if_neg (show ¬ (false = true) by decide)] at H; exact H
  clear H
  have H := H1
  clear H1
  obtain rfl := Option.some.inj H
  go_enter Try.func48, Try.ntmps48
  go_wp2_with (first | ((with_reducible refine gate_dst (N := 1) rfl ?_); refine box_event ?hg (N := 1) ?hd (cs := #[.slice A0_0 l0_0.length c0_0, .slice A0_1 l0_1.length c0_1, .slice A0_2 l0_2.length c0_2]) (t := 28) ?hr ?_; (case hd => rfl); (case hg => rfl); (case hr => first | (go_simp; done) | (go_simp; rfl)); intro gb1525 hg w18 hbox hb; have BK1525 := am (hbox); have GW1525 := am ((by rw [hg]; exact (below_size (bl HB.out)) : w.heap.size ≤ gb1525)); have GE1525 := am ((by rw [hg]; exact (below_size (bl HB.out)) : w.heap.size ≤ gb1525)); replace HB := am (below_step (bl HB.out) hb); clear hb hbox hg; obtain ⟨hcz19_0, hcz19_1, hcz19_2, hfz19_0, hfz19_1, hfz19_2⟩ := cf3 BK1525) | ((with_reducible refine gate_callee (f := 50) rfl ?_); refine gL (some 7) rfl rfl Try.func50 (by kernel_rfl) rfl #[.agg #[.slice A0_0 l0_0.length c0_0, .slice A0_1 l0_1.length c0_1, .slice A0_2 l0_2.length c0_2]] rfl ?_; (with_reducible refine (impl_HeapValid.calls k (fun k_ => k_ < w.heap.size) _ _ l0_0 (fun k_ => k_ < w.heap.size) _ _ l0_1 (fun k_ => k_ < w.heap.size) _ _ l0_2 false _ ?side1 ?side2 ?side3 A2.out).mono ?_); (case side1 => exact Kd.V_mk HC0_0.out (Kd.F_below (Kd.C_F (Kd.heap_int .i64) HR0_0.out) (bs1 GE1525.out HB.out))); (case side2 => exact Kd.V_mk HC0_1.out (Kd.F_below (Kd.C_F (Kd.heap_int .i64) HR0_1.out) (bs1 GE1525.out HB.out))); (case side3 => exact Kd.V_mk HC0_2.out (Kd.F_below (Kd.C_F (Kd.heap_int .i64) HR0_2.out) (bs1 GE1525.out HB.out))); rintro e w20 ⟨rfl, hb⟩; refine ⟨_, rfl, ?_⟩; replace BK1525 := bb BK1525 hb; replace HB := am (below_step (bs1 GE1525.out HB.out) hb); (try clear hb)))
  go_ret
  exact ⟨_, by first | rfl | (simp [errW_none, errW_some] <;> rfl) | (simp [*, errW_none, errW_some] <;> rfl), by first | exact Kd.R_nil _ _ _ _ _ | exact Kd.N_nil _ _ _ _ _ | exact Kd.V_nil _ _ _ _ _ | exact Kd.Q_nil _ _ _ _ _ | exact Kd.S_nil _ _ _ _ _, by exact bs1 GE1525.out HB.out⟩

end Go.Proofs.Ytkbaggfkidalfaa.A
