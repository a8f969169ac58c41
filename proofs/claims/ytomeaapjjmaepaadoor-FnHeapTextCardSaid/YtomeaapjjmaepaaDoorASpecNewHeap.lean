/- Contracts of functions of the given program (ASpecNewHeap). No conditions beyond those stated. -/
import Derived.Test.YtomeaapjjmaepaaDoorA0
import Derived.Test.YtomeaapjjmaepaaDoorASpecL1Many
import Derived.Test.YtomeaapjjmaepaaDoorA0
namespace Go.Proofs.YtomeaapjjmaepaaDoor.A
open Go.RowKit Go.Proofs.YtomeaapjjmaepaaDoorW.PrintWords Go.Proofs.YtomeaapjjmaepaaDoorW.PrintLast Go.Proofs.YtomeaapjjmaepaaDoorW.PrintMore
attribute [local go_sem] max2_int min2_int max_two min_two max_three min_three max_four min_four   -- for this text's walks alone
set_option linter.unusedVariables false
set_option linter.unusedSimpArgs false

/-! ### spec_NewHeap -/
def spec_NewHeap.j0 : Nat → Int → Int → Bool → Option (List Int × List Int × List Int × Bool)
 | 0, _, _, _ => none
 | k + 1, x0, x1, x19 => if x19 = true then (some (([] : List Int), ([] : List Int), ([] : List Int), false)) else ((spec_l1Many.f k x0).bind fun t274 => ((spec_l1Many.f k x0).bind fun t277 => ((spec_l1Many.f k x1).bind fun t280 => (some (t274, t277, t280, true)))))
def spec_NewHeap.f (k : Nat) (a0 : Int) (a1 : Int) : Option (List Int × List Int × List Int × Bool) := if a0 < 1 then (spec_NewHeap.j0 k a0 a1 true) else (if a0 > 8 then (spec_NewHeap.j0 k a0 a1 true) else (if a1 < 1 then (spec_NewHeap.j0 k a0 a1 true) else (spec_NewHeap.j0 k a0 a1 (decide (a1 > 3)))))
theorem spec_NewHeap.mono_l : ∀ k, (∀ y0 y1 y2, LeO (spec_NewHeap.j0 k y0 y1 y2) (spec_NewHeap.j0 (k + 1) y0 y1 y2))
 | 0 => fun _ _ _ r h => by simp [spec_NewHeap.j0] at h
 | k + 1 => by
  have ih0 := spec_NewHeap.mono_l k
  ·intro y0 y1 y2
   unfold spec_NewHeap.j0
   repeat' first
   | (with_reducible exact ih0 _ _ _)
   | (with_reducible exact spec_l1Many.mono _ _)
   | (with_reducible exact LeO.refl _)
   | (with_reducible exact LeO.none _)
   | (with_reducible refine LeO.ite ?_ ?_)
   | (with_reducible refine LeO.bind ?_ (fun _ => ?_))
   | exact ih0 _ _ _
   | exact spec_l1Many.mono _ _
   | exact LeO.none _
   | refine LeO.ite ?_ ?_
   | refine LeO.bind ?_ (fun _ => ?_)
theorem spec_NewHeap.mono : ∀ a0 a1 k, LeO (spec_NewHeap.f k a0 a1) (spec_NewHeap.f (k + 1) a0 a1) := by
 intro a0 a1 k
 have ih0 := spec_NewHeap.mono_l k
 unfold spec_NewHeap.f
 repeat' first
   | (with_reducible exact ih0 _ _ _)
   | (with_reducible exact spec_l1Many.mono _ _)
   | (with_reducible exact LeO.refl _)
   | (with_reducible exact LeO.none _)
   | (with_reducible refine LeO.ite ?_ ?_)
   | (with_reducible refine LeO.bind ?_ (fun _ => ?_))
   | exact ih0 _ _ _
   | exact spec_l1Many.mono _ _
   | exact LeO.none _
   | refine LeO.ite ?_ ?_
   | refine LeO.bind ?_ (fun _ => ?_)
set_option maxHeartbeats 8000000 in
set_option maxRecDepth 100000 in
theorem spec_NewHeap.calls (k : Nat) (a0 : Int) (a1 : Int) (r1 : List Int) (r2 : List Int) (r3 : List Int) (r4 : Bool) (w : World) (h : spec_NewHeap.f k a0 a1 = some (r1, r2, r3, r4)) :
  Calls Tryd.prog 47 #[.int .i64 a0, .int .i64 a1] w fun e w' => ∃ v0_ v1_ v2_ : Value, e = .returned (.tuple #[.agg #[v0_, v1_, v2_], .bool r4]) ∧ Kd.R (Kd.int .i64) 3 w' w.heap.size (fun k_ => some k_ ≠ (v1_ : Value).ownBlock ∧ some k_ ≠ (v2_ : Value).ownBlock) v0_ r1 ∧ Kd.R (Kd.int .i64) 3 w' w.heap.size (fun k_ => some k_ ≠ (v0_ : Value).ownBlock ∧ some k_ ≠ (v2_ : Value).ownBlock) v1_ r2 ∧ Kd.R (Kd.int .i64) 3 w' w.heap.size (fun k_ => some k_ ≠ (v0_ : Value).ownBlock ∧ some k_ ≠ (v1_ : Value).ownBlock) v2_ r3 ∧ Below w.heap.size w w' := by
 have hu24 := Tryd.underlying24
 have HB := am (Below.refl w.heap.size w)
 have H : (if a0 < 1 then (spec_NewHeap.j0 k a0 a1 true) else (if a0 > 8 then (spec_NewHeap.j0 k a0 a1 true) else (if a1 < 1 then (spec_NewHeap.j0 k a0 a1 true) else (spec_NewHeap.j0 k a0 a1 (decide (a1 > 3)))))) = some (r1, r2, r3, r4) := h
 clear h
 have HC3 := am H
 clear H
 go_enter Tryd.func47, Tryd.ntmps47
 go_upto_region 1 with (first | ((with_reducible refine gate_dst (N := 4) rfl ?_); refine box_event ?hg (N := 4) ?hd (cs := #[.slice none 0 0, .slice none 0 0, .slice none 0 0]) (t := 24) ?hr ?_; (case hd => rfl); (case hg => rfl); (case hr => first | (go_simp; done) | (go_simp; rfl)); intro gb273 hg w4 hbox hb; have BK273 := am (hbox); have GW273 := am ((by rw [hg]; exact (below_size (bl HB.out)) : w.heap.size ≤ gb273)); have GE273 := am ((by rw [hg]; exact (below_size (bl HB.out)) : w.heap.size ≤ gb273)); replace HB := am (below_step (bl HB.out) hb); clear hb hbox hg))
 (try simp only [Act.put, List.setIfInBounds_toArray, List.set_cons_zero, List.set_cons_succ])
 go_cut [19] (fun v19 wc => ∃ (kq : Nat) (x19_2 : Bool), v19 = .bool x19_2 ∧ Aside0 (spec_NewHeap.j0 kq a0 a1 x19_2 = some (r1, r2, r3, r4)) ∧ Aside0 (kq ≤ k) ∧ Aside0 (wc.heap[gb273]? = some (.cells #[(.slice none 0 0), (.slice none 0 0), (.slice none 0 0)] 24 (0, 0))) ∧ Aside0 (Below w.heap.size w wc))
 case first =>
  have H := HC3.out
  clear HC3
  by_cases c5 : a0 < 1
  ·rw [if_pos c5] at H
   have c5b0 : decide (a0 < 1) = true := decide_eq_true c5
   clear c5
   (first | rw [c5b0] | (simp only [i64_w, i32_w]; rw [c5b0]) | skip)
   have H' := am H
   clear H
   go_wp2
   go_meet
   case rel => exact ⟨_, (true), (by first | rfl | (simp; done) | (simp [*]; done)), H', ⟨by first | omega | exact Nat.le_refl _⟩, ⟨kl BK273.out⟩, ⟨by exact bs1 GE273.out HB.out⟩⟩
  ·rw [if_neg c5] at H
   have c5b0 : decide (a0 < 1) = false := decide_eq_false c5
   clear c5
   (first | rw [c5b0] | (simp only [i64_w, i32_w]; rw [c5b0]) | skip)
   by_cases c6 : a0 > 8
   ·rw [if_pos c6] at H
    have c6b0 : decide (8 < a0) = true := decide_eq_true c6
    clear c6
    have H' := am H
    clear H
    go_wp2
    go_meet
    case rel => exact ⟨_, (true), (by first | rfl | (simp; done) | (simp [*]; done)), H', ⟨by first | omega | exact Nat.le_refl _⟩, ⟨kl BK273.out⟩, ⟨by exact bs1 GE273.out HB.out⟩⟩
   ·rw [if_neg c6] at H
    have c6b0 : decide (8 < a0) = false := decide_eq_false c6
    clear c6
    by_cases c7 : a1 < 1
    ·rw [if_pos c7] at H
     have c7b0 : decide (a1 < 1) = true := decide_eq_true c7
     clear c7
     have H' := am H
     clear H
     go_wp2
     go_meet
     case rel => exact ⟨_, (true), (by first | rfl | (simp; done) | (simp [*]; done)), H', ⟨by first | omega | exact Nat.le_refl _⟩, ⟨kl BK273.out⟩, ⟨by exact bs1 GE273.out HB.out⟩⟩
    ·rw [if_neg c7] at H
     have c7b0 : decide (a1 < 1) = false := decide_eq_false c7
     clear c7
     have H' := am H
     clear H
     go_wp2
     go_meet
     case rel => exact ⟨_, (decide (a1 > 3)), (by first | rfl | (simp; done) | (simp [*]; done)), H', ⟨by first | omega | exact Nat.le_refl _⟩, ⟨kl BK273.out⟩, ⟨by exact bs1 GE273.out HB.out⟩⟩
 case rest =>
  clear HC3
  try clear p2
  try clear c4
  try clear c5
  try clear c5b0
  try clear c6
  try clear c6b0
  try clear c7
  try clear c7b0
  obtain ⟨kq, x19_2, rfl, HA, HJ2, BK273, HB⟩ := hcut
  cases kq with
  | zero => exact absurd HA.out (by simp [spec_NewHeap.j0])
  | succ kj2 =>
   have H := HA.out
   clear HA
   simp only [spec_NewHeap.j0] at H
   by_cases c8 : x19_2 = true
   ·subst c8
    have H1 : (some (([] : List Int), ([] : List Int), ([] : List Int), false)) = some (r1, r2, r3, r4) := by rw [if_pos rfl] at H; exact H
    clear H
    have H := H1
    clear H1
    simp only [Option.some.injEq, Prod.mk.injEq] at H
    obtain ⟨rfl, rfl, rfl, rfl⟩ := H
    obtain ⟨hcz9_0, hcz9_1, hcz9_2, hfz9_0, hfz9_1, hfz9_2⟩ := cf3 BK273
    go_wp2
    refine bodyPost_ret (results_ct rfl _ _ gb273 24 #[.slice none 0 0, .slice none 0 0, .slice none 0 0] (0, 0) _ rfl (kp3 (kf0 BK273.out)) Tryd.underlying24 rfl (by kernel_rfl)) rfl ?_
    exact ⟨_, _, _, by first | rfl | (simp [errW_none, errW_some] <;> rfl) | (simp [*, errW_none, errW_some] <;> rfl), by first | exact Kd.R_nil _ _ _ _ _ | exact Kd.N_nil _ _ _ _ _ | exact Kd.V_nil _ _ _ _ _ | exact Kd.Q_nil _ _ _ _ _ | exact Kd.S_nil _ _ _ _ _, by first | exact Kd.R_nil _ _ _ _ _ | exact Kd.N_nil _ _ _ _ _ | exact Kd.V_nil _ _ _ _ _ | exact Kd.Q_nil _ _ _ _ _ | exact Kd.S_nil _ _ _ _ _, by first | exact Kd.R_nil _ _ _ _ _ | exact Kd.N_nil _ _ _ _ _ | exact Kd.V_nil _ _ _ _ _ | exact Kd.Q_nil _ _ _ _ _ | exact Kd.S_nil _ _ _ _ _, by exact bs1 GE273.out HB.out⟩
   ·replace c8 := Bool.eq_false_iff.mpr c8
    subst c8
    have H1 : ((spec_l1Many.f kj2 a0).bind fun t274 => ((spec_l1Many.f kj2 a0).bind fun t277 => ((spec_l1Many.f kj2 a1).bind fun t280 => (some (t274, t277, t280, true))))) = some (r1, r2, r3, r4) := by rw [if_neg (show ¬ (false = true) by decide)] at H; exact H
    clear H
    have H := H1
    clear H1
    replace H := Option.bind_eq_some_iff.mp H
    obtain ⟨t274, A100, H⟩ := H
    replace H : ((spec_l1Many.f kj2 a0).bind fun t277 => ((spec_l1Many.f kj2 a1).bind fun t280 => (some (t274, t277, t280, true)))) = some (r1, r2, r3, r4) := H
    have A10 := am A100
    clear A100
    replace H := Option.bind_eq_some_iff.mp H
    obtain ⟨t277, A110, H⟩ := H
    replace H : ((spec_l1Many.f kj2 a1).bind fun t280 => (some (t274, t277, t280, true))) = some (r1, r2, r3, r4) := H
    have A11 := am A110
    clear A110
    replace H := Option.bind_eq_some_iff.mp H
    obtain ⟨t280, A120, H⟩ := H
    replace H : (some (t274, t277, t280, true)) = some (r1, r2, r3, r4) := H
    have A12 := am A120
    clear A120
    simp only [Option.some.injEq, Prod.mk.injEq] at H
    obtain ⟨rfl, rfl, rfl, rfl⟩ := H
    go_wp2_with (first | ((with_reducible refine gate_callee (f := 54) rfl ?_); refine gL (some 22) rfl rfl Tryd.func54 (by kernel_rfl) rfl #[.int .i64 a0] rfl ?_; (with_reducible refine (spec_l1Many.calls kj2 a0 t274 _ A10.out).mono ?_); rintro e w13 ⟨v275, rfl, ho0, hb⟩; refine ⟨_, rfl, ?_⟩; have HO276 := ln0 ho0 (bs1 GE273.out HB.out); replace BK273 := bb BK273 hb; replace HB := am (below_step (bs1 GE273.out HB.out) hb); (try clear hb ho0)) | ((with_reducible refine gate_callee (f := 54) rfl ?_); refine gL (some 24) rfl rfl Tryd.func54 (by kernel_rfl) rfl #[.int .i64 a0] rfl ?_; (with_reducible refine (spec_l1Many.calls kj2 a0 t277 _ A11.out).mono ?_); rintro e w14 ⟨v278, rfl, ho0, hb⟩; refine ⟨_, rfl, ?_⟩; have HO279 := ln1 ho0 (rl HO276.out) (bs1 GE273.out HB.out); replace HO276 := am (Kd.R_elder' (rl HO276.out) (Kd.R_base ho0) hb); replace BK273 := bb BK273 hb; replace HB := am (below_step (bs1 GE273.out HB.out) hb); (try clear hb ho0)) | ((with_reducible refine gate_callee (f := 54) rfl ?_); refine gL (some 26) rfl rfl Tryd.func54 (by kernel_rfl) rfl #[.int .i64 a1] rfl ?_; (with_reducible refine (spec_l1Many.calls kj2 a1 t280 _ A12.out).mono ?_); rintro e w15 ⟨v281, rfl, ho0, hb⟩; refine ⟨_, rfl, ?_⟩; have HO282 := ln2 ho0 (rl HO276.out) (rl HO279.out) (bs1 GE273.out HB.out); replace HO276 := am (Kd.R_elder' (rl HO276.out) (Kd.R_base ho0) hb); replace HO279 := am (Kd.R_elder' (rl HO279.out) (Kd.R_base ho0) hb); replace BK273 := bb BK273 hb; replace HB := am (below_step (bs1 GE273.out HB.out) hb); (try clear hb ho0); obtain ⟨Ao16, co16, eo16⟩ := Kd.R_slice HO282.out; subst eo16; obtain ⟨Ao17, co17, eo17⟩ := Kd.R_slice HO279.out; subst eo17; obtain ⟨Ao18, co18, eo18⟩ := Kd.R_slice HO276.out; subst eo18; obtain ⟨hcz19_0, hcz19_1, hcz19_2, hfz19_0, hfz19_1, hfz19_2⟩ := cf3 BK273))
    refine bodyPost_ret (results_ct rfl _ _ gb273 24 #[.slice Ao18 t274.length co18, .slice Ao17 t277.length co17, .slice Ao16 t280.length co16] (0, 0) _ rfl (kp3 (kf0 BK273.out)) Tryd.underlying24 rfl (by kernel_rfl)) rfl ?_
    exact ⟨_, _, _, by first | rfl | (simp [errW_none, errW_some] <;> rfl) | (simp [*, errW_none, errW_some] <;> rfl), by exact ro (rg BK273 HO276), by exact ro (rg BK273 HO279), by exact ro (rg BK273 HO282), by exact bs1 GE273.out HB.out⟩

end Go.Proofs.YtomeaapjjmaepaaDoor.A
