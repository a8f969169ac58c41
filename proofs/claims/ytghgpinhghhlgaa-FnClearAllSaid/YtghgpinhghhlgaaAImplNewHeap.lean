/- Contracts of functions of the given program (AImplNewHeap). No conditions beyond those stated. -/
import Derived.Test.YtghgpinhghhlgaaA0
import Derived.Test.YtghgpinhghhlgaaASlicesRepeatIntInt
import Derived.Test.YtghgpinhghhlgaaA0
namespace Go.Proofs.Ytghgpinhghhlgaa.A
open Go.RowKit Go.Proofs.YtghgpinhghhlgaaW.PrintWords Go.Proofs.YtghgpinhghhlgaaW.PrintLast Go.Proofs.YtghgpinhghhlgaaW.PrintMore
attribute [local go_sem] max2_int min2_int max_two min_two max_three min_three max_four min_four   -- for this text's walks alone
set_option linter.unusedVariables false
set_option linter.unusedSimpArgs false

/-! ### impl_NewHeap -/
def impl_NewHeap.j0 : Nat → Int → Int → Bool → Option (List Int × List Int × List Int × Bool)
 | 0, _, _, _ => none
 | k + 1, x0, x1, x19 => if x19 = true then (some (([] : List Int), ([] : List Int), ([] : List Int), false)) else ((slices_Repeat_int_int.f (([(-1)] : List Int)) x0).bind fun t952 => ((slices_Repeat_int_int.f (([(-1)] : List Int)) x0).bind fun t958 => ((slices_Repeat_int_int.f (([(-1)] : List Int)) x1).bind fun t964 => (some (t952, t958, t964, true)))))
def impl_NewHeap.f (k : Nat) (a0 : Int) (a1 : Int) : Option (List Int × List Int × List Int × Bool) := if a0 < 1 then (impl_NewHeap.j0 k a0 a1 true) else (if a0 > 8 then (impl_NewHeap.j0 k a0 a1 true) else (if a1 < 1 then (impl_NewHeap.j0 k a0 a1 true) else (impl_NewHeap.j0 k a0 a1 (decide (a1 > 3)))))
theorem impl_NewHeap.mono_l : ∀ k, (∀ y0 y1 y2, LeO (impl_NewHeap.j0 k y0 y1 y2) (impl_NewHeap.j0 (k + 1) y0 y1 y2))
 | 0 => fun _ _ _ r h => by simp [impl_NewHeap.j0] at h
 | k + 1 => by
  have ih0 := impl_NewHeap.mono_l k
  ·intro y0 y1 y2
   unfold impl_NewHeap.j0
   repeat' first
   | (with_reducible exact ih0 _ _ _)
   | (with_reducible exact LeO.refl _)
   | (with_reducible exact LeO.none _)
   | (with_reducible refine LeO.ite ?_ ?_)
   | (with_reducible refine LeO.bind ?_ (fun _ => ?_))
   | exact ih0 _ _ _
   | exact LeO.none _
   | refine LeO.ite ?_ ?_
   | refine LeO.bind ?_ (fun _ => ?_)
theorem impl_NewHeap.mono : ∀ a0 a1 k, LeO (impl_NewHeap.f k a0 a1) (impl_NewHeap.f (k + 1) a0 a1) := by
 intro a0 a1 k
 have ih0 := impl_NewHeap.mono_l k
 unfold impl_NewHeap.f
 repeat' first
   | (with_reducible exact ih0 _ _ _)
   | (with_reducible exact LeO.refl _)
   | (with_reducible exact LeO.none _)
   | (with_reducible refine LeO.ite ?_ ?_)
   | (with_reducible refine LeO.bind ?_ (fun _ => ?_))
   | exact ih0 _ _ _
   | exact LeO.none _
   | refine LeO.ite ?_ ?_
   | refine LeO.bind ?_ (fun _ => ?_)
set_option maxHeartbeats 8000000 in
set_option maxRecDepth 100000 in
theorem impl_NewHeap.calls (k : Nat) (a0 : Int) (a1 : Int) (r1 : List Int) (r2 : List Int) (r3 : List Int) (r4 : Bool) (w : World) (h : impl_NewHeap.f k a0 a1 = some (r1, r2, r3, r4)) :
  Calls Try.prog 35 #[.int .i64 a0, .int .i64 a1] w fun e w' => ∃ v0_ v1_ v2_ : Value, e = .returned (.tuple #[.agg #[v0_, v1_, v2_], .bool r4]) ∧ Kd.R (Kd.int .i64) 3 w' w.heap.size (fun k_ => some k_ ≠ (v1_ : Value).ownBlock ∧ some k_ ≠ (v2_ : Value).ownBlock) v0_ r1 ∧ Kd.R (Kd.int .i64) 3 w' w.heap.size (fun k_ => some k_ ≠ (v0_ : Value).ownBlock ∧ some k_ ≠ (v2_ : Value).ownBlock) v1_ r2 ∧ Kd.R (Kd.int .i64) 3 w' w.heap.size (fun k_ => some k_ ≠ (v0_ : Value).ownBlock ∧ some k_ ≠ (v1_ : Value).ownBlock) v2_ r3 ∧ Below w.heap.size w w' := by
 have hu25 := Try.underlying25
 have HB := am (Below.refl w.heap.size w)
 have H : (if a0 < 1 then (impl_NewHeap.j0 k a0 a1 true) else (if a0 > 8 then (impl_NewHeap.j0 k a0 a1 true) else (if a1 < 1 then (impl_NewHeap.j0 k a0 a1 true) else (impl_NewHeap.j0 k a0 a1 (decide (a1 > 3)))))) = some (r1, r2, r3, r4) := h
 clear h
 have HC3 := am H
 clear H
 go_enter Try.func35, Try.ntmps35
 go_upto_region 1 with (first | ((with_reducible refine gate_dst (N := 4) rfl ?_); refine box_event ?hg (N := 4) ?hd (cs := #[.slice none 0 0, .slice none 0 0, .slice none 0 0]) (t := 25) ?hr ?_; (case hd => rfl); (case hg => rfl); (case hr => first | (go_simp; done) | (go_simp; rfl)); intro gb948 hg w4 hbox hb; have BK948 := am (hbox); have GW948 := am ((by rw [hg]; exact (below_size (bl HB.out)) : w.heap.size ≤ gb948)); have GE948 := am ((by rw [hg]; exact (below_size (bl HB.out)) : w.heap.size ≤ gb948)); replace HB := am (below_step (bl HB.out) hb); clear hb hbox hg))
 (try simp only [Act.put, List.setIfInBounds_toArray, List.set_cons_zero, List.set_cons_succ])
 go_cut [19] (fun v19 wc => ∃ (kq : Nat) (x19_2 : Bool), v19 = .bool x19_2 ∧ Aside0 (impl_NewHeap.j0 kq a0 a1 x19_2 = some (r1, r2, r3, r4)) ∧ Aside0 (kq ≤ k) ∧ Aside0 (wc.heap[gb948]? = some (.cells #[(.slice none 0 0), (.slice none 0 0), (.slice none 0 0)] 25 (0, 0))) ∧ Aside0 (Below w.heap.size w wc))
 case first =>
  have H := HC3.out
  clear HC3
  by_cases c5 : a0 < 1
  ·rw [if_pos c5] at H
   have c5b0 : decide (a0 < 1) = true := decide_eq_true c5
   clear c5
   (first | rw [c5b0] | (simp only [i64_w, i32_w]; rw [c5b0]) | skip)
   have H' := am H
   clear H
   go_wp2
   go_meet
   case rel => exact ⟨_, (true), (by first | rfl | (simp; done) | (simp [*]; done)), H', ⟨by first | omega | exact Nat.le_refl _⟩, ⟨kl BK948.out⟩, ⟨by exact bs1 GE948.out HB.out⟩⟩
  ·rw [if_neg c5] at H
   have c5b0 : decide (a0 < 1) = false := decide_eq_false c5
   clear c5
   (first | rw [c5b0] | (simp only [i64_w, i32_w]; rw [c5b0]) | skip)
   by_cases c6 : a0 > 8
   ·rw [if_pos c6] at H
    have c6b0 : decide (8 < a0) = true := decide_eq_true c6
    clear c6
    have H' := am H
    clear H
    go_wp2
    go_meet
    case rel => exact ⟨_, (true), (by first | rfl | (simp; done) | (simp [*]; done)), H', ⟨by first | omega | exact Nat.le_refl _⟩, ⟨kl BK948.out⟩, ⟨by exact bs1 GE948.out HB.out⟩⟩
   ·rw [if_neg c6] at H
    have c6b0 : decide (8 < a0) = false := decide_eq_false c6
    clear c6
    by_cases c7 : a1 < 1
    ·rw [if_pos c7] at H
     have c7b0 : decide (a1 < 1) = true := decide_eq_true c7
     clear c7
     have H' := am H
     clear H
     go_wp2
     go_meet
     case rel => exact ⟨_, (true), (by first | rfl | (simp; done) | (simp [*]; done)), H', ⟨by first | omega | exact Nat.le_refl _⟩, ⟨kl BK948.out⟩, ⟨by exact bs1 GE948.out HB.out⟩⟩
    ·rw [if_neg c7] at H
     have c7b0 : decide (a1 < 1) = false := decide_eq_false c7
     clear c7
     have H' := am H
     clear H
     go_wp2
     go_meet
     case rel => exact ⟨_, (decide (a1 > 3)), (by first | rfl | (simp; done) | (simp [*]; done)), H', ⟨by first | omega | exact Nat.le_refl _⟩, ⟨kl BK948.out⟩, ⟨by exact bs1 GE948.out HB.out⟩⟩
 case rest =>
  clear HC3
  try clear p2
  try clear c3
  try clear c5
  try clear c5b0
  try clear c6
  try clear c6b0
  try clear c7
  try clear c7b0
  obtain ⟨kq, x19_2, rfl, HA, HJ2, BK948, HB⟩ := hcut
  cases kq with
  | zero => exact absurd HA.out (by simp [impl_NewHeap.j0])
  | succ kj2 =>
   have H := HA.out
   clear HA
   simp only [impl_NewHeap.j0] at H
   by_cases c8 : x19_2 = true
   ·subst c8
    have H1 : (some (([] : List Int), ([] : List Int), ([] : List Int), false)) = some (r1, r2, r3, r4) := by rw [if_pos rfl] at H; exact H
    clear H
    have H := H1
    clear H1
    simp only [Option.some.injEq, Prod.mk.injEq] at H
    obtain ⟨rfl, rfl, rfl, rfl⟩ := H
    have hcz9_0 : wc.cell? ⟨gb948, 0, none⟩ = some (.slice none 0 0) := (blk_cell BK948.out 0).trans rfl
    have hcz9_1 : wc.cell? ⟨gb948, 1, none⟩ = some (.slice none 0 0) := (blk_cell BK948.out 1).trans rfl
    have hcz9_2 : wc.cell? ⟨gb948, 2, none⟩ = some (.slice none 0 0) := (blk_cell BK948.out 2).trans rfl
    have hfz9_0 := blk_frozen BK948.out 0
    have hfz9_1 := blk_frozen BK948.out 1
    have hfz9_2 := blk_frozen BK948.out 2
    go_wp2
    refine bodyPost_ret (results_ct rfl _ _ gb948 25 #[.slice none 0 0, .slice none 0 0, .slice none 0 0] (0, 0) _ rfl (kp3 (kf0 BK948.out)) Try.underlying25 rfl (by kernel_rfl)) rfl ?_
    exact ⟨_, _, _, by first | rfl | (simp [errW_none, errW_some] <;> rfl) | (simp [*, errW_none, errW_some] <;> rfl), by first | exact Kd.R_nil _ _ _ _ _ | exact Kd.N_nil _ _ _ _ _ | exact Kd.V_nil _ _ _ _ _ | exact Kd.Q_nil _ _ _ _ _ | exact Kd.S_nil _ _ _ _ _, by first | exact Kd.R_nil _ _ _ _ _ | exact Kd.N_nil _ _ _ _ _ | exact Kd.V_nil _ _ _ _ _ | exact Kd.Q_nil _ _ _ _ _ | exact Kd.S_nil _ _ _ _ _, by first | exact Kd.R_nil _ _ _ _ _ | exact Kd.N_nil _ _ _ _ _ | exact Kd.V_nil _ _ _ _ _ | exact Kd.Q_nil _ _ _ _ _ | exact Kd.S_nil _ _ _ _ _, by exact bs1 GE948.out HB.out⟩
   ·replace c8 := Bool.eq_false_iff.mpr c8
    subst c8
    have H1 : ((slices_Repeat_int_int.f (([(-1)] : List Int)) a0).bind fun t952 => ((slices_Repeat_int_int.f (([(-1)] : List Int)) a0).bind fun t958 => ((slices_Repeat_int_int.f (([(-1)] : List Int)) a1).bind fun t964 => (some (t952, t958, t964, true))))) = some (r1, r2, r3, r4) := by rw [if_neg (show ¬ (false = true) by decide)] at H; exact H
    clear H
    have H := H1
    clear H1
    obtain ⟨y949, hy949⟩ : ∃ y_ : List Int, y_ = (([(-1)] : List Int)) := ⟨_, rfl⟩
    replace H : ((slices_Repeat_int_int.f y949 a0).bind fun t952 => ((slices_Repeat_int_int.f (([(-1)] : List Int)) a0).bind fun t958 => ((slices_Repeat_int_int.f (([(-1)] : List Int)) a1).bind fun t964 => (some (t952, t958, t964, true))))) = some (r1, r2, r3, r4) := by first | (rw [hy949]; with_reducible exact H) | (have H2_ := (Option.bind_some _ _).symm.trans H; rw [hy949]; with_reducible exact H2_) | (have H2_ := (Option.bind_some _ _).symm.trans H; with_reducible exact H2_) | with_reducible exact H | (rw [hy949]; exact H) | exact H
    have Ny949 := am hy949
    clear hy949
    replace H := Option.bind_eq_some_iff.mp H
    obtain ⟨t952, A100, H⟩ := H
    replace H : ((slices_Repeat_int_int.f (([(-1)] : List Int)) a0).bind fun t958 => ((slices_Repeat_int_int.f (([(-1)] : List Int)) a1).bind fun t964 => (some (t952, t958, t964, true)))) = some (r1, r2, r3, r4) := H
    have A10 := am A100
    clear A100
    obtain ⟨y955, hy955⟩ : ∃ y_ : List Int, y_ = (([(-1)] : List Int)) := ⟨_, rfl⟩
    replace H : ((slices_Repeat_int_int.f y955 a0).bind fun t958 => ((slices_Repeat_int_int.f (([(-1)] : List Int)) a1).bind fun t964 => (some (t952, t958, t964, true)))) = some (r1, r2, r3, r4) := by first | (rw [hy955]; with_reducible exact H) | (have H2_ := (Option.bind_some _ _).symm.trans H; rw [hy955]; with_reducible exact H2_) | (have H2_ := (Option.bind_some _ _).symm.trans H; with_reducible exact H2_) | with_reducible exact H | (rw [hy955]; exact H) | exact H
    have Ny955 := am hy955
    clear hy955
    replace H := Option.bind_eq_some_iff.mp H
    obtain ⟨t958, A110, H⟩ := H
    replace H : ((slices_Repeat_int_int.f (([(-1)] : List Int)) a1).bind fun t964 => (some (t952, t958, t964, true))) = some (r1, r2, r3, r4) := H
    have A11 := am A110
    clear A110
    obtain ⟨y961, hy961⟩ : ∃ y_ : List Int, y_ = (([(-1)] : List Int)) := ⟨_, rfl⟩
    replace H : ((slices_Repeat_int_int.f y961 a1).bind fun t964 => (some (t952, t958, t964, true))) = some (r1, r2, r3, r4) := by first | (rw [hy961]; with_reducible exact H) | (have H2_ := (Option.bind_some _ _).symm.trans H; rw [hy961]; with_reducible exact H2_) | (have H2_ := (Option.bind_some _ _).symm.trans H; with_reducible exact H2_) | with_reducible exact H | (rw [hy961]; exact H) | exact H
    have Ny961 := am hy961
    clear hy961
    replace H := Option.bind_eq_some_iff.mp H
    obtain ⟨t964, A120, H⟩ := H
    replace H : (some (t952, t958, t964, true)) = some (r1, r2, r3, r4) := H
    have A12 := am A120
    clear A120
    simp only [Option.some.injEq, Prod.mk.injEq] at H
    obtain ⟨rfl, rfl, rfl, rfl⟩ := H
    go_wp2_with (first | ((with_reducible refine gate_dst (N := 21) rfl ?_); refine Kd.R_lit (Kd.int .i64) _ 3 ?hg (N := 21) ?hd (xs := ([(-1)] : List Int)) (inner := [.int .i64 (-1)]) (ok := fun _ => True) (okp := fun _ => True) ?hr ?hp (fun _ hk => hk) trivial (Below.refl _ _) (Nat.le_refl _) (by simp) ?_; (case hd => rfl); (case hg => rfl); (case hr => first | (go_simp; done) | (go_simp; rfl)); (case hp => exact (Reps.one (show Kd.M (Kd.int .i64) _ _ _ (-1) [.int .i64 (-1)] from rfl) (Reps.none _ _))); intro v950 w13 ho14 hb hg_ hnew_; clear hg_ hnew_; (first | rw [← Ny949.out] at ho14 | (simp only [Int.reduceToNat] at ho14; rw [← Ny949.out] at ho14)); have HO951 := am (Kd.R_lower ho14 (below_size (bs1 GE948.out HB.out))); replace BK948 := am (blk_below (g := gb948) (o := .cells #[.slice none 0 0, .slice none 0 0, .slice none 0 0] 25 (0, 0)) (kl BK948.out) hb); replace HB := am (below_step (bs1 GE948.out HB.out) hb); clear hb ho14; obtain ⟨Ao15, co15, eo15⟩ := Kd.R_slice HO951.out; subst eo15) | ((with_reducible refine gate_callee (f := 53) rfl ?_); refine goesL_ (some 23) rfl rfl Try.func53 (by kernel_rfl) rfl #[.slice Ao15 y949.length co15, .int .i64 a0] rfl (by (try simp only [List.map_toArray, List.map_cons, List.map_nil]); first | done | rfl | (simp only [List.length_drop, List.length_take]; rfl)) ?_; (with_reducible refine (slices_Repeat_int_int.calls _ _ y949 a0 t952 _ ?side1 ?side2 A10.out).mono ?_); (case side1 => exact cl ((Kd.R_reads' HO951.out).2.2)); (case side2 => exact (Kd.R_reads' HO951.out).2.1); rintro e w16 ⟨v953, rfl, ho0, hb⟩; refine ⟨_, rfl, ?_⟩; have HO954 := am (Kd.R_lower (Kd.R_new' ho0 (Kd.R_lt (rl HO951.out))) (below_size (bs1 GE948.out HB.out))); replace HO951 := am (Kd.R_elder' (rl HO951.out) (Kd.R_base ho0) hb); replace BK948 := am (blk_below (g := gb948) (o := .cells #[.slice none 0 0, .slice none 0 0, .slice none 0 0] 25 (0, 0)) (kl BK948.out) hb); replace HB := am (below_step (bs1 GE948.out HB.out) hb); (try clear hb); (try clear hb2); (try clear hk); (try clear hi); (try clear ho0)) | ((with_reducible refine gate_dst (N := 24) rfl ?_); refine Kd.R_lit (Kd.int .i64) _ 3 ?hg (N := 24) ?hd (xs := ([(-1)] : List Int)) (inner := [.int .i64 (-1)]) (ok := fun _ => True) (okp := fun _ => True) ?hr ?hp (fun _ hk => hk) trivial (Below.refl _ _) (Nat.le_refl _) (by simp) ?_; (case hd => rfl); (case hg => rfl); (case hr => first | (go_simp; done) | (go_simp; rfl)); (case hp => exact (Reps.one (show Kd.M (Kd.int .i64) _ _ _ (-1) [.int .i64 (-1)] from rfl) (Reps.none _ _))); intro v956 w17 ho18 hb hg_ hnew_; clear hg_ hnew_; (first | rw [← Ny955.out] at ho18 | (simp only [Int.reduceToNat] at ho18; rw [← Ny955.out] at ho18)); have HO957 := am (Kd.R_lower (Kd.R_new' (Kd.R_new' ho18 (Kd.R_lt (rl HO951.out))) (Kd.R_lt (rl HO954.out))) (below_size (bs1 GE948.out HB.out))); replace HO951 := am (Kd.R_elder' (rl HO951.out) (Kd.R_base ho18) hb); replace HO954 := am (Kd.R_elder' (rl HO954.out) (Kd.R_base ho18) hb); replace BK948 := am (blk_below (g := gb948) (o := .cells #[.slice none 0 0, .slice none 0 0, .slice none 0 0] 25 (0, 0)) (kl BK948.out) hb); replace HB := am (below_step (bs1 GE948.out HB.out) hb); clear hb ho18; obtain ⟨Ao19, co19, eo19⟩ := Kd.R_slice HO957.out; subst eo19) | ((with_reducible refine gate_callee (f := 53) rfl ?_); refine goesL_ (some 26) rfl rfl Try.func53 (by kernel_rfl) rfl #[.slice Ao19 y955.length co19, .int .i64 a0] rfl (by (try simp only [List.map_toArray, List.map_cons, List.map_nil]); first | done | rfl | (simp only [List.length_drop, List.length_take]; rfl)) ?_; (with_reducible refine (slices_Repeat_int_int.calls _ _ y955 a0 t958 _ ?side1 ?side2 A11.out).mono ?_); (case side1 => exact cl ((Kd.R_reads' HO957.out).2.2)); (case side2 => exact (Kd.R_reads' HO957.out).2.1); rintro e w20 ⟨v959, rfl, ho0, hb⟩; refine ⟨_, rfl, ?_⟩; have HO960 := am (Kd.R_lower (Kd.R_new' (Kd.R_new' (Kd.R_new' ho0 (Kd.R_lt (rl HO951.out))) (Kd.R_lt (rl HO954.out))) (Kd.R_lt (rl HO957.out))) (below_size (bs1 GE948.out HB.out))); replace HO951 := am (Kd.R_elder' (rl HO951.out) (Kd.R_base ho0) hb); replace HO954 := am (Kd.R_elder' (rl HO954.out) (Kd.R_base ho0) hb); replace HO957 := am (Kd.R_elder' (rl HO957.out) (Kd.R_base ho0) hb); replace BK948 := am (blk_below (g := gb948) (o := .cells #[.slice none 0 0, .slice none 0 0, .slice none 0 0] 25 (0, 0)) (kl BK948.out) hb); replace HB := am (below_step (bs1 GE948.out HB.out) hb); (try clear hb); (try clear hb2); (try clear hk); (try clear hi); (try clear ho0)) | ((with_reducible refine gate_dst (N := 27) rfl ?_); refine Kd.R_lit (Kd.int .i64) _ 3 ?hg (N := 27) ?hd (xs := ([(-1)] : List Int)) (inner := [.int .i64 (-1)]) (ok := fun _ => True) (okp := fun _ => True) ?hr ?hp (fun _ hk => hk) trivial (Below.refl _ _) (Nat.le_refl _) (by simp) ?_; (case hd => rfl); (case hg => rfl); (case hr => first | (go_simp; done) | (go_simp; rfl)); (case hp => exact (Reps.one (show Kd.M (Kd.int .i64) _ _ _ (-1) [.int .i64 (-1)] from rfl) (Reps.none _ _))); intro v962 w21 ho22 hb hg_ hnew_; clear hg_ hnew_; (first | rw [← Ny961.out] at ho22 | (simp only [Int.reduceToNat] at ho22; rw [← Ny961.out] at ho22)); have HO963 := am (Kd.R_lower (Kd.R_new' (Kd.R_new' (Kd.R_new' (Kd.R_new' ho22 (Kd.R_lt (rl HO951.out))) (Kd.R_lt (rl HO954.out))) (Kd.R_lt (rl HO957.out))) (Kd.R_lt (rl HO960.out))) (below_size (bs1 GE948.out HB.out))); replace HO951 := am (Kd.R_elder' (rl HO951.out) (Kd.R_base ho22) hb); replace HO954 := am (Kd.R_elder' (rl HO954.out) (Kd.R_base ho22) hb); replace HO957 := am (Kd.R_elder' (rl HO957.out) (Kd.R_base ho22) hb); replace HO960 := am (Kd.R_elder' (rl HO960.out) (Kd.R_base ho22) hb); replace BK948 := am (blk_below (g := gb948) (o := .cells #[.slice none 0 0, .slice none 0 0, .slice none 0 0] 25 (0, 0)) (kl BK948.out) hb); replace HB := am (below_step (bs1 GE948.out HB.out) hb); clear hb ho22; obtain ⟨Ao23, co23, eo23⟩ := Kd.R_slice HO963.out; subst eo23) | ((with_reducible refine gate_callee (f := 53) rfl ?_); refine goesL_ (some 29) rfl rfl Try.func53 (by kernel_rfl) rfl #[.slice Ao23 y961.length co23, .int .i64 a1] rfl (by (try simp only [List.map_toArray, List.map_cons, List.map_nil]); first | done | rfl | (simp only [List.length_drop, List.length_take]; rfl)) ?_; (with_reducible refine (slices_Repeat_int_int.calls _ _ y961 a1 t964 _ ?side1 ?side2 A12.out).mono ?_); (case side1 => exact cl ((Kd.R_reads' HO963.out).2.2)); (case side2 => exact (Kd.R_reads' HO963.out).2.1); rintro e w24 ⟨v965, rfl, ho0, hb⟩; refine ⟨_, rfl, ?_⟩; have HO966 := am (Kd.R_lower (Kd.R_new' (Kd.R_new' (Kd.R_new' (Kd.R_new' (Kd.R_new' ho0 (Kd.R_lt (rl HO951.out))) (Kd.R_lt (rl HO954.out))) (Kd.R_lt (rl HO957.out))) (Kd.R_lt (rl HO960.out))) (Kd.R_lt (rl HO963.out))) (below_size (bs1 GE948.out HB.out))); replace HO951 := am (Kd.R_elder' (rl HO951.out) (Kd.R_base ho0) hb); replace HO954 := am (Kd.R_elder' (rl HO954.out) (Kd.R_base ho0) hb); replace HO957 := am (Kd.R_elder' (rl HO957.out) (Kd.R_base ho0) hb); replace HO960 := am (Kd.R_elder' (rl HO960.out) (Kd.R_base ho0) hb); replace HO963 := am (Kd.R_elder' (rl HO963.out) (Kd.R_base ho0) hb); replace BK948 := am (blk_below (g := gb948) (o := .cells #[.slice none 0 0, .slice none 0 0, .slice none 0 0] 25 (0, 0)) (kl BK948.out) hb); replace HB := am (below_step (bs1 GE948.out HB.out) hb); (try clear hb); (try clear hb2); (try clear hk); (try clear hi); (try clear ho0); obtain ⟨Ao25, co25, eo25⟩ := Kd.R_slice HO966.out; subst eo25; obtain ⟨Ao26, co26, eo26⟩ := Kd.R_slice HO960.out; subst eo26; obtain ⟨Ao27, co27, eo27⟩ := Kd.R_slice HO954.out; subst eo27; have hcz28_0 : w24.cell? ⟨gb948, 0, none⟩ = some (.slice none 0 0) := (blk_cell BK948.out 0).trans rfl; have hcz28_1 : w24.cell? ⟨gb948, 1, none⟩ = some (.slice none 0 0) := (blk_cell BK948.out 1).trans rfl; have hcz28_2 : w24.cell? ⟨gb948, 2, none⟩ = some (.slice none 0 0) := (blk_cell BK948.out 2).trans rfl; have hfz28_0 := blk_frozen BK948.out 0; have hfz28_1 := blk_frozen BK948.out 1; have hfz28_2 := blk_frozen BK948.out 2))
    refine bodyPost_ret (results_ct rfl _ _ gb948 25 #[.slice Ao27 t952.length co27, .slice Ao26 t958.length co26, .slice Ao25 t964.length co25] (0, 0) _ rfl (kp3 (kf0 BK948.out)) Try.underlying25 rfl (by kernel_rfl)) rfl ?_
    exact ⟨_, _, _, by first | rfl | (simp [errW_none, errW_some] <;> rfl) | (simp [*, errW_none, errW_some] <;> rfl), by (with_reducible repeat (first | apply Kd.R_alloc | apply Kd.R_drewN | apply Kd.R_drew)); exact Kd.R_mono (Kd.R_far (p := ⟨gb948, 2, none⟩) (Kd.R_far (p := ⟨gb948, 1, none⟩) (Kd.R_far (p := ⟨gb948, 0, none⟩) (Kd.R_types HO954.out BK948.out (by decide)) (fun _ hk => hk.2) (.slice Ao27 t952.length co27)) (fun _ hk => hk.2) (.slice Ao26 t958.length co26)) (fun _ hk => hk.2) (.slice Ao25 t964.length co25)) (fun _ hk => by first | exact ⟨hk.1.1.1.2, hk.1.2⟩ | (simp only [ne_eq] at hk ⊢; simp only [hk, not_false_eq_true, and_self])), by (with_reducible repeat (first | apply Kd.R_alloc | apply Kd.R_drewN | apply Kd.R_drew)); exact Kd.R_mono (Kd.R_far (p := ⟨gb948, 2, none⟩) (Kd.R_far (p := ⟨gb948, 1, none⟩) (Kd.R_far (p := ⟨gb948, 0, none⟩) (Kd.R_types HO960.out BK948.out (by decide)) (fun _ hk => hk.2) (.slice Ao27 t952.length co27)) (fun _ hk => hk.2) (.slice Ao26 t958.length co26)) (fun _ hk => hk.2) (.slice Ao25 t964.length co25)) (fun _ hk => by first | exact ⟨hk.1.1.1.1.2, hk.1.2⟩ | (simp only [ne_eq] at hk ⊢; simp only [hk, not_false_eq_true, and_self])), by (with_reducible repeat (first | apply Kd.R_alloc | apply Kd.R_drewN | apply Kd.R_drew)); exact Kd.R_mono (Kd.R_far (p := ⟨gb948, 2, none⟩) (Kd.R_far (p := ⟨gb948, 1, none⟩) (Kd.R_far (p := ⟨gb948, 0, none⟩) (Kd.R_types HO966.out BK948.out (by decide)) (fun _ hk => hk.2) (.slice Ao27 t952.length co27)) (fun _ hk => hk.2) (.slice Ao26 t958.length co26)) (fun _ hk => hk.2) (.slice Ao25 t964.length co25)) (fun _ hk => by first | exact ⟨hk.1.1.1.1.2, hk.1.1.2⟩ | (simp only [ne_eq] at hk ⊢; simp only [hk, not_false_eq_true, and_self])), by exact bs1 GE948.out HB.out⟩

end Go.Proofs.Ytghgpinhghhlgaa.A
