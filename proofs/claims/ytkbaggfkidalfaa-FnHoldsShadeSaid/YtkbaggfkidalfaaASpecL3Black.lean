/- Contracts of functions of the given program (ASpecL3Black). No conditions beyond those stated. -/
import Derived.Test.YtkbaggfkidalfaaA0
import Derived.Test.YtkbaggfkidalfaaASpecL3Shade
import Derived.Test.YtkbaggfkidalfaaA0
namespace Go.Proofs.Ytkbaggfkidalfaa.A
open Go.RowKit Go.Proofs.YtkbaggfkidalfaaW.PrintWords Go.Proofs.YtkbaggfkidalfaaW.PrintLast Go.Proofs.YtkbaggfkidalfaaW.PrintMore
attribute [local go_sem] max2_int min2_int max_two min_two max_three min_three max_four min_four   -- for this text's walks alone
set_option linter.unusedVariables false
set_option linter.unusedSimpArgs false

/-! ### spec_l3Black -/
def spec_l3Black.f (l0_0 : List Int) (l0_1 : List Int) (l0_2 : List Int) (l0_3 : List Int) (a1 : Int) : Option (List Int × List Int × List Int × List Int) := if 0 ≤ a1 then (if a1 < (l0_0.length : Int) then ((spec_l3Shade.f l0_3 (rd l0_0 a1)).bind fun t569 => (if a1 < (l0_1.length : Int) then ((spec_l3Shade.f t569 (rd l0_1 a1)).bind fun t573 => (if a1 < (t573.length : Int) then (some (l0_0, l0_1, l0_2, (t573.set (a1 : Int).toNat 2))) else (none))) else (none))) else (none)) else (none)
def spec_l3Black.T1 : Bool × List (List Nat × List Nat) := (true, [([], []), ([0], [0]), ([], []), ([2], [2]), ([3], [3]), ([], []), ([4, 5], [4, 5]), ([6], [6]), ([1, 7], [1, 7]), ([0, 1, 2, 3, 4, 5, 6, 7, 8], []), ([9, 8, 8, 0, 1, 2, 3, 4, 5, 6, 7, 8], [8, 9])])
def spec_l3Black.B1 : List Nat := [0, 1, 0, 4, 12, 0, 60, 124, 255, 511, 1023]
theorem spec_l3Black.tab1 : rtab .any (opsOf Try.f81 1) = spec_l3Black.T1 := by kernel_rfl
theorem spec_l3Black.bits1 : waitsOk spec_l3Black.T1.2 spec_l3Black.B1 = true := by kernel_rfl
def spec_l3Black.T2 : Bool × List (List Nat × List Nat) := (true, [([], []), ([0], [0]), ([], []), ([2], [2]), ([3], [3]), ([], []), ([4, 5], [4, 5]), ([6], [6]), ([1, 7], [1, 7]), ([0, 1, 2, 3, 4, 5, 6, 7, 8], []), ([9, 8, 8, 0, 1, 2, 3, 4, 5, 6, 7, 8], [8, 9])])
def spec_l3Black.B2 : List Nat := [0, 1, 0, 4, 12, 0, 60, 124, 255, 511, 1023]
theorem spec_l3Black.tab2 : rtab .any (opsOf Try.f81 2) = spec_l3Black.T2 := by kernel_rfl
theorem spec_l3Black.bits2 : waitsOk spec_l3Black.T2.2 spec_l3Black.B2 = true := by kernel_rfl
set_option maxHeartbeats 8000000 in
set_option maxRecDepth 100000 in
theorem spec_l3Black.calls (P0_0_ : Nat → Prop) (u9000_ : Value) (l0_0 : List Int) (P0_1_ : Nat → Prop) (u9001_ : Value) (l0_1 : List Int) (P0_2_ : Nat → Prop) (u9002_ : Value) (l0_2 : List Int) (P0_3_ : Nat → Prop) (u9003_ : Value) (l0_3 : List Int) (a1 : Int) (r1 : List Int) (r2 : List Int) (r3 : List Int) (r4 : List Int) (w0 w : World) (hB : Below w0.heap.size w0 w) (ho0_0 : Kd.R (Kd.int .i64) 3 w w0.heap.size P0_0_ u9000_ l0_0) (hp0_0_0_1 : ∀ k_, P0_0_ k_ → ¬ P0_1_ k_) (hp0_0_0_2 : ∀ k_, P0_0_ k_ → ¬ P0_2_ k_) (hp0_0_0_3 : ∀ k_, P0_0_ k_ → ¬ P0_3_ k_) (ho0_1 : Kd.R (Kd.int .i64) 3 w w0.heap.size P0_1_ u9001_ l0_1) (hp0_1_0_0 : ∀ k_, P0_1_ k_ → ¬ P0_0_ k_) (hp0_1_0_2 : ∀ k_, P0_1_ k_ → ¬ P0_2_ k_) (hp0_1_0_3 : ∀ k_, P0_1_ k_ → ¬ P0_3_ k_) (ho0_2 : Kd.R (Kd.int .i64) 3 w w0.heap.size P0_2_ u9002_ l0_2) (hp0_2_0_0 : ∀ k_, P0_2_ k_ → ¬ P0_0_ k_) (hp0_2_0_1 : ∀ k_, P0_2_ k_ → ¬ P0_1_ k_) (hp0_2_0_3 : ∀ k_, P0_2_ k_ → ¬ P0_3_ k_) (ho0_3 : Kd.R (Kd.int .i64) 3 w w0.heap.size P0_3_ u9003_ l0_3) (hp0_3_0_0 : ∀ k_, P0_3_ k_ → ¬ P0_0_ k_) (hp0_3_0_1 : ∀ k_, P0_3_ k_ → ¬ P0_1_ k_) (hp0_3_0_2 : ∀ k_, P0_3_ k_ → ¬ P0_2_ k_) (h : spec_l3Black.f l0_0 l0_1 l0_2 l0_3 a1 = some (r1, r2, r3, r4)) :
  Calls Try.prog 81 #[.agg #[u9000_, u9001_, u9002_, u9003_], .int .i64 a1] w fun e w' => ∃ v0_ v1_ v2_ v3_ : Value, e = .returned (.agg #[v0_, v1_, v2_, v3_]) ∧ Kd.R (Kd.int .i64) 3 w' w0.heap.size (fun k_ => ((P0_0_ k_ ∨ P0_1_ k_ ∨ P0_2_ k_ ∨ P0_3_ k_) ∨ w.heap.size ≤ k_) ∧ some k_ ≠ (v1_ : Value).ownBlock ∧ some k_ ≠ (v2_ : Value).ownBlock ∧ some k_ ≠ (v3_ : Value).ownBlock) v0_ r1 ∧ Kd.R (Kd.int .i64) 3 w' w0.heap.size (fun k_ => ((P0_0_ k_ ∨ P0_1_ k_ ∨ P0_2_ k_ ∨ P0_3_ k_) ∨ w.heap.size ≤ k_) ∧ some k_ ≠ (v0_ : Value).ownBlock ∧ some k_ ≠ (v2_ : Value).ownBlock ∧ some k_ ≠ (v3_ : Value).ownBlock) v1_ r2 ∧ Kd.R (Kd.int .i64) 3 w' w0.heap.size (fun k_ => ((P0_0_ k_ ∨ P0_1_ k_ ∨ P0_2_ k_ ∨ P0_3_ k_) ∨ w.heap.size ≤ k_) ∧ some k_ ≠ (v0_ : Value).ownBlock ∧ some k_ ≠ (v1_ : Value).ownBlock ∧ some k_ ≠ (v3_ : Value).ownBlock) v2_ r3 ∧ Kd.R (Kd.int .i64) 3 w' w0.heap.size (fun k_ => ((P0_0_ k_ ∨ P0_1_ k_ ∨ P0_2_ k_ ∨ P0_3_ k_) ∨ w.heap.size ≤ k_) ∧ some k_ ≠ (v0_ : Value).ownBlock ∧ some k_ ≠ (v1_ : Value).ownBlock ∧ some k_ ≠ (v2_ : Value).ownBlock) v3_ r4 ∧ Below w0.heap.size w0 w' ∧ Kept w w' (fun k_ => P0_0_ k_ ∨ P0_1_ k_ ∨ P0_2_ k_ ∨ P0_3_ k_) := by
 have hu30 := Try.underlying30
 have HO0_0 := am (show Kd.R (Kd.int .i64) 3 w w0.heap.size (fun k_ => ((P0_0_ k_ ∨ P0_1_ k_ ∨ P0_2_ k_ ∨ P0_3_ k_) ∨ w.heap.size ≤ k_) ∧ some k_ ≠ (u9001_ : Value).ownBlock ∧ some k_ ≠ (u9002_ : Value).ownBlock ∧ some k_ ≠ (u9003_ : Value).ownBlock) u9000_ l0_0 from Kd.R_mono ho0_0 (fun k_ hk => ⟨(.inl (.inl hk)), fun e_ => hp0_0_0_1 k_ hk (ho0_1.1 k_ e_.symm), fun e_ => hp0_0_0_2 k_ hk (ho0_2.1 k_ e_.symm), fun e_ => hp0_0_0_3 k_ hk (ho0_3.1 k_ e_.symm)⟩))
 have HO0_1 := am (show Kd.R (Kd.int .i64) 3 w w0.heap.size (fun k_ => ((P0_0_ k_ ∨ P0_1_ k_ ∨ P0_2_ k_ ∨ P0_3_ k_) ∨ w.heap.size ≤ k_) ∧ some k_ ≠ (u9000_ : Value).ownBlock ∧ some k_ ≠ (u9002_ : Value).ownBlock ∧ some k_ ≠ (u9003_ : Value).ownBlock) u9001_ l0_1 from Kd.R_mono ho0_1 (fun k_ hk => ⟨(.inl (.inr (.inl hk))), fun e_ => hp0_1_0_0 k_ hk (ho0_0.1 k_ e_.symm), fun e_ => hp0_1_0_2 k_ hk (ho0_2.1 k_ e_.symm), fun e_ => hp0_1_0_3 k_ hk (ho0_3.1 k_ e_.symm)⟩))
 have HO0_2 := am (show Kd.R (Kd.int .i64) 3 w w0.heap.size (fun k_ => ((P0_0_ k_ ∨ P0_1_ k_ ∨ P0_2_ k_ ∨ P0_3_ k_) ∨ w.heap.size ≤ k_) ∧ some k_ ≠ (u9000_ : Value).ownBlock ∧ some k_ ≠ (u9001_ : Value).ownBlock ∧ some k_ ≠ (u9003_ : Value).ownBlock) u9002_ l0_2 from Kd.R_mono ho0_2 (fun k_ hk => ⟨(.inl (.inr (.inr (.inl hk)))), fun e_ => hp0_2_0_0 k_ hk (ho0_0.1 k_ e_.symm), fun e_ => hp0_2_0_1 k_ hk (ho0_1.1 k_ e_.symm), fun e_ => hp0_2_0_3 k_ hk (ho0_3.1 k_ e_.symm)⟩))
 have HO0_3 := am (show Kd.R (Kd.int .i64) 3 w w0.heap.size (fun k_ => ((P0_0_ k_ ∨ P0_1_ k_ ∨ P0_2_ k_ ∨ P0_3_ k_) ∨ w.heap.size ≤ k_) ∧ some k_ ≠ (u9000_ : Value).ownBlock ∧ some k_ ≠ (u9001_ : Value).ownBlock ∧ some k_ ≠ (u9002_ : Value).ownBlock) u9003_ l0_3 from Kd.R_mono ho0_3 (fun k_ hk => ⟨(.inl (.inr (.inr (.inr hk)))), fun e_ => hp0_3_0_0 k_ hk (ho0_0.1 k_ e_.symm), fun e_ => hp0_3_0_1 k_ hk (ho0_1.1 k_ e_.symm), fun e_ => hp0_3_0_2 k_ hk (ho0_2.1 k_ e_.symm)⟩))
 have HK := am (Kept.refl w (fun k_ => P0_0_ k_ ∨ P0_1_ k_ ∨ P0_2_ k_ ∨ P0_3_ k_))
 have HW0 := am hB.size
 have HB := am hB
 clear hB
 have H : (if 0 ≤ a1 then (if a1 < (l0_0.length : Int) then ((spec_l3Shade.f l0_3 (rd l0_0 a1)).bind fun t569 => (if a1 < (l0_1.length : Int) then ((spec_l3Shade.f t569 (rd l0_1 a1)).bind fun t573 => (if a1 < (t573.length : Int) then (some (l0_0, l0_1, l0_2, (t573.set (a1 : Int).toNat 2))) else (none))) else (none))) else (none)) else (none)) = some (r1, r2, r3, r4) := h
 clear h
 by_cases c3 : 0 ≤ a1
 ·rw [if_pos c3] at H
  have c3b0 : decide (0 ≤ a1) = true := decide_eq_true c3
  clear c3
  by_cases c4 : a1 < (l0_0.length : Int)
  ·rw [if_pos c4] at H
   have c4b0 : decide (a1 < (l0_0.length : Int)) = true := decide_eq_true c4
   clear c4
   replace H := Option.bind_eq_some_iff.mp H
   obtain ⟨t569, A50, H⟩ := H
   replace H : (if a1 < (l0_1.length : Int) then ((spec_l3Shade.f t569 (rd l0_1 a1)).bind fun t573 => (if a1 < (t573.length : Int) then (some (l0_0, l0_1, l0_2, (t573.set (a1 : Int).toNat 2))) else (none))) else (none)) = some (r1, r2, r3, r4) := H
   have A5 := am A50
   clear A50
   by_cases c6 : a1 < (l0_1.length : Int)
   ·rw [if_pos c6] at H
    have c6b0 : decide (a1 < (l0_1.length : Int)) = true := decide_eq_true c6
    clear c6
    replace H := Option.bind_eq_some_iff.mp H
    obtain ⟨t573, A70, H⟩ := H
    replace H : (if a1 < (t573.length : Int) then (some (l0_0, l0_1, l0_2, (t573.set (a1 : Int).toNat 2))) else (none)) = some (r1, r2, r3, r4) := H
    have A7 := am A70
    clear A70
    by_cases c8 : a1 < (t573.length : Int)
    ·rw [if_pos c8] at H
     have c8b0 : decide (a1 < (t573.length : Int)) = true := decide_eq_true c8
     clear c8
     obtain ⟨y576, hy576⟩ : ∃ y_ : List Int, y_ = (t573.set (a1 : Int).toNat 2) := ⟨_, rfl⟩
     replace H : (some (l0_0, l0_1, l0_2, y576)) = some (r1, r2, r3, r4) := by first | (rw [hy576]; with_reducible exact H) | (have H2_ := (Option.bind_some _ _).symm.trans H; rw [hy576]; with_reducible exact H2_) | (have H2_ := (Option.bind_some _ _).symm.trans H; with_reducible exact H2_) | with_reducible exact H | (rw [hy576]; exact H) | exact H
     have Ny576 := am hy576
     clear hy576
     simp only [Option.some.injEq, Prod.mk.injEq] at H
     obtain ⟨rfl, rfl, rfl, rfl⟩ := H
     obtain ⟨Ao10, co10, eo10⟩ := Kd.R_slice HO0_0.out
     subst eo10
     obtain ⟨Ao11, co11, eo11⟩ := Kd.R_slice HO0_1.out
     subst eo11
     obtain ⟨Ao12, co12, eo12⟩ := Kd.R_slice HO0_2.out
     subst eo12
     obtain ⟨Ao13, co13, eo13⟩ := Kd.R_slice HO0_3.out
     subst eo13
     go_enter Try.func81, Try.ntmps81
     try go_wp2_with (first | ((with_reducible refine gate_dst (N := 2) rfl ?_); refine box_event ?hg (N := 2) ?hd (cs := #[.slice Ao10 l0_0.length co10, .slice Ao11 l0_1.length co11, .slice Ao12 l0_2.length co12, .slice Ao13 l0_3.length co13]) (t := 30) ?hr ?_; (case hd => rfl); (case hg => rfl); (case hr => first | (go_simp; done) | (go_simp; rfl)); intro gb566 hg w14 hbox hb; replace HO0_0 := rb HO0_0 hb; replace HO0_1 := rb HO0_1 hb; replace HO0_2 := rb HO0_2 hb; replace HO0_3 := rb HO0_3 hb; have BK566 := am (hbox); have GW566 := am ((by rw [hg]; exact (by first | exact HK.out.1 | exact (show Kept w _ (fun k_ => P0_0_ k_ ∨ P0_1_ k_ ∨ P0_2_ k_ ∨ P0_3_ k_) from by repeat (first | (with_reducible first | exact HK.out | apply Kept.alloc | apply Kept.drewN | apply Kept.drew) | exact HK.out)).1) : w.heap.size ≤ gb566)); replace HK := am (Kept.below (S := (fun k_ => P0_0_ k_ ∨ P0_1_ k_ ∨ P0_2_ k_ ∨ P0_3_ k_)) (by repeat (first | (with_reducible first | exact HK.out | apply Kept.alloc | apply Kept.drewN | apply Kept.drew) | exact HK.out)) hb); have GE566 := am ((by rw [hg]; exact (below_size (bl HB.out)) : w0.heap.size ≤ gb566)); replace HB := am (below_step (bl HB.out) hb); clear hb hbox hg) | ((with_reducible refine gate_dst (N := 4) rfl ?_); refine box_event ?hg (N := 4) ?hd (cs := #[.slice none 0 0, .slice none 0 0, .slice none 0 0, .slice none 0 0]) (t := 30) ?hr ?_; (case hd => rfl); (case hg => rfl); (case hr => first | (go_simp; done) | (go_simp; rfl)); intro gb567 hg w15 hbox hb; replace HO0_0 := rb HO0_0 hb; replace HO0_1 := rb HO0_1 hb; replace HO0_2 := rb HO0_2 hb; replace HO0_3 := rb HO0_3 hb; have BK567 := am (hbox); have GW567 := am ((by rw [hg]; exact (by first | exact HK.out.1 | exact (show Kept w _ (fun k_ => P0_0_ k_ ∨ P0_1_ k_ ∨ P0_2_ k_ ∨ P0_3_ k_) from by repeat (first | (with_reducible first | exact HK.out | apply Kept.alloc | apply Kept.drewN | apply Kept.drew | refine Kept.setCell ?_ (.inr GW566.out) _) | exact HK.out)).1) : w.heap.size ≤ gb567)); replace HK := am (Kept.below (S := (fun k_ => P0_0_ k_ ∨ P0_1_ k_ ∨ P0_2_ k_ ∨ P0_3_ k_)) (by repeat (first | (with_reducible first | exact HK.out | apply Kept.alloc | apply Kept.drewN | apply Kept.drew | refine Kept.setCell ?_ (.inr GW566.out) _) | exact HK.out)) hb); have GE567 := am ((by rw [hg]; exact (below_size (bs1 GE566.out HB.out)) : w0.heap.size ≤ gb567)); replace HB := am (below_step (bs1 GE566.out HB.out) hb); have NB566_567 := nb BK566 hg; have NB567_566 := nc BK566 hg; replace BK566 := bb BK566 hb; clear hb hbox hg))
     replace HO0_0 := am (Kd.R_drew HO0_0.out)
     replace HO0_1 := am (Kd.R_drew HO0_1.out)
     replace HO0_2 := am (Kd.R_drew HO0_2.out)
     replace HO0_3 := am (Kd.R_drew HO0_3.out)
     replace BK566 := am (blk_drew BK566.out)
     replace BK567 := am (blk_drew BK567.out)
     replace HK := am (Kept.drew HK.out)
     replace HB := am (below_drew1 HB.out)
     have p568 : 0 ≤ (a1 : Int) := of_decide_eq_true (by first | (with_reducible assumption) | assumption)
     have q568 : a1 < (l0_0.length : Int) := of_decide_eq_true (by first | (with_reducible assumption) | assumption)
     obtain ⟨ad568, e568, hx568_0⟩ := Kd.at_int (Kd.R_reads' HO0_0.out).2.2 a1 p568 q568
     cases e568
     replace p568 := eq_true p568
     replace q568 := eq_true q568
     refine start_ (n := 11) (S := fun w' => w'.cell? ⟨gb566, 0, none⟩ = some (.slice (some ad568) l0_0.length co10) ∧ w'.cell? ⟨gb566, 1, none⟩ = some (.slice Ao11 l0_1.length co11) ∧ w'.cell? ⟨gb566, 2, none⟩ = some (.slice Ao12 l0_2.length co12) ∧ w'.cell? ⟨gb566, 3, none⟩ = some (.slice Ao13 l0_3.length co13) ∧ w'.cell? (ad568.add (a1).toNat) = some (.int .i64 (rd l0_0 a1))) (ds := [10]) #[false, false, false, false, false, false, false, false, false, false, false] (by kernel_rfl) rfl rfl ⟨(blk_cell BK566.out 0).trans rfl, (blk_cell BK566.out 1).trans rfl, (blk_cell BK566.out 2).trans rfl, (blk_cell BK566.out 3).trans rfl, hx568_0⟩ (fun hHeld => ?_); refine with_tabW spec_l3Black.tab1 spec_l3Black.bits1 (fun HT_ HW_ => ?_)
     generalize w15.drew = w16 at HO0_0 HO0_1 HO0_2 HO0_3 BK566 BK567 HK HB hx568_0 hHeld ⊢
     refine pure_ (i := 0) (N := some 5) (v := ?_) (a' := ?_) #[true, false, false, false, false, false, false, false, false, false, false] rfl rfl (any_of HT_.out (by kernel_rfl)) (fun _ _ _ h => h) (Or.inl ⟨by rfl, ?_⟩) ?_ ?_
     rotate_left
     ·intro w'
      go_simp
      with_reducible rfl
     rotate_left
     ·simp only [Act.put, List.setIfInBounds_toArray, List.set_cons_zero, List.set_cons_succ, i64_w, i32_w]
      rfl
     refine pure_ (i := 2) (N := some 7) (v := ?_) (a' := ?_) #[true, false, true, false, false, false, false, false, false, false, false] rfl rfl (any_of HT_.out (by kernel_rfl)) (fun _ _ _ h => h) (Or.inl ⟨by rfl, ?_⟩) ?_ ?_
     rotate_left
     ·intro w'
      go_simp
      with_reducible rfl
     rotate_left
     ·simp only [Act.put, List.setIfInBounds_toArray, List.set_cons_zero, List.set_cons_succ, i64_w, i32_w]
      rfl
     refine pure_ (i := 3) (N := some 8) (v := ?_) (a' := ?_) #[true, false, true, true, false, false, false, false, false, false, false] rfl rfl (any_of HT_.out (by kernel_rfl)) (fun _ _ _ h => h) (Or.inl ⟨by rfl, ?_⟩) ?_ ?_
     rotate_left
     ·intro w'
      go_simp
      with_reducible rfl
     rotate_left
     ·simp only [Act.put, List.setIfInBounds_toArray, List.set_cons_zero, List.set_cons_succ, i64_w, i32_w]
      rfl
     refine pure_ (i := 5) (N := some 10) (v := ?_) (a' := ?_) #[true, false, true, true, false, true, false, false, false, false, false] rfl rfl (any_of HT_.out (by kernel_rfl)) (fun _ _ _ h => h) (Or.inl ⟨by rfl, ?_⟩) ?_ ?_
     rotate_left
     ·intro w'
      go_simp
      with_reducible rfl
     rotate_left
     ·simp only [Act.put, List.setIfInBounds_toArray, List.set_cons_zero, List.set_cons_succ, i64_w, i32_w]
      rfl
     refine take_ (i := 1) (N := some 6) (v := ?_) (a' := ?_) #[true, true, true, true, false, true, false, false, false, false, false] rfl rfl (take_ofW HT_.out HW_.out (by kernel_rfl)) (fun _ _ _ h => h) (Or.inl ⟨by rfl, ?_⟩) hHeld ?_ ?_
     rotate_left
     ·rintro w' ⟨s0, s1, s2, s3, s4⟩
      go_simp
      with_reducible rfl
     rotate_left
     ·simp only [Act.put, List.setIfInBounds_toArray, List.set_cons_zero, List.set_cons_succ, i64_w, i32_w]
      rfl
     refine take_ (i := 4) (N := some 9) (v := ?_) (a' := ?_) #[true, true, true, true, true, true, false, false, false, false, false] rfl rfl (take_ofW HT_.out HW_.out (by kernel_rfl)) (fun _ _ _ h => h) (Or.inl ⟨by rfl, ?_⟩) hHeld ?_ ?_
     rotate_left
     ·rintro w' ⟨s0, s1, s2, s3, s4⟩
      go_simp
      with_reducible rfl
     rotate_left
     ·simp only [Act.put, List.setIfInBounds_toArray, List.set_cons_zero, List.set_cons_succ, i64_w, i32_w]
      rfl
     refine pure_ (i := 6) (N := some 11) (v := ?_) (a' := ?_) #[true, true, true, true, true, true, true, false, false, false, false] rfl rfl (any_of HT_.out (by kernel_rfl)) (fun _ _ _ h => h) (Or.inl ⟨by rfl, ?_⟩) ?_ ?_
     rotate_left
     ·intro w'
      go_simp
      with_reducible rfl
     rotate_left
     ·simp only [Act.put, List.setIfInBounds_toArray, List.set_cons_zero, List.set_cons_succ, i64_w, i32_w]
      rfl
     refine take_ (i := 7) (N := some 12) (v := ?_) (a' := ?_) #[true, true, true, true, true, true, true, true, false, false, false] rfl rfl (take_ofW HT_.out HW_.out (by kernel_rfl)) (fun _ _ _ h => h) (Or.inl ⟨by rfl, ?_⟩) hHeld ?_ ?_
     rotate_left
     ·rintro w' ⟨s0, s1, s2, s3, s4⟩
      go_simp
      with_reducible rfl
     rotate_left
     ·simp only [Act.put, List.setIfInBounds_toArray, List.set_cons_zero, List.set_cons_succ, i64_w, i32_w]
      rfl
     refine one_ (i := 8) (N := some 13) #[true, true, true, true, true, true, true, true, true, false, false] rfl rfl (one_of HT_.out (by kernel_rfl)) (by decide) (fun K hK => ?_)
     refine goes_ Try.func56 (by kernel_rfl) rfl #[.slice Ao13 l0_3.length co13, .int .i64 (rd l0_0 a1)] (by rfl) rfl rfl (by (try simp only [List.map_toArray, List.map_cons, List.map_nil]); first | done | rfl | (simp only [List.length_drop, List.length_take]; rfl)) ?_
     with_reducible refine (spec_l3Shade.calls (fun k_ => some k_ = (.slice Ao13 l0_3.length co13 : Value).ownBlock) (.slice Ao13 l0_3.length co13) l0_3 (rd l0_0 a1) t569 w0 _ ?side1 ?side2 A5.out).mono ?_
     (case side1 => exact bs2 GE566.out GE567.out HB.out)
     (case side2 => exact Kd.R_tight rfl HO0_3.out)
     rintro e w17 ⟨v570, rfl, ho0, hb, hkp⟩
     have HS4_ := cell_kept (hHeld.2.2.2.2) hkp (by first | (rw [add_block]; exact (fun hs_ => (((HO0_0.out).1 _ rfl).2.2.2) hs_)) | (show ¬ _; simp only [add_block]; exact (fun hs_ => (((HO0_0.out).1 _ rfl).2.2.2) hs_)) | exact (fun hs_ => (((HO0_0.out).1 _ rfl).2.2.2) hs_))
     refine ⟨_, rfl, ?_⟩
     replace BK566 := am (blk_kept (kl BK566.out) hkp (fun hs_ => (fun e_ => (Kd.R_ne HO0_3.out BK566.out (by decide)) e_) hs_))
     replace BK567 := am (blk_kept (kl BK567.out) hkp (fun hs_ => (fun e_ => (Kd.R_ne HO0_3.out BK567.out (by decide)) e_) hs_))
     have HO571 := am (Kd.R_mono (ok' := fun k_ => ((P0_0_ k_ ∨ P0_1_ k_ ∨ P0_2_ k_ ∨ P0_3_ k_) ∨ w.heap.size ≤ k_) ∧ some k_ ≠ (.slice (some ad568) l0_0.length co10 : Value).ownBlock ∧ some k_ ≠ (.slice Ao11 l0_1.length co11 : Value).ownBlock ∧ some k_ ≠ (.slice Ao12 l0_2.length co12 : Value).ownBlock) ho0 (fun k_ hk_ => ⟨Or.elim hk_ (fun hs_ => (HO0_3.out.1 k_ (hs_).symm).1) (fun hn_ => (.inr (Nat.le_trans (by first | exact HK.out.1 | exact (show Kept w _ (fun k_ => P0_0_ k_ ∨ P0_1_ k_ ∨ P0_2_ k_ ∨ P0_3_ k_) from by repeat (first | (with_reducible first | exact HK.out | apply Kept.alloc | apply Kept.drewN | apply Kept.drew | refine Kept.setCell ?_ (.inr GW566.out) _ | refine Kept.setCell ?_ (.inr GW567.out) _) | exact HK.out)).1) hn_))), Or.elim hk_ (fun hs_ => fun e_ => (((HO0_0.out).1 k_ e_.symm).2.2.2) hs_) (fun hn_ => (Kd.fresh' (Kd.R_lt (rl HO0_0.out)) k_ hn_)), Or.elim hk_ (fun hs_ => fun e_ => (((HO0_1.out).1 k_ e_.symm).2.2.2) hs_) (fun hn_ => (Kd.fresh' (Kd.R_lt (rl HO0_1.out)) k_ hn_)), Or.elim hk_ (fun hs_ => fun e_ => (((HO0_2.out).1 k_ e_.symm).2.2.2) hs_) (fun hn_ => (Kd.fresh' (Kd.R_lt (rl HO0_2.out)) k_ hn_))⟩))
     replace HO0_0 := am (Kd.R_mono (ok' := fun k_ => ((P0_0_ k_ ∨ P0_1_ k_ ∨ P0_2_ k_ ∨ P0_3_ k_) ∨ w.heap.size ≤ k_) ∧ some k_ ≠ (.slice Ao11 l0_1.length co11 : Value).ownBlock ∧ some k_ ≠ (.slice Ao12 l0_2.length co12 : Value).ownBlock ∧ some k_ ≠ (v570 : Value).ownBlock) (Kd.R_keptB (HO0_0.out) hkp (fun k_ hk_ hs_ => (hk_.2.2.2) hs_)) (fun k_ hk_ => ⟨hk_.1.1, hk_.1.2.1, hk_.1.2.2.1, fun e_ => Or.elim (ho0.1 k_ e_.symm) (fun hs_ => hk_.2.1 hs_) (fun hn_ => Nat.not_le.2 hk_.2.2 hn_)⟩))
     replace HO0_1 := am (Kd.R_mono (ok' := fun k_ => ((P0_0_ k_ ∨ P0_1_ k_ ∨ P0_2_ k_ ∨ P0_3_ k_) ∨ w.heap.size ≤ k_) ∧ some k_ ≠ (.slice (some ad568) l0_0.length co10 : Value).ownBlock ∧ some k_ ≠ (.slice Ao12 l0_2.length co12 : Value).ownBlock ∧ some k_ ≠ (v570 : Value).ownBlock) (Kd.R_keptB (HO0_1.out) hkp (fun k_ hk_ hs_ => (hk_.2.2.2) hs_)) (fun k_ hk_ => ⟨hk_.1.1, hk_.1.2.1, hk_.1.2.2.1, fun e_ => Or.elim (ho0.1 k_ e_.symm) (fun hs_ => hk_.2.1 hs_) (fun hn_ => Nat.not_le.2 hk_.2.2 hn_)⟩))
     replace HO0_2 := am (Kd.R_mono (ok' := fun k_ => ((P0_0_ k_ ∨ P0_1_ k_ ∨ P0_2_ k_ ∨ P0_3_ k_) ∨ w.heap.size ≤ k_) ∧ some k_ ≠ (.slice (some ad568) l0_0.length co10 : Value).ownBlock ∧ some k_ ≠ (.slice Ao11 l0_1.length co11 : Value).ownBlock ∧ some k_ ≠ (v570 : Value).ownBlock) (Kd.R_keptB (HO0_2.out) hkp (fun k_ hk_ hs_ => (hk_.2.2.2) hs_)) (fun k_ hk_ => ⟨hk_.1.1, hk_.1.2.1, hk_.1.2.2.1, fun e_ => Or.elim (ho0.1 k_ e_.symm) (fun hs_ => hk_.2.1 hs_) (fun hn_ => Nat.not_le.2 hk_.2.2 hn_)⟩))
     replace HK := am (Kept.then_ (S := (fun k_ => P0_0_ k_ ∨ P0_1_ k_ ∨ P0_2_ k_ ∨ P0_3_ k_)) (by repeat (first | (with_reducible first | exact HK.out | apply Kept.alloc | apply Kept.drewN | apply Kept.drew | refine Kept.setCell ?_ (.inr GW566.out) _ | refine Kept.setCell ?_ (.inr GW567.out) _) | exact HK.out)) hkp (fun k_ hs_ => (fun e_ => (HO0_3.out.1 k_ e_.symm).1) hs_))
     replace HB := am (hb)
     clear HO0_3
     (try clear hb hkp ho0)
     obtain ⟨Ao18, co18, eo18⟩ := Kd.R_slice HO571.out
     (first | subst eo18 | (injection eo18 with f1_ f2_ f3_; have f4_ := f1_.symm; have f5_ := f3_.symm; clear f1_ f2_ f3_; subst f4_; subst f5_))
     refine hK.out _ _ ⟨(blk_cell BK566.out 0).trans rfl, (blk_cell BK566.out 1).trans rfl, (blk_cell BK566.out 2).trans rfl, (blk_cell BK566.out 3).trans rfl, HS4_⟩ (fun hHeld => ?_)
     clear hK K
     refine norm_ (a' := ?_) ?_ ?_
     rotate_left
     ·show Act.put _ (some 13) _ = _
      simp only [Act.put, List.setIfInBounds_toArray, List.set_cons_zero, List.set_cons_succ, i64_w, i32_w]
      rfl
     refine pure_ (i := 9) (N := some 14) (v := ?_) (a' := ?_) #[true, true, true, true, true, true, true, true, true, true, false] rfl rfl (any_of HT_.out (by kernel_rfl)) (fun _ _ _ h => h) (Or.inl ⟨by rfl, ?_⟩) ?_ ?_
     rotate_left
     ·intro w'
      go_simp
      with_reducible rfl
     rotate_left
     ·simp only [Act.put, List.setIfInBounds_toArray, List.set_cons_zero, List.set_cons_succ, i64_w, i32_w]
      rfl
     refine last_ (i := 10) (N := none) #[true, true, true, true, true, true, true, true, true, true, true] rfl rfl (one_of HT_.out (by kernel_rfl)) (by decide) (fun K hK => ?_)
     have hs19 : w17.cell? ⟨gb566, 3, none⟩ = some (.slice Ao13 l0_3.length co13) := (blk_cell BK566.out 3).trans rfl
     have hfs19 := blk_frozen BK566.out 3
     have hns19_1 := NB567_566.out
     have hms19_1 := NB566_567.out
     refine skip_ (w1 := ?_) (by rfl) rfl ?_ ?_
     rotate_left
     ·go_simp
      rfl
     refine hK.out _ _ ?_
     clear hK K
     refine done_ (done_of HT_.out (by kernel_rfl)) ?_
     try go_wp2
     have n0_ : Aside0 (Kd.R (Kd.int .i64) 3 (w17.setCell ⟨gb566, 3, none⟩ (.slice Ao18 t569.length co18)) w0.heap.size (fun k_ => ((P0_0_ k_ ∨ P0_1_ k_ ∨ P0_2_ k_ ∨ P0_3_ k_) ∨ w.heap.size ≤ k_) ∧ some k_ ≠ (.slice Ao11 l0_1.length co11 : Value).ownBlock ∧ some k_ ≠ (.slice Ao12 l0_2.length co12 : Value).ownBlock ∧ some k_ ≠ (.slice Ao18 t569.length co18 : Value).ownBlock) (.slice (some ad568) l0_0.length co10) l0_0) := ⟨rl (Kd.R_mono (Kd.R_far (p := ⟨gb566, 3, none⟩) (Kd.R_types HO0_0.out BK566.out (by decide)) (fun _ hk => hk.2) (.slice Ao18 t569.length co18)) (fun _ hk => by first | exact ⟨hk.1.1, ⟨hk.1.2.1, ⟨hk.1.2.2.1, hk.1.2.2.2⟩⟩⟩ | (simp only [ne_eq] at hk ⊢; simp only [hk, not_false_eq_true, and_self])))⟩
     have n1_ : Aside0 (Kd.R (Kd.int .i64) 3 (w17.setCell ⟨gb566, 3, none⟩ (.slice Ao18 t569.length co18)) w0.heap.size (fun k_ => ((P0_0_ k_ ∨ P0_1_ k_ ∨ P0_2_ k_ ∨ P0_3_ k_) ∨ w.heap.size ≤ k_) ∧ some k_ ≠ (.slice (some ad568) l0_0.length co10 : Value).ownBlock ∧ some k_ ≠ (.slice Ao12 l0_2.length co12 : Value).ownBlock ∧ some k_ ≠ (.slice Ao18 t569.length co18 : Value).ownBlock) (.slice Ao11 l0_1.length co11) l0_1) := ⟨rl (Kd.R_mono (Kd.R_far (p := ⟨gb566, 3, none⟩) (Kd.R_types HO0_1.out BK566.out (by decide)) (fun _ hk => hk.2) (.slice Ao18 t569.length co18)) (fun _ hk => by first | exact ⟨hk.1.1, ⟨hk.1.2.1, ⟨hk.1.2.2.1, hk.1.2.2.2⟩⟩⟩ | (simp only [ne_eq] at hk ⊢; simp only [hk, not_false_eq_true, and_self])))⟩
     have n2_ : Aside0 (Kd.R (Kd.int .i64) 3 (w17.setCell ⟨gb566, 3, none⟩ (.slice Ao18 t569.length co18)) w0.heap.size (fun k_ => ((P0_0_ k_ ∨ P0_1_ k_ ∨ P0_2_ k_ ∨ P0_3_ k_) ∨ w.heap.size ≤ k_) ∧ some k_ ≠ (.slice (some ad568) l0_0.length co10 : Value).ownBlock ∧ some k_ ≠ (.slice Ao11 l0_1.length co11 : Value).ownBlock ∧ some k_ ≠ (.slice Ao18 t569.length co18 : Value).ownBlock) (.slice Ao12 l0_2.length co12) l0_2) := ⟨rl (Kd.R_mono (Kd.R_far (p := ⟨gb566, 3, none⟩) (Kd.R_types HO0_2.out BK566.out (by decide)) (fun _ hk => hk.2) (.slice Ao18 t569.length co18)) (fun _ hk => by first | exact ⟨hk.1.1, ⟨hk.1.2.1, ⟨hk.1.2.2.1, hk.1.2.2.2⟩⟩⟩ | (simp only [ne_eq] at hk ⊢; simp only [hk, not_false_eq_true, and_self])))⟩
     have n3_ : Aside0 (Kd.R (Kd.int .i64) 3 (w17.setCell ⟨gb566, 3, none⟩ (.slice Ao18 t569.length co18)) w0.heap.size (fun k_ => ((P0_0_ k_ ∨ P0_1_ k_ ∨ P0_2_ k_ ∨ P0_3_ k_) ∨ w.heap.size ≤ k_) ∧ some k_ ≠ (.slice (some ad568) l0_0.length co10 : Value).ownBlock ∧ some k_ ≠ (.slice Ao11 l0_1.length co11 : Value).ownBlock ∧ some k_ ≠ (.slice Ao12 l0_2.length co12 : Value).ownBlock) (.slice Ao18 t569.length co18) t569) := ⟨rl (Kd.R_mono (Kd.R_far (p := ⟨gb566, 3, none⟩) (Kd.R_types HO571.out BK566.out (by decide)) (fun _ hk => hk.2) (.slice Ao18 t569.length co18)) (fun _ hk => by first | exact ⟨hk.1.1, ⟨hk.1.2.1, ⟨hk.1.2.2.1, hk.1.2.2.2⟩⟩⟩ | (simp only [ne_eq] at hk ⊢; simp only [hk, not_false_eq_true, and_self])))⟩
     have n4_ : Aside0 ((w17.setCell ⟨gb566, 3, none⟩ (.slice Ao18 t569.length co18)).heap[gb566]? = some (.cells #[.slice (some ad568) l0_0.length co10, .slice Ao11 l0_1.length co11, .slice Ao12 l0_2.length co12, .slice Ao18 t569.length co18] 30 (0, 0))) := ⟨by (with_reducible repeat (first | refine blk_drewN ?_ _ | refine blk_drew ?_ | refine blk_alloc ?_ _)); refine blk_put (cs := #[.slice (some ad568) l0_0.length co10, .slice Ao11 l0_1.length co11, .slice Ao12 l0_2.length co12, .slice Ao13 l0_3.length co13]) ?_ 3 _ rfl; (with_reducible repeat (first | refine blk_drewN ?_ _ | refine blk_drew ?_ | refine blk_alloc ?_ _)); exact BK566.out⟩
     have n5_ : Aside0 ((w17.setCell ⟨gb566, 3, none⟩ (.slice Ao18 t569.length co18)).heap[gb567]? = some (.cells #[.slice none 0 0, .slice none 0 0, .slice none 0 0, .slice none 0 0] 30 (0, 0))) := ⟨kf1 NB567_566.out BK567.out⟩
     have n6_ : Aside0 (Kept w (w17.setCell ⟨gb566, 3, none⟩ (.slice Ao18 t569.length co18)) (fun k_ => P0_0_ k_ ∨ P0_1_ k_ ∨ P0_2_ k_ ∨ P0_3_ k_)) := ⟨by repeat (first | (with_reducible first | exact HK.out | apply Kept.alloc | apply Kept.drewN | apply Kept.drew | refine Kept.setCell ?_ (.inr GW566.out) _ | refine Kept.setCell ?_ (.inr GW567.out) _) | exact HK.out)⟩
     have n7_ : Aside0 (Below w0.heap.size w0 (w17.setCell ⟨gb566, 3, none⟩ (.slice Ao18 t569.length co18))) := ⟨by exact bs2 GE566.out GE567.out HB.out⟩
     (try clear HO0_0)
     (try clear HO0_1)
     (try clear HO0_2)
     (try clear HO571)
     (try clear BK566)
     (try clear BK567)
     (try clear HK)
     (try clear HB)
     generalize (w17.setCell ⟨gb566, 3, none⟩ (.slice Ao18 t569.length co18)) = w20 at n0_ n1_ n2_ n3_ n4_ n5_ n6_ n7_ ⊢
     have HO0_0 := n0_
     have HO0_1 := n1_
     have HO0_2 := n2_
     have HO571 := n3_
     have BK566 := n4_
     have BK567 := n5_
     have HK := n6_
     have HB := n7_
     clear n0_ n1_ n2_ n3_ n4_ n5_ n6_ n7_
     replace HO0_0 := am (Kd.R_drew HO0_0.out)
     replace HO0_1 := am (Kd.R_drew HO0_1.out)
     replace HO0_2 := am (Kd.R_drew HO0_2.out)
     replace HO571 := am (Kd.R_drew HO571.out)
     replace BK566 := am (blk_drew BK566.out)
     replace BK567 := am (blk_drew BK567.out)
     replace HK := am (Kept.drew HK.out)
     replace HB := am (below_drew1 HB.out)
     have p572 : 0 ≤ (a1 : Int) := of_decide_eq_true (by first | (with_reducible assumption) | assumption)
     have q572 : a1 < (l0_1.length : Int) := of_decide_eq_true (by first | (with_reducible assumption) | assumption)
     obtain ⟨ad572, e572, hx572_0⟩ := Kd.at_int (Kd.R_reads' HO0_1.out).2.2 a1 p572 q572
     cases e572
     replace p572 := eq_true p572
     replace q572 := eq_true q572
     refine start_ (n := 11) (S := fun w' => w'.cell? ⟨gb566, 0, none⟩ = some (.slice (some ad568) l0_0.length co10) ∧ w'.cell? ⟨gb566, 1, none⟩ = some (.slice (some ad572) l0_1.length co11) ∧ w'.cell? ⟨gb566, 2, none⟩ = some (.slice Ao12 l0_2.length co12) ∧ w'.cell? ⟨gb566, 3, none⟩ = some (.slice Ao18 t569.length co18) ∧ w'.cell? (ad572.add (a1).toNat) = some (.int .i64 (rd l0_1 a1))) (ds := [10]) #[false, false, false, false, false, false, false, false, false, false, false] (by kernel_rfl) rfl rfl ⟨(blk_cell BK566.out 0).trans rfl, (blk_cell BK566.out 1).trans rfl, (blk_cell BK566.out 2).trans rfl, (blk_cell BK566.out 3).trans rfl, hx572_0⟩ (fun hHeld => ?_); refine with_tabW spec_l3Black.tab2 spec_l3Black.bits2 (fun HT_ HW_ => ?_)
     generalize w20.drew = w21 at HO0_0 HO0_1 HO0_2 HO571 BK566 BK567 HK HB hx572_0 hHeld ⊢
     refine pure_ (i := 0) (N := some 15) (v := ?_) (a' := ?_) #[true, false, false, false, false, false, false, false, false, false, false] rfl rfl (any_of HT_.out (by kernel_rfl)) (fun _ _ _ h => h) (Or.inl ⟨by rfl, ?_⟩) ?_ ?_
     rotate_left
     ·intro w'
      go_simp
      with_reducible rfl
     rotate_left
     ·simp only [Act.put, List.setIfInBounds_toArray, List.set_cons_zero, List.set_cons_succ, i64_w, i32_w]
      rfl
     refine pure_ (i := 2) (N := some 17) (v := ?_) (a' := ?_) #[true, false, true, false, false, false, false, false, false, false, false] rfl rfl (any_of HT_.out (by kernel_rfl)) (fun _ _ _ h => h) (Or.inl ⟨by rfl, ?_⟩) ?_ ?_
     rotate_left
     ·intro w'
      go_simp
      with_reducible rfl
     rotate_left
     ·simp only [Act.put, List.setIfInBounds_toArray, List.set_cons_zero, List.set_cons_succ, i64_w, i32_w]
      rfl
     refine pure_ (i := 3) (N := some 18) (v := ?_) (a' := ?_) #[true, false, true, true, false, false, false, false, false, false, false] rfl rfl (any_of HT_.out (by kernel_rfl)) (fun _ _ _ h => h) (Or.inl ⟨by rfl, ?_⟩) ?_ ?_
     rotate_left
     ·intro w'
      go_simp
      with_reducible rfl
     rotate_left
     ·simp only [Act.put, List.setIfInBounds_toArray, List.set_cons_zero, List.set_cons_succ, i64_w, i32_w]
      rfl
     refine pure_ (i := 5) (N := some 20) (v := ?_) (a' := ?_) #[true, false, true, true, false, true, false, false, false, false, false] rfl rfl (any_of HT_.out (by kernel_rfl)) (fun _ _ _ h => h) (Or.inl ⟨by rfl, ?_⟩) ?_ ?_
     rotate_left
     ·intro w'
      go_simp
      with_reducible rfl
     rotate_left
     ·simp only [Act.put, List.setIfInBounds_toArray, List.set_cons_zero, List.set_cons_succ, i64_w, i32_w]
      rfl
     refine take_ (i := 1) (N := some 16) (v := ?_) (a' := ?_) #[true, true, true, true, false, true, false, false, false, false, false] rfl rfl (take_ofW HT_.out HW_.out (by kernel_rfl)) (fun _ _ _ h => h) (Or.inl ⟨by rfl, ?_⟩) hHeld ?_ ?_
     rotate_left
     ·rintro w' ⟨s0, s1, s2, s3, s4⟩
      go_simp
      with_reducible rfl
     rotate_left
     ·simp only [Act.put, List.setIfInBounds_toArray, List.set_cons_zero, List.set_cons_succ, i64_w, i32_w]
      rfl
     refine take_ (i := 4) (N := some 19) (v := ?_) (a' := ?_) #[true, true, true, true, true, true, false, false, false, false, false] rfl rfl (take_ofW HT_.out HW_.out (by kernel_rfl)) (fun _ _ _ h => h) (Or.inl ⟨by rfl, ?_⟩) hHeld ?_ ?_
     rotate_left
     ·rintro w' ⟨s0, s1, s2, s3, s4⟩
      go_simp
      with_reducible rfl
     rotate_left
     ·simp only [Act.put, List.setIfInBounds_toArray, List.set_cons_zero, List.set_cons_succ, i64_w, i32_w]
      rfl
     refine pure_ (i := 6) (N := some 21) (v := ?_) (a' := ?_) #[true, true, true, true, true, true, true, false, false, false, false] rfl rfl (any_of HT_.out (by kernel_rfl)) (fun _ _ _ h => h) (Or.inl ⟨by rfl, ?_⟩) ?_ ?_
     rotate_left
     ·intro w'
      go_simp
      with_reducible rfl
     rotate_left
     ·simp only [Act.put, List.setIfInBounds_toArray, List.set_cons_zero, List.set_cons_succ, i64_w, i32_w]
      rfl
     refine take_ (i := 7) (N := some 22) (v := ?_) (a' := ?_) #[true, true, true, true, true, true, true, true, false, false, false] rfl rfl (take_ofW HT_.out HW_.out (by kernel_rfl)) (fun _ _ _ h => h) (Or.inl ⟨by rfl, ?_⟩) hHeld ?_ ?_
     rotate_left
     ·rintro w' ⟨s0, s1, s2, s3, s4⟩
      go_simp
      with_reducible rfl
     rotate_left
     ·simp only [Act.put, List.setIfInBounds_toArray, List.set_cons_zero, List.set_cons_succ, i64_w, i32_w]
      rfl
     refine one_ (i := 8) (N := some 23) #[true, true, true, true, true, true, true, true, true, false, false] rfl rfl (one_of HT_.out (by kernel_rfl)) (by decide) (fun K hK => ?_)
     refine goes_ Try.func56 (by kernel_rfl) rfl #[.slice Ao18 t569.length co18, .int .i64 (rd l0_1 a1)] (by rfl) rfl rfl (by (try simp only [List.map_toArray, List.map_cons, List.map_nil]); first | done | rfl | (simp only [List.length_drop, List.length_take]; rfl)) ?_
     with_reducible refine (spec_l3Shade.calls (fun k_ => some k_ = (.slice Ao18 t569.length co18 : Value).ownBlock) (.slice Ao18 t569.length co18) t569 (rd l0_1 a1) t573 w0 _ ?side1 ?side2 A7.out).mono ?_
     (case side1 => exact bs2 GE566.out GE567.out HB.out)
     (case side2 => exact Kd.R_tight rfl HO571.out)
     rintro e w22 ⟨v574, rfl, ho0, hb, hkp⟩
     have HS4_ := cell_kept (hHeld.2.2.2.2) hkp (by first | (rw [add_block]; exact (fun hs_ => (((HO0_1.out).1 _ rfl).2.2.2) hs_)) | (show ¬ _; simp only [add_block]; exact (fun hs_ => (((HO0_1.out).1 _ rfl).2.2.2) hs_)) | exact (fun hs_ => (((HO0_1.out).1 _ rfl).2.2.2) hs_))
     refine ⟨_, rfl, ?_⟩
     replace BK566 := am (blk_kept (kl BK566.out) hkp (fun hs_ => (fun e_ => (Kd.R_ne HO571.out BK566.out (by decide)) e_) hs_))
     replace BK567 := am (blk_kept (kl BK567.out) hkp (fun hs_ => (fun e_ => (Kd.R_ne HO571.out BK567.out (by decide)) e_) hs_))
     have HO575 := am (Kd.R_mono (ok' := fun k_ => ((P0_0_ k_ ∨ P0_1_ k_ ∨ P0_2_ k_ ∨ P0_3_ k_) ∨ w.heap.size ≤ k_) ∧ some k_ ≠ (.slice (some ad568) l0_0.length co10 : Value).ownBlock ∧ some k_ ≠ (.slice (some ad572) l0_1.length co11 : Value).ownBlock ∧ some k_ ≠ (.slice Ao12 l0_2.length co12 : Value).ownBlock) ho0 (fun k_ hk_ => ⟨Or.elim hk_ (fun hs_ => (HO571.out.1 k_ (hs_).symm).1) (fun hn_ => (.inr (Nat.le_trans (by first | exact HK.out.1 | exact (show Kept w _ (fun k_ => P0_0_ k_ ∨ P0_1_ k_ ∨ P0_2_ k_ ∨ P0_3_ k_) from by repeat (first | (with_reducible first | exact HK.out | apply Kept.alloc | apply Kept.drewN | apply Kept.drew | refine Kept.setCell ?_ (.inr GW566.out) _ | refine Kept.setCell ?_ (.inr GW567.out) _) | exact HK.out)).1) hn_))), Or.elim hk_ (fun hs_ => fun e_ => (((HO0_0.out).1 k_ e_.symm).2.2.2) hs_) (fun hn_ => (Kd.fresh' (Kd.R_lt (rl HO0_0.out)) k_ hn_)), Or.elim hk_ (fun hs_ => fun e_ => (((HO0_1.out).1 k_ e_.symm).2.2.2) hs_) (fun hn_ => (Kd.fresh' (Kd.R_lt (rl HO0_1.out)) k_ hn_)), Or.elim hk_ (fun hs_ => fun e_ => (((HO0_2.out).1 k_ e_.symm).2.2.2) hs_) (fun hn_ => (Kd.fresh' (Kd.R_lt (rl HO0_2.out)) k_ hn_))⟩))
     replace HO0_0 := am (Kd.R_mono (ok' := fun k_ => ((P0_0_ k_ ∨ P0_1_ k_ ∨ P0_2_ k_ ∨ P0_3_ k_) ∨ w.heap.size ≤ k_) ∧ some k_ ≠ (.slice (some ad572) l0_1.length co11 : Value).ownBlock ∧ some k_ ≠ (.slice Ao12 l0_2.length co12 : Value).ownBlock ∧ some k_ ≠ (v574 : Value).ownBlock) (Kd.R_keptB (HO0_0.out) hkp (fun k_ hk_ hs_ => (hk_.2.2.2) hs_)) (fun k_ hk_ => ⟨hk_.1.1, hk_.1.2.1, hk_.1.2.2.1, fun e_ => Or.elim (ho0.1 k_ e_.symm) (fun hs_ => hk_.2.1 hs_) (fun hn_ => Nat.not_le.2 hk_.2.2 hn_)⟩))
     replace HO0_1 := am (Kd.R_mono (ok' := fun k_ => ((P0_0_ k_ ∨ P0_1_ k_ ∨ P0_2_ k_ ∨ P0_3_ k_) ∨ w.heap.size ≤ k_) ∧ some k_ ≠ (.slice (some ad568) l0_0.length co10 : Value).ownBlock ∧ some k_ ≠ (.slice Ao12 l0_2.length co12 : Value).ownBlock ∧ some k_ ≠ (v574 : Value).ownBlock) (Kd.R_keptB (HO0_1.out) hkp (fun k_ hk_ hs_ => (hk_.2.2.2) hs_)) (fun k_ hk_ => ⟨hk_.1.1, hk_.1.2.1, hk_.1.2.2.1, fun e_ => Or.elim (ho0.1 k_ e_.symm) (fun hs_ => hk_.2.1 hs_) (fun hn_ => Nat.not_le.2 hk_.2.2 hn_)⟩))
     replace HO0_2 := am (Kd.R_mono (ok' := fun k_ => ((P0_0_ k_ ∨ P0_1_ k_ ∨ P0_2_ k_ ∨ P0_3_ k_) ∨ w.heap.size ≤ k_) ∧ some k_ ≠ (.slice (some ad568) l0_0.length co10 : Value).ownBlock ∧ some k_ ≠ (.slice (some ad572) l0_1.length co11 : Value).ownBlock ∧ some k_ ≠ (v574 : Value).ownBlock) (Kd.R_keptB (HO0_2.out) hkp (fun k_ hk_ hs_ => (hk_.2.2.2) hs_)) (fun k_ hk_ => ⟨hk_.1.1, hk_.1.2.1, hk_.1.2.2.1, fun e_ => Or.elim (ho0.1 k_ e_.symm) (fun hs_ => hk_.2.1 hs_) (fun hn_ => Nat.not_le.2 hk_.2.2 hn_)⟩))
     replace HK := am (Kept.then_ (S := (fun k_ => P0_0_ k_ ∨ P0_1_ k_ ∨ P0_2_ k_ ∨ P0_3_ k_)) (by repeat (first | (with_reducible first | exact HK.out | apply Kept.alloc | apply Kept.drewN | apply Kept.drew | refine Kept.setCell ?_ (.inr GW566.out) _ | refine Kept.setCell ?_ (.inr GW567.out) _) | exact HK.out)) hkp (fun k_ hs_ => (fun e_ => (HO571.out.1 k_ e_.symm).1) hs_))
     replace HB := am (hb)
     clear HO571
     (try clear hb hkp ho0)
     obtain ⟨Ao23, co23, eo23⟩ := Kd.R_slice HO575.out
     (first | subst eo23 | (injection eo23 with f1_ f2_ f3_; have f4_ := f1_.symm; have f5_ := f3_.symm; clear f1_ f2_ f3_; subst f4_; subst f5_))
     refine hK.out _ _ ⟨(blk_cell BK566.out 0).trans rfl, (blk_cell BK566.out 1).trans rfl, (blk_cell BK566.out 2).trans rfl, (blk_cell BK566.out 3).trans rfl, HS4_⟩ (fun hHeld => ?_)
     clear hK K
     refine norm_ (a' := ?_) ?_ ?_
     rotate_left
     ·show Act.put _ (some 23) _ = _
      simp only [Act.put, List.setIfInBounds_toArray, List.set_cons_zero, List.set_cons_succ, i64_w, i32_w]
      rfl
     refine pure_ (i := 9) (N := some 24) (v := ?_) (a' := ?_) #[true, true, true, true, true, true, true, true, true, true, false] rfl rfl (any_of HT_.out (by kernel_rfl)) (fun _ _ _ h => h) (Or.inl ⟨by rfl, ?_⟩) ?_ ?_
     rotate_left
     ·intro w'
      go_simp
      with_reducible rfl
     rotate_left
     ·simp only [Act.put, List.setIfInBounds_toArray, List.set_cons_zero, List.set_cons_succ, i64_w, i32_w]
      rfl
     refine last_ (i := 10) (N := none) #[true, true, true, true, true, true, true, true, true, true, true] rfl rfl (one_of HT_.out (by kernel_rfl)) (by decide) (fun K hK => ?_)
     have hs24 : w22.cell? ⟨gb566, 3, none⟩ = some (.slice Ao18 t569.length co18) := (blk_cell BK566.out 3).trans rfl
     have hfs24 := blk_frozen BK566.out 3
     have hns24_1 := NB567_566.out
     have hms24_1 := NB566_567.out
     refine skip_ (w1 := ?_) (by rfl) rfl ?_ ?_
     rotate_left
     ·go_simp
      rfl
     refine hK.out _ _ ?_
     clear hK K
     refine done_ (done_of HT_.out (by kernel_rfl)) ?_
     have n0_ : Aside0 (Kd.R (Kd.int .i64) 3 (w22.setCell ⟨gb566, 3, none⟩ (.slice Ao23 t573.length co23)) w0.heap.size (fun k_ => ((P0_0_ k_ ∨ P0_1_ k_ ∨ P0_2_ k_ ∨ P0_3_ k_) ∨ w.heap.size ≤ k_) ∧ some k_ ≠ (.slice (some ad572) l0_1.length co11 : Value).ownBlock ∧ some k_ ≠ (.slice Ao12 l0_2.length co12 : Value).ownBlock ∧ some k_ ≠ (.slice Ao23 t573.length co23 : Value).ownBlock) (.slice (some ad568) l0_0.length co10) l0_0) := ⟨rl (Kd.R_mono (Kd.R_far (p := ⟨gb566, 3, none⟩) (Kd.R_types HO0_0.out BK566.out (by decide)) (fun _ hk => hk.2) (.slice Ao23 t573.length co23)) (fun _ hk => by first | exact ⟨hk.1.1, ⟨hk.1.2.1, ⟨hk.1.2.2.1, hk.1.2.2.2⟩⟩⟩ | (simp only [ne_eq] at hk ⊢; simp only [hk, not_false_eq_true, and_self])))⟩
     have n1_ : Aside0 (Kd.R (Kd.int .i64) 3 (w22.setCell ⟨gb566, 3, none⟩ (.slice Ao23 t573.length co23)) w0.heap.size (fun k_ => ((P0_0_ k_ ∨ P0_1_ k_ ∨ P0_2_ k_ ∨ P0_3_ k_) ∨ w.heap.size ≤ k_) ∧ some k_ ≠ (.slice (some ad568) l0_0.length co10 : Value).ownBlock ∧ some k_ ≠ (.slice Ao12 l0_2.length co12 : Value).ownBlock ∧ some k_ ≠ (.slice Ao23 t573.length co23 : Value).ownBlock) (.slice (some ad572) l0_1.length co11) l0_1) := ⟨rl (Kd.R_mono (Kd.R_far (p := ⟨gb566, 3, none⟩) (Kd.R_types HO0_1.out BK566.out (by decide)) (fun _ hk => hk.2) (.slice Ao23 t573.length co23)) (fun _ hk => by first | exact ⟨hk.1.1, ⟨hk.1.2.1, ⟨hk.1.2.2.1, hk.1.2.2.2⟩⟩⟩ | (simp only [ne_eq] at hk ⊢; simp only [hk, not_false_eq_true, and_self])))⟩
     have n2_ : Aside0 (Kd.R (Kd.int .i64) 3 (w22.setCell ⟨gb566, 3, none⟩ (.slice Ao23 t573.length co23)) w0.heap.size (fun k_ => ((P0_0_ k_ ∨ P0_1_ k_ ∨ P0_2_ k_ ∨ P0_3_ k_) ∨ w.heap.size ≤ k_) ∧ some k_ ≠ (.slice (some ad568) l0_0.length co10 : Value).ownBlock ∧ some k_ ≠ (.slice (some ad572) l0_1.length co11 : Value).ownBlock ∧ some k_ ≠ (.slice Ao23 t573.length co23 : Value).ownBlock) (.slice Ao12 l0_2.length co12) l0_2) := ⟨rl (Kd.R_mono (Kd.R_far (p := ⟨gb566, 3, none⟩) (Kd.R_types HO0_2.out BK566.out (by decide)) (fun _ hk => hk.2) (.slice Ao23 t573.length co23)) (fun _ hk => by first | exact ⟨hk.1.1, ⟨hk.1.2.1, ⟨hk.1.2.2.1, hk.1.2.2.2⟩⟩⟩ | (simp only [ne_eq] at hk ⊢; simp only [hk, not_false_eq_true, and_self])))⟩
     have n3_ : Aside0 (Kd.R (Kd.int .i64) 3 (w22.setCell ⟨gb566, 3, none⟩ (.slice Ao23 t573.length co23)) w0.heap.size (fun k_ => ((P0_0_ k_ ∨ P0_1_ k_ ∨ P0_2_ k_ ∨ P0_3_ k_) ∨ w.heap.size ≤ k_) ∧ some k_ ≠ (.slice (some ad568) l0_0.length co10 : Value).ownBlock ∧ some k_ ≠ (.slice (some ad572) l0_1.length co11 : Value).ownBlock ∧ some k_ ≠ (.slice Ao12 l0_2.length co12 : Value).ownBlock) (.slice Ao23 t573.length co23) t573) := ⟨rl (Kd.R_mono (Kd.R_far (p := ⟨gb566, 3, none⟩) (Kd.R_types HO575.out BK566.out (by decide)) (fun _ hk => hk.2) (.slice Ao23 t573.length co23)) (fun _ hk => by first | exact ⟨hk.1.1, ⟨hk.1.2.1, ⟨hk.1.2.2.1, hk.1.2.2.2⟩⟩⟩ | (simp only [ne_eq] at hk ⊢; simp only [hk, not_false_eq_true, and_self])))⟩
     have n4_ : Aside0 ((w22.setCell ⟨gb566, 3, none⟩ (.slice Ao23 t573.length co23)).heap[gb566]? = some (.cells #[.slice (some ad568) l0_0.length co10, .slice (some ad572) l0_1.length co11, .slice Ao12 l0_2.length co12, .slice Ao23 t573.length co23] 30 (0, 0))) := ⟨by (with_reducible repeat (first | refine blk_drewN ?_ _ | refine blk_drew ?_ | refine blk_alloc ?_ _)); refine blk_put (cs := #[.slice (some ad568) l0_0.length co10, .slice (some ad572) l0_1.length co11, .slice Ao12 l0_2.length co12, .slice Ao18 t569.length co18]) ?_ 3 _ rfl; (with_reducible repeat (first | refine blk_drewN ?_ _ | refine blk_drew ?_ | refine blk_alloc ?_ _)); exact BK566.out⟩
     have n5_ : Aside0 ((w22.setCell ⟨gb566, 3, none⟩ (.slice Ao23 t573.length co23)).heap[gb567]? = some (.cells #[.slice none 0 0, .slice none 0 0, .slice none 0 0, .slice none 0 0] 30 (0, 0))) := ⟨kf1 NB567_566.out BK567.out⟩
     have n6_ : Aside0 (Kept w (w22.setCell ⟨gb566, 3, none⟩ (.slice Ao23 t573.length co23)) (fun k_ => P0_0_ k_ ∨ P0_1_ k_ ∨ P0_2_ k_ ∨ P0_3_ k_)) := ⟨by repeat (first | (with_reducible first | exact HK.out | apply Kept.alloc | apply Kept.drewN | apply Kept.drew | refine Kept.setCell ?_ (.inr GW566.out) _ | refine Kept.setCell ?_ (.inr GW567.out) _) | exact HK.out)⟩
     have n7_ : Aside0 (Below w0.heap.size w0 (w22.setCell ⟨gb566, 3, none⟩ (.slice Ao23 t573.length co23))) := ⟨by exact bs2 GE566.out GE567.out HB.out⟩
     (try clear HO0_0)
     (try clear HO0_1)
     (try clear HO0_2)
     (try clear HO575)
     (try clear BK566)
     (try clear BK567)
     (try clear HK)
     (try clear HB)
     generalize (w22.setCell ⟨gb566, 3, none⟩ (.slice Ao23 t573.length co23)) = w25 at n0_ n1_ n2_ n3_ n4_ n5_ n6_ n7_ ⊢
     have HO0_0 := n0_
     have HO0_1 := n1_
     have HO0_2 := n2_
     have HO575 := n3_
     have BK566 := n4_
     have BK567 := n5_
     have HK := n6_
     have HB := n7_
     clear n0_ n1_ n2_ n3_ n4_ n5_ n6_ n7_
     have hnb26 := NB566_567.out
     have hnc26 := NB567_566.out
     obtain ⟨hcz27_0, hcz27_1, hcz27_2, hcz27_3, hfz27_0, hfz27_1, hfz27_2, hfz27_3⟩ := cf4 BK566
     have p9 : 0 ≤ (a1 : Int) := of_decide_eq_true (by first | (with_reducible assumption) | assumption)
     have q9 : (a1 : Int) < ((t573.length : Int) : Int) := of_decide_eq_true (by first | (with_reducible assumption) | assumption)
     obtain ⟨go9, co9, eo9, gb9, gl9, cl9, HG9⟩ := Kd.R_form HO575.out (by first | omega | (have hz_ := (Kd.R_reads' HO575.out).1; omega))
     (first | cases eo9 | (injection eo9 with ea_ en_ ec_; (first | subst ea_ | (injection ea_ with ea_; subst ea_)); subst ec_; clear en_))
     have GB9 := am gb9
     have GG9 := am HG9
     clear gb9 gl9 HG9
     have HMgo9 := am (show ((P0_0_ go9 ∨ P0_1_ go9 ∨ P0_2_ go9 ∨ P0_3_ go9) ∨ w.heap.size ≤ go9) from (HO575.out.1 _ rfl).1)
     obtain ⟨hx9_0, hf9_0⟩ := Kd.R_celln 0 HO575.out (a1 : Int) p9 q9
     replace p9 := eq_true p9
     replace q9 := eq_true q9
     obtain ⟨hy28_, hz28_⟩ := Kd.R_celln 0 HO575.out (a1 : Int) (of_decide_eq_true (by first | (with_reducible assumption) | assumption)) (of_decide_eq_true (by first | (with_reducible assumption) | assumption))
     have HP28 := Kd.R_putg HO575.out (a1 : Int) 2
     try go_wp2_with (first | ((with_reducible refine gate_store (t := 3) (p := 28) rfl ?_); refine store_event (t := 3) (p := 28) (v := ?vo_w29) (w1 := (w25.setCell ⟨go9, (a1 : Int).toNat, none⟩ (.int .i64 2))) ?hg ?ho ?hn ?hr ?_; (case ho => rfl); (case hg => rfl); (case hn => rfl); (case hr => first | (go_simp; done) | (go_simp; rfl)); intro w29 hw; have hg : w25.grownBy w29 (some go9) := (by rw [hw]; exact HP28.2); have hp_ : Kd.R (Kd.int .i64) 3 w29 w0.heap.size (fun k_ => ((P0_0_ k_ ∨ P0_1_ k_ ∨ P0_2_ k_ ∨ P0_3_ k_) ∨ w.heap.size ≤ k_) ∧ some k_ ≠ (.slice (some ad568) l0_0.length co10 : Value).ownBlock ∧ some k_ ≠ (.slice (some ad572) l0_1.length co11 : Value).ownBlock ∧ some k_ ≠ (.slice Ao12 l0_2.length co12 : Value).ownBlock) (.slice (some ⟨go9, 0, none⟩) t573.length co23) y576 := (by rw [hw, Ny576.out]; exact HP28.1); clear HP28; replace HO0_0 := am (Kd.R_after (v := (.slice (some ⟨go9, 0, none⟩) t573.length co23)) (v1 := (.slice (some ⟨go9, 0, none⟩) t573.length co23)) (ok := (fun k_ => ((P0_0_ k_ ∨ P0_1_ k_ ∨ P0_2_ k_ ∨ P0_3_ k_) ∨ w.heap.size ≤ k_) ∧ some k_ ≠ (.slice (some ad572) l0_1.length co11 : Value).ownBlock ∧ some k_ ≠ (.slice Ao12 l0_2.length co12 : Value).ownBlock)) (rl (Kd.R_mono HO0_0.out (fun _ hk => by first | exact ⟨⟨hk.1, ⟨hk.2.1, hk.2.2.1⟩⟩, hk.2.2.2⟩ | (simp only [ne_eq] at hk ⊢; simp only [hk, not_false_eq_true, and_self])))) hg (.inl rfl)); replace HO0_1 := am (Kd.R_after (v := (.slice (some ⟨go9, 0, none⟩) t573.length co23)) (v1 := (.slice (some ⟨go9, 0, none⟩) t573.length co23)) (ok := (fun k_ => ((P0_0_ k_ ∨ P0_1_ k_ ∨ P0_2_ k_ ∨ P0_3_ k_) ∨ w.heap.size ≤ k_) ∧ some k_ ≠ (.slice (some ad568) l0_0.length co10 : Value).ownBlock ∧ some k_ ≠ (.slice Ao12 l0_2.length co12 : Value).ownBlock)) (rl (Kd.R_mono HO0_1.out (fun _ hk => by first | exact ⟨⟨hk.1, ⟨hk.2.1, hk.2.2.1⟩⟩, hk.2.2.2⟩ | (simp only [ne_eq] at hk ⊢; simp only [hk, not_false_eq_true, and_self])))) hg (.inl rfl)); replace HO0_2 := am (Kd.R_after (v := (.slice (some ⟨go9, 0, none⟩) t573.length co23)) (v1 := (.slice (some ⟨go9, 0, none⟩) t573.length co23)) (ok := (fun k_ => ((P0_0_ k_ ∨ P0_1_ k_ ∨ P0_2_ k_ ∨ P0_3_ k_) ∨ w.heap.size ≤ k_) ∧ some k_ ≠ (.slice (some ad568) l0_0.length co10 : Value).ownBlock ∧ some k_ ≠ (.slice (some ad572) l0_1.length co11 : Value).ownBlock)) (rl (Kd.R_mono HO0_2.out (fun _ hk => by first | exact ⟨⟨hk.1, ⟨hk.2.1, hk.2.2.1⟩⟩, hk.2.2.2⟩ | (simp only [ne_eq] at hk ⊢; simp only [hk, not_false_eq_true, and_self])))) hg (.inl rfl)); replace BK566 := am (blk_grown (g := gb566) (o := .cells #[.slice (some ad568) l0_0.length co10, .slice (some ad572) l0_1.length co11, .slice Ao12 l0_2.length co12, .slice (some ⟨go9, 0, none⟩) t573.length co23] 30 (0, 0)) (kl BK566.out) hg (Kd.R_ne HO575.out BK566.out (by decide))); replace BK567 := am (blk_grown (g := gb567) (o := .cells #[.slice none 0 0, .slice none 0 0, .slice none 0 0, .slice none 0 0] 30 (0, 0)) (kl BK567.out) hg (Kd.R_ne HO575.out BK567.out (by decide))); replace HB := am ((by rw [hw]; exact below_set (HB.out) GB9.out : Below w0.heap.size w0 w29)); replace HK := am (Kept.of_grown (S := (fun k_ => P0_0_ k_ ∨ P0_1_ k_ ∨ P0_2_ k_ ∨ P0_3_ k_)) hg (by repeat (first | (with_reducible first | exact HK.out | apply Kept.alloc | apply Kept.drewN | apply Kept.drew | refine Kept.setCell ?_ (.inr GW566.out) _ | refine Kept.setCell ?_ (.inr GW567.out) _) | exact HK.out)) (fun k_ e_ => (HO575.out.1 k_ e_).1)); replace HO575 := am (hp_); clear hg hw hp_; obtain ⟨hcz30_0, hcz30_1, hcz30_2, hcz30_3, hfz30_0, hfz30_1, hfz30_2, hfz30_3⟩ := cf4 BK566; obtain ⟨hcz31_0, hcz31_1, hcz31_2, hcz31_3, hfz31_0, hfz31_1, hfz31_2, hfz31_3⟩ := cf4 BK567))
     refine bodyPost_ret (results_cell_row rfl _ _ gb567 30 #[.slice (some ad568) l0_0.length co10, .slice (some ad572) l0_1.length co11, .slice Ao12 l0_2.length co12, .slice (some ⟨go9, 0, none⟩) t573.length co23] (0, 0) _ rfl (kp4 (kf0 BK567.out)) Try.underlying30 rfl (by kernel_rfl)) rfl ?_
     exact ⟨_, _, _, _, by first | rfl | (simp [errW_none, errW_some] <;> rfl) | (simp [*, errW_none, errW_some] <;> rfl), by exact ro (rg BK567 HO0_0), by exact ro (rg BK567 HO0_1), by exact ro (rg BK567 HO0_2), by exact ro (rg BK567 HO575), by exact bs2 GE566.out GE567.out HB.out, by repeat (first | (with_reducible first | exact HK.out | apply Kept.alloc | apply Kept.drewN | apply Kept.drew | refine Kept.setCell ?_ (.inr GW566.out) _ | refine Kept.setCell ?_ (.inr GW567.out) _) | exact HK.out)⟩
    ·rw [if_neg c8] at H
     exact absurd H (by simp)
   ·rw [if_neg c6] at H
    exact absurd H (by simp)
  ·rw [if_neg c4] at H
   exact absurd H (by simp)
 ·rw [if_neg c3] at H
  exact absurd H (by simp)

end Go.Proofs.Ytkbaggfkidalfaa.A
