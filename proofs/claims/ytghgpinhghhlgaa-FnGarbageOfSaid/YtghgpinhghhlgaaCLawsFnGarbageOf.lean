/- Contracts of functions of the given program (CLawsFnGarbageOf). No conditions beyond those stated. -/
import Derived.Test.YtghgpinhghhlgaaA0
import Derived.Test.YtghgpinhghhlgaaAImplCountLive
import Derived.Test.YtghgpinhghhlgaaAImplGarbageOf
import Derived.Test.YtghgpinhghhlgaaAImplHeapValid
import Derived.Test.YtghgpinhghhlgaaAImplReachable
import Derived.Test.YtghgpinhghhlgaaALawsCcInts
import Derived.Test.YtghgpinhghhlgaaASpecDrawGarbageOf
import Derived.Test.YtghgpinhghhlgaaASpecGarbageOf
import Derived.Test.YtghgpinhghhlgaaA0
namespace Go.Proofs.Ytghgpinhghhlgaa.A
open Go.RowKit Go.Proofs.YtghgpinhghhlgaaW.PrintWords Go.Proofs.YtghgpinhghhlgaaW.PrintLast Go.Proofs.YtghgpinhghhlgaaW.PrintMore
attribute [local go_sem] max2_int min2_int max_two min_two max_three min_three max_four min_four   -- for this text's walks alone
set_option linter.unusedVariables false
set_option linter.unusedSimpArgs false

/-! ### laws_FnGarbageOf -/
mutual
def laws_FnGarbageOf.j0 : Nat → List Int → Bool → List Int → List Int → List Int → Option (Bool)
 | 0, _, _, _, _, _ => none
 | k + 1, x4, x23, x574000, x574001, x574002 => if x23 = true then ((spec_GarbageOf.f k x574000 x574001 x574002).bind fun t582 => ((laws_ccInts.f k x4 t582).bind fun t585 => (if t585 = true then (some ((x4.length : Int) == 0)) else (none)))) else ((impl_Reachable.f k x574000 x574001 x574002).bind fun t586 => (laws_FnGarbageOf.l0 k x4 t586 0 x574000 x574001 x574002))
def laws_FnGarbageOf.l0 : Nat → List Int → List Bool → Int → List Int → List Int → List Int → Option (Bool)
 | 0, _, _, _, _, _, _ => none
 | k + 1, x4, x5, x6, x574000, x574001, x574002 => if x6 < (x4.length : Int) then (if 0 ≤ x6 then (if 0 ≤ (rd x4 x6) then (if (rd x4 x6) < (x5.length : Int) then (if rdOf false x5 (rd x4 x6) = true then (none) else (if x6 > 0 then (if 0 ≤ (wrap64 (x6 - 1)) then (if (wrap64 (x6 - 1)) < (x4.length : Int) then (if (rd x4 x6) ≤ (rd x4 (wrap64 (x6 - 1))) then (none) else (laws_FnGarbageOf.l0 k x4 x5 (wrap64 (x6 + 1)) x574000 x574001 x574002)) else (none)) else (none)) else (laws_FnGarbageOf.l0 k x4 x5 (wrap64 (x6 + 1)) x574000 x574001 x574002))) else (none)) else (none)) else (none)) else ((impl_CountLive.f k x574000 x574001 x574002).bind fun t593 => (some ((wrap64 ((x4.length : Int) + t593)) == (x574000.length : Int))))
end
def laws_FnGarbageOf.f (k : Nat) (l0 : List Int) : Option (Bool) := if (l0.length : Int) > 1048576 then (some true) else ((spec_DrawGarbageOf.f k l0).bind fun bt564 => ((impl_GarbageOf.f k bt564.1 bt564.2.1 bt564.2.2).bind fun t574 => ((spec_GarbageOf.f k bt564.1 bt564.2.1 bt564.2.2).bind fun t577 => ((laws_ccInts.f k t574 t577).bind fun t580 => (if t580 = true then ((impl_HeapValid.f k bt564.1 bt564.2.1 bt564.2.2).bind fun t581 => (laws_FnGarbageOf.j0 k t574 (!t581) bt564.1 bt564.2.1 bt564.2.2)) else (laws_FnGarbageOf.j0 k t574 true bt564.1 bt564.2.1 bt564.2.2))))))
theorem laws_FnGarbageOf.mono_l : ∀ k, (∀ y0 y1 y2 y3 y4, LeO (laws_FnGarbageOf.j0 k y0 y1 y2 y3 y4) (laws_FnGarbageOf.j0 (k + 1) y0 y1 y2 y3 y4)) ∧ (∀ y0 y1 y2 y3 y4 y5, LeO (laws_FnGarbageOf.l0 k y0 y1 y2 y3 y4 y5) (laws_FnGarbageOf.l0 (k + 1) y0 y1 y2 y3 y4 y5))
 | 0 => ⟨fun _ _ _ _ _ r h => by simp [laws_FnGarbageOf.j0] at h, fun _ _ _ _ _ _ r h => by simp [laws_FnGarbageOf.l0] at h⟩
 | k + 1 => by
  obtain ⟨ih0, ih1⟩ := laws_FnGarbageOf.mono_l k
  refine ⟨?_, ?_⟩
  ·intro y0 y1 y2 y3 y4
   unfold laws_FnGarbageOf.j0
   repeat' first
   | (with_reducible exact ih0 _ _ _ _ _)
   | (with_reducible exact ih1 _ _ _ _ _ _)
   | (with_reducible exact impl_CountLive.mono _ _ _ _)
   | (with_reducible exact impl_GarbageOf.mono _ _ _ _)
   | (with_reducible exact impl_HeapValid.mono _ _ _ _)
   | (with_reducible exact impl_Reachable.mono _ _ _ _)
   | (with_reducible exact laws_ccInts.mono _ _ _)
   | (with_reducible exact spec_DrawGarbageOf.mono _ _)
   | (with_reducible exact spec_GarbageOf.mono _ _ _ _)
   | (with_reducible exact LeO.refl _)
   | (with_reducible exact LeO.none _)
   | (with_reducible refine LeO.ite ?_ ?_)
   | (with_reducible refine LeO.bind ?_ (fun _ => ?_))
   | exact ih0 _ _ _ _ _
   | exact ih1 _ _ _ _ _ _
   | exact impl_CountLive.mono _ _ _ _
   | exact impl_GarbageOf.mono _ _ _ _
   | exact impl_HeapValid.mono _ _ _ _
   | exact impl_Reachable.mono _ _ _ _
   | exact laws_ccInts.mono _ _ _
   | exact spec_DrawGarbageOf.mono _ _
   | exact spec_GarbageOf.mono _ _ _ _
   | exact LeO.none _
   | refine LeO.ite ?_ ?_
   | refine LeO.bind ?_ (fun _ => ?_)
  ·intro y0 y1 y2 y3 y4 y5
   unfold laws_FnGarbageOf.l0
   repeat' first
   | (with_reducible exact ih0 _ _ _ _ _)
   | (with_reducible exact ih1 _ _ _ _ _ _)
   | (with_reducible exact impl_CountLive.mono _ _ _ _)
   | (with_reducible exact impl_GarbageOf.mono _ _ _ _)
   | (with_reducible exact impl_HeapValid.mono _ _ _ _)
   | (with_reducible exact impl_Reachable.mono _ _ _ _)
   | (with_reducible exact laws_ccInts.mono _ _ _)
   | (with_reducible exact spec_DrawGarbageOf.mono _ _)
   | (with_reducible exact spec_GarbageOf.mono _ _ _ _)
   | (with_reducible exact LeO.refl _)
   | (with_reducible exact LeO.none _)
   | (with_reducible refine LeO.ite ?_ ?_)
   | (with_reducible refine LeO.bind ?_ (fun _ => ?_))
   | exact ih0 _ _ _ _ _
   | exact ih1 _ _ _ _ _ _
   | exact impl_CountLive.mono _ _ _ _
   | exact impl_GarbageOf.mono _ _ _ _
   | exact impl_HeapValid.mono _ _ _ _
   | exact impl_Reachable.mono _ _ _ _
   | exact laws_ccInts.mono _ _ _
   | exact spec_DrawGarbageOf.mono _ _
   | exact spec_GarbageOf.mono _ _ _ _
   | exact LeO.none _
   | refine LeO.ite ?_ ?_
   | refine LeO.bind ?_ (fun _ => ?_)
theorem laws_FnGarbageOf.mono : ∀ a0 k, LeO (laws_FnGarbageOf.f k a0) (laws_FnGarbageOf.f (k + 1) a0) := by
 intro a0 k
 obtain ⟨ih0, ih1⟩ := laws_FnGarbageOf.mono_l k
 unfold laws_FnGarbageOf.f
 repeat' first
   | (with_reducible exact ih0 _ _ _ _ _)
   | (with_reducible exact ih1 _ _ _ _ _ _)
   | (with_reducible exact impl_CountLive.mono _ _ _ _)
   | (with_reducible exact impl_GarbageOf.mono _ _ _ _)
   | (with_reducible exact impl_HeapValid.mono _ _ _ _)
   | (with_reducible exact impl_Reachable.mono _ _ _ _)
   | (with_reducible exact laws_ccInts.mono _ _ _)
   | (with_reducible exact spec_DrawGarbageOf.mono _ _)
   | (with_reducible exact spec_GarbageOf.mono _ _ _ _)
   | (with_reducible exact LeO.refl _)
   | (with_reducible exact LeO.none _)
   | (with_reducible refine LeO.ite ?_ ?_)
   | (with_reducible refine LeO.bind ?_ (fun _ => ?_))
   | exact ih0 _ _ _ _ _
   | exact ih1 _ _ _ _ _ _
   | exact impl_CountLive.mono _ _ _ _
   | exact impl_GarbageOf.mono _ _ _ _
   | exact impl_HeapValid.mono _ _ _ _
   | exact impl_Reachable.mono _ _ _ _
   | exact laws_ccInts.mono _ _ _
   | exact spec_DrawGarbageOf.mono _ _
   | exact spec_GarbageOf.mono _ _ _ _
   | exact LeO.none _
   | refine LeO.ite ?_ ?_
   | refine LeO.bind ?_ (fun _ => ?_)
def laws_FnGarbageOf.T11 : Bool × List (List Nat × List Nat) := (true, [([], []), ([], []), ([], []), ([1, 2], [1, 2]), ([3], [3]), ([0, 4], [0, 4]), ([5], [5]), ([6], [6]), ([7], [7]), ([8, 7], [7, 8]), ([9, 7, 7], [7, 9]), ([10], [10]), ([10], [10]), ([11, 12, 10], [10, 11, 12]), ([13, 10], [10, 13]), ([10], [10]), ([10], [10]), ([16, 10], [10, 16]), ([15, 17, 10], [10, 15, 17]), ([18, 10], [10, 18]), ([14, 19, 10], [10, 14, 19]), ([10, 20, 7], [7, 10, 20]), ([7, 21], [7, 21])])
def laws_FnGarbageOf.B11 : List Nat := [0, 0, 0, 6, 14, 31, 63, 127, 255, 511, 1023, 2047, 2047, 8191, 16383, 2047, 2047, 67583, 231423, 493567, 1048575, 2097151, 4194303]
theorem laws_FnGarbageOf.tab11 : rtab .any (opsOf Try.f5 11) = laws_FnGarbageOf.T11 := by kernel_rfl
theorem laws_FnGarbageOf.bits11 : waitsOk laws_FnGarbageOf.T11.2 laws_FnGarbageOf.B11 = true := by kernel_rfl
def laws_FnGarbageOf.T13 : Bool × List (List Nat × List Nat) := (true, [([], []), ([0], [0]), ([], []), ([2], [2]), ([1, 3], [1, 3]), ([], []), ([5], [5]), ([6], [6]), ([4, 7], [4, 7]), ([8, 3, 0, 1, 2, 3, 4, 5, 6, 7, 8], [8])])
def laws_FnGarbageOf.B13 : List Nat := [0, 1, 0, 4, 15, 0, 32, 96, 255, 511]
theorem laws_FnGarbageOf.tab13 : rtab .any (opsOf Try.f5 13) = laws_FnGarbageOf.T13 := by kernel_rfl
theorem laws_FnGarbageOf.bits13 : waitsOk laws_FnGarbageOf.T13.2 laws_FnGarbageOf.B13 = true := by kernel_rfl
set_option maxHeartbeats 8000000 in
set_option maxRecDepth 100000 in
theorem laws_FnGarbageOf.calls (k : Nat) (A0 : Option Addr) (c0 : Nat) (l0 : List Int) (r : Bool) (w : World) (hr0 : Kd.C (Kd.int .u8) w A0 l0.length l0) (hc0 : l0.length ≤ c0) (h : laws_FnGarbageOf.f k l0 = some r) :
  Calls Try.prog 5 #[.slice A0 l0.length c0] w fun e w' => e = .returned (.bool r) ∧ Below w.heap.size w w' := by
 have hu25 := Try.underlying25
 have HR0 := am hr0
 have HC0 := am hc0
 clear hr0 hc0
 have HB := am (Below.refl w.heap.size w)
 have H : (if (l0.length : Int) > 1048576 then (some true) else ((spec_DrawGarbageOf.f k l0).bind fun bt564 => ((impl_GarbageOf.f k bt564.1 bt564.2.1 bt564.2.2).bind fun t574 => ((spec_GarbageOf.f k bt564.1 bt564.2.1 bt564.2.2).bind fun t577 => ((laws_ccInts.f k t574 t577).bind fun t580 => (if t580 = true then ((impl_HeapValid.f k bt564.1 bt564.2.1 bt564.2.2).bind fun t581 => (laws_FnGarbageOf.j0 k t574 (!t581) bt564.1 bt564.2.1 bt564.2.2)) else (laws_FnGarbageOf.j0 k t574 true bt564.1 bt564.2.1 bt564.2.2))))))) = some r := h
 clear h
 by_cases c2 : (l0.length : Int) > 1048576
 ·rw [if_pos c2] at H
  have c2b0 : decide (1048576 < (l0.length : Int)) = true := decide_eq_true c2
  have c2b1 : decide (1048576 < l0.length) = true := decide_eq_true (by omega)
  clear c2
  obtain rfl := Option.some.inj H
  go_enter Try.func5, Try.ntmps5
  go_wp2
  go_ret
  exact ⟨by first | rfl | (simp [errW_none, errW_some] <;> rfl) | (simp [*, errW_none, errW_some] <;> rfl), by exact bs0 HB.out⟩
 ·rw [if_neg c2] at H
  have c2b0 : decide (1048576 < (l0.length : Int)) = false := decide_eq_false c2
  have c2b1 : decide (1048576 < l0.length) = false := decide_eq_false (by omega)
  clear c2
  replace H := Option.bind_eq_some_iff.mp H
  obtain ⟨⟨t564, t567, t570⟩, A30, H⟩ := H
  replace H : ((impl_GarbageOf.f k t564 t567 t570).bind fun t574 => ((spec_GarbageOf.f k t564 t567 t570).bind fun t577 => ((laws_ccInts.f k t574 t577).bind fun t580 => (if t580 = true then ((impl_HeapValid.f k t564 t567 t570).bind fun t581 => (laws_FnGarbageOf.j0 k t574 (!t581) t564 t567 t570)) else (laws_FnGarbageOf.j0 k t574 true t564 t567 t570))))) = some r := H
  have A3 := am A30
  clear A30
  replace H := Option.bind_eq_some_iff.mp H
  obtain ⟨t574, A40, H⟩ := H
  replace H : ((spec_GarbageOf.f k t564 t567 t570).bind fun t577 => ((laws_ccInts.f k t574 t577).bind fun t580 => (if t580 = true then ((impl_HeapValid.f k t564 t567 t570).bind fun t581 => (laws_FnGarbageOf.j0 k t574 (!t581) t564 t567 t570)) else (laws_FnGarbageOf.j0 k t574 true t564 t567 t570)))) = some r := H
  have A4 := am A40
  clear A40
  have HC5 := am H
  clear H
  go_enter Try.func5, Try.ntmps5
  go_upto_region 5 with (first | ((with_reducible refine gate_callee (f := 20) rfl ?_); refine goesL_ (some 11) rfl rfl Try.func20 (by kernel_rfl) rfl #[.slice A0 l0.length c0] rfl (by (try simp only [List.map_toArray, List.map_cons, List.map_nil]); first | done | rfl | (simp only [List.length_drop, List.length_take]; rfl)) ?_; (with_reducible refine (spec_DrawGarbageOf.calls k _ _ l0 t564 t567 t570 _ ?side1 ?side2 A3.out).mono ?_); (case side1 => exact cl (HR0.out)); (case side2 => exact HC0.out); rintro e w6 ⟨v565, v568, v571, rfl, ho0, ho1, ho2, hb⟩; refine ⟨_, rfl, ?_⟩; have HO566 := am (Kd.R_lower ho0 (below_size (bl HB.out))); have HO569 := am (Kd.R_lower ho1 (below_size (bl HB.out))); have HO572 := am (Kd.R_lower ho2 (below_size (bl HB.out))); replace HB := am (below_step (bl HB.out) hb); (try clear hb); (try clear hb2); (try clear hk); (try clear hi); (try clear ho0); (try clear ho1); (try clear ho2)) | ((with_reducible refine gate_dst (N := 3) rfl ?_); (try (refine gate_guard (by rfl) ?_; dsimp only)); refine box_event ?hg (N := 3) ?hd (cs := #[.slice none 0 0, .slice none 0 0, .slice none 0 0]) (t := 25) ?hr ?_; (case hd => rfl); (case hg => rfl); (case hr => first | (go_simp; done) | (go_simp; rfl)); intro gb573 hg w7 hbox hb; replace HO566 := am (Kd.R_below (rl HO566.out) hb); replace HO569 := am (Kd.R_below (rl HO569.out) hb); replace HO572 := am (Kd.R_below (rl HO572.out) hb); have BK573 := am (hbox); have GW573 := am ((by rw [hg]; exact (below_size (bl HB.out)) : w.heap.size ≤ gb573)); have GE573 := am ((by rw [hg]; exact (below_size (bl HB.out)) : w.heap.size ≤ gb573)); replace HB := am (below_step (bl HB.out) hb); clear hb hbox hg; obtain ⟨Ao8, co8, eo8⟩ := Kd.R_slice HO566.out; subst eo8; have hcz9_0 : w7.cell? ⟨gb573, 0, none⟩ = some (.slice none 0 0) := (blk_cell BK573.out 0).trans rfl; have hcz9_1 : w7.cell? ⟨gb573, 1, none⟩ = some (.slice none 0 0) := (blk_cell BK573.out 1).trans rfl; have hcz9_2 : w7.cell? ⟨gb573, 2, none⟩ = some (.slice none 0 0) := (blk_cell BK573.out 2).trans rfl; have hfz9_0 := blk_frozen BK573.out 0; have hfz9_1 := blk_frozen BK573.out 1; have hfz9_2 := blk_frozen BK573.out 2; obtain ⟨Ao10, co10, eo10⟩ := Kd.R_slice HO569.out; subst eo10; obtain ⟨Ao11, co11, eo11⟩ := Kd.R_slice HO572.out; subst eo11) | ((with_reducible refine gate_callee (f := 21) rfl ?_); refine goesL_ (some 13) rfl rfl Try.func21 (by kernel_rfl) rfl #[.agg #[.slice Ao8 t564.length co8, .slice Ao10 t567.length co10, .slice Ao11 t570.length co11]] rfl (by (try simp only [List.map_toArray, List.map_cons, List.map_nil]); first | done | rfl | (simp only [List.length_drop, List.length_take]; rfl)) ?_; (with_reducible refine (impl_GarbageOf.calls k _ _ t564 _ _ t567 _ _ t570 t574 _ ?side1 ?side2 ?side3 ?side4 ?side5 ?side6 A4.out).mono ?_); (case side1 => exact (Kd.R_reads' (rf1 BK573.out HO566.out)).2.2); (case side2 => exact (Kd.R_reads' HO566.out).2.1); (case side3 => exact (Kd.R_reads' (rf1 BK573.out HO569.out)).2.2); (case side4 => exact (Kd.R_reads' HO569.out).2.1); (case side5 => exact (Kd.R_reads' (rf1 BK573.out HO572.out)).2.2); (case side6 => exact (Kd.R_reads' HO572.out).2.1); rintro e w12 ⟨v575, rfl, ho0, hb⟩; refine ⟨_, rfl, ?_⟩; have HO576 := am (Kd.R_lower (Kd.R_new' (Kd.R_new' (Kd.R_new' ho0 (Kd.R_lt (rf1 BK573.out HO566.out))) (Kd.R_lt (rf1 BK573.out HO569.out))) (Kd.R_lt (rf1 BK573.out HO572.out))) (below_size (bs1 GE573.out HB.out))); replace HO566 := am (Kd.R_elder' (rf1 BK573.out HO566.out) (Kd.R_base ho0) hb); replace HO569 := am (Kd.R_elder' (rf1 BK573.out HO569.out) (Kd.R_base ho0) hb); replace HO572 := am (Kd.R_elder' (rf1 BK573.out HO572.out) (Kd.R_base ho0) hb); replace BK573 := am (blk_below (g := gb573) (o := .cells #[.slice Ao8 t564.length co8, .slice Ao10 t567.length co10, .slice Ao11 t570.length co11] 25 (0, 0)) (kp3 (kf0 BK573.out)) hb); replace HB := am (below_step (bs1 GE573.out HB.out) hb); (try clear hb); (try clear hb2); (try clear hk); (try clear hi); (try clear ho0)))
  (try simp only [Act.put, List.setIfInBounds_toArray, List.set_cons_zero, List.set_cons_succ])
  go_cut [23] (fun v23 wc => ∃ (kq : Nat) (x23_4 : Bool), v23 = .bool x23_4 ∧ Aside0 (laws_FnGarbageOf.j0 kq t574 x23_4 t564 t567 t570 = some r) ∧ Aside0 (kq ≤ k) ∧ Aside0 (Kd.R (Kd.int .i64) 3 wc w.heap.size (fun k_ => some k_ ≠ ((.slice Ao8 t564.length co8) : Value).ownBlock ∧ some k_ ≠ ((.slice Ao10 t567.length co10) : Value).ownBlock ∧ some k_ ≠ ((.slice Ao11 t570.length co11) : Value).ownBlock) v575 t574) ∧ Aside0 (Kd.R (Kd.int .i64) 3 wc w.heap.size (fun k_ => some k_ ≠ (v575 : Value).ownBlock ∧ some k_ ≠ ((.slice Ao10 t567.length co10) : Value).ownBlock ∧ some k_ ≠ ((.slice Ao11 t570.length co11) : Value).ownBlock) (.slice Ao8 t564.length co8) t564) ∧ Aside0 (Kd.R (Kd.int .i64) 3 wc w.heap.size (fun k_ => some k_ ≠ (v575 : Value).ownBlock ∧ some k_ ≠ ((.slice Ao8 t564.length co8) : Value).ownBlock ∧ some k_ ≠ ((.slice Ao11 t570.length co11) : Value).ownBlock) (.slice Ao10 t567.length co10) t567) ∧ Aside0 (Kd.R (Kd.int .i64) 3 wc w.heap.size (fun k_ => some k_ ≠ (v575 : Value).ownBlock ∧ some k_ ≠ ((.slice Ao8 t564.length co8) : Value).ownBlock ∧ some k_ ≠ ((.slice Ao10 t567.length co10) : Value).ownBlock) (.slice Ao11 t570.length co11) t570) ∧ Aside0 (wc.heap[gb573]? = some (.cells #[(.slice Ao8 t564.length co8), (.slice Ao10 t567.length co10), (.slice Ao11 t570.length co11)] 25 (0, 0))) ∧ Aside0 (Below w.heap.size w wc))
  case first =>
   have H := HC5.out
   clear HC5
   replace H := Option.bind_eq_some_iff.mp H
   obtain ⟨t577, A130, H⟩ := H
   replace H : ((laws_ccInts.f k t574 t577).bind fun t580 => (if t580 = true then ((impl_HeapValid.f k t564 t567 t570).bind fun t581 => (laws_FnGarbageOf.j0 k t574 (!t581) t564 t567 t570)) else (laws_FnGarbageOf.j0 k t574 true t564 t567 t570))) = some r := H
   have A13 := am A130
   clear A130
   replace H := Option.bind_eq_some_iff.mp H
   obtain ⟨t580, A140, H⟩ := H
   replace H : (if t580 = true then ((impl_HeapValid.f k t564 t567 t570).bind fun t581 => (laws_FnGarbageOf.j0 k t574 (!t581) t564 t567 t570)) else (laws_FnGarbageOf.j0 k t574 true t564 t567 t570)) = some r := H
   have A14 := am A140
   clear A140
   by_cases c15 : t580 = true
   ·subst c15
    have H1 : ((impl_HeapValid.f k t564 t567 t570).bind fun t581 => (laws_FnGarbageOf.j0 k t574 (!t581) t564 t567 t570)) = some r := by rw [if_pos rfl] at H; exact H
    clear H
    have H := H1
    clear H1
    replace H := Option.bind_eq_some_iff.mp H
    obtain ⟨t581, A160, H⟩ := H
    replace H : (laws_FnGarbageOf.j0 k t574 (!t581) t564 t567 t570) = some r := H
    have A16 := am A160
    clear A160
    have H' := am H
    clear H
    have hcz17_0 : w12.cell? ⟨gb573, 0, none⟩ = some (.slice Ao8 t564.length co8) := (blk_cell BK573.out 0).trans rfl
    have hcz17_1 : w12.cell? ⟨gb573, 1, none⟩ = some (.slice Ao10 t567.length co10) := (blk_cell BK573.out 1).trans rfl
    have hcz17_2 : w12.cell? ⟨gb573, 2, none⟩ = some (.slice Ao11 t570.length co11) := (blk_cell BK573.out 2).trans rfl
    have hfz17_0 := blk_frozen BK573.out 0
    have hfz17_1 := blk_frozen BK573.out 1
    have hfz17_2 := blk_frozen BK573.out 2
    go_wp2_with (first | ((with_reducible refine gate_callee (f := 22) rfl ?_); refine goesL_ (some 16) rfl rfl Try.func22 (by kernel_rfl) rfl #[.agg #[.slice Ao8 t564.length co8, .slice Ao10 t567.length co10, .slice Ao11 t570.length co11]] rfl (by (try simp only [List.map_toArray, List.map_cons, List.map_nil]); first | done | rfl | (simp only [List.length_drop, List.length_take]; rfl)) ?_; (with_reducible refine (spec_GarbageOf.calls k _ _ t564 _ _ t567 _ _ t570 t577 _ ?side1 ?side2 ?side3 ?side4 ?side5 ?side6 A13.out).mono ?_); (case side1 => exact cl ((Kd.R_reads' HO566.out).2.2)); (case side2 => exact (Kd.R_reads' HO566.out).2.1); (case side3 => exact cl ((Kd.R_reads' HO569.out).2.2)); (case side4 => exact (Kd.R_reads' HO569.out).2.1); (case side5 => exact cl ((Kd.R_reads' HO572.out).2.2)); (case side6 => exact (Kd.R_reads' HO572.out).2.1); rintro e w18 ⟨v578, rfl, ho0, hb⟩; refine ⟨_, rfl, ?_⟩; have HO579 := am (Kd.R_lower (Kd.R_new' (Kd.R_new' (Kd.R_new' (Kd.R_new' ho0 (Kd.R_lt (rl HO566.out))) (Kd.R_lt (rl HO569.out))) (Kd.R_lt (rl HO572.out))) (Kd.R_lt (rl HO576.out))) (below_size (bs1 GE573.out HB.out))); replace HO566 := am (Kd.R_elder' (rl HO566.out) (Kd.R_base ho0) hb); replace HO569 := am (Kd.R_elder' (rl HO569.out) (Kd.R_base ho0) hb); replace HO572 := am (Kd.R_elder' (rl HO572.out) (Kd.R_base ho0) hb); replace HO576 := am (Kd.R_elder' (rl HO576.out) (Kd.R_base ho0) hb); replace BK573 := am (blk_below (g := gb573) (o := .cells #[.slice Ao8 t564.length co8, .slice Ao10 t567.length co10, .slice Ao11 t570.length co11] 25 (0, 0)) (kl BK573.out) hb); replace HB := am (below_step (bs1 GE573.out HB.out) hb); (try clear hb); (try clear hb2); (try clear hk); (try clear hi); (try clear ho0); obtain ⟨Ao19, co19, eo19⟩ := Kd.R_slice HO576.out; subst eo19; obtain ⟨Ao20, co20, eo20⟩ := Kd.R_slice HO579.out; subst eo20) | ((with_reducible refine gate_callee (f := 19) rfl ?_); refine goesL_ (some 17) rfl rfl Try.func19 (by kernel_rfl) rfl #[.slice Ao19 t574.length co19, .slice Ao20 t577.length co20] rfl (by (try simp only [List.map_toArray, List.map_cons, List.map_nil]); first | done | rfl | (simp only [List.length_drop, List.length_take]; rfl)) ?_; (with_reducible refine (laws_ccInts.calls k _ _ t574 _ _ t577 true _ ?side1 ?side2 ?side3 ?side4 A14.out).mono ?_); (case side1 => exact cl ((Kd.R_reads' HO576.out).2.2)); (case side2 => exact (Kd.R_reads' HO576.out).2.1); (case side3 => exact cl ((Kd.R_reads' HO579.out).2.2)); (case side4 => exact (Kd.R_reads' HO579.out).2.1); rintro e w' ⟨rfl, ⟨nd, rfl⟩⟩; refine ⟨_, rfl, ?_⟩; have hcz21_0 : w18.cell? ⟨gb573, 0, none⟩ = some (.slice Ao8 t564.length co8) := (blk_cell BK573.out 0).trans rfl; have hcz21_1 : w18.cell? ⟨gb573, 1, none⟩ = some (.slice Ao10 t567.length co10) := (blk_cell BK573.out 1).trans rfl; have hcz21_2 : w18.cell? ⟨gb573, 2, none⟩ = some (.slice Ao11 t570.length co11) := (blk_cell BK573.out 2).trans rfl; have hfz21_0 := blk_frozen BK573.out 0; have hfz21_1 := blk_frozen BK573.out 1; have hfz21_2 := blk_frozen BK573.out 2) | (go_at_call 17; (with_reducible refine (impl_HeapValid.calls k (fun k_ => some k_ = (.slice Ao8 t564.length co8 : Value).ownBlock) _ _ t564 (fun k_ => some k_ = (.slice Ao10 t567.length co10 : Value).ownBlock) _ _ t567 (fun k_ => some k_ = (.slice Ao11 t570.length co11 : Value).ownBlock) _ _ t570 t581 _ ?side1 ?side2 ?side3 A16.out).mono ?_); (case side1 => exact Kd.R_V (Kd.R_tight rfl (Kd.R_types (HO566.out) BK573.out (by decide)))); (case side2 => exact Kd.R_V (Kd.R_tight rfl (Kd.R_types (HO569.out) BK573.out (by decide)))); (case side3 => exact Kd.R_V (Kd.R_tight rfl (Kd.R_types (HO572.out) BK573.out (by decide)))); rintro e w22 ⟨rfl, hb⟩; replace HO566 := am (Kd.R_below (rl HO566.out) hb); replace HO569 := am (Kd.R_below (rl HO569.out) hb); replace HO572 := am (Kd.R_below (rl HO572.out) hb); replace HO576 := am (Kd.R_below (rl HO576.out) hb); replace HO579 := am (Kd.R_below (rl HO579.out) hb); replace BK573 := am (blk_below (g := gb573) (o := .cells #[.slice Ao8 t564.length co8, .slice Ao10 t567.length co10, .slice Ao11 t570.length co11] 25 (0, 0)) (kl BK573.out) hb); replace HB := am (below_step (bs1 GE573.out HB.out) hb); (try clear hb); (try clear hb2); (try clear hk); (try clear hi)))
    go_meet
    case rel => exact ⟨_, (!t581), (by first | rfl | (simp; done) | (simp [*]; done)), H', ⟨by first | omega | exact Nat.le_refl _⟩, ⟨rl (Kd.R_mono HO576.out (fun _ hk => by first | exact ⟨hk.1.1.1.2, ⟨hk.1.1.2, hk.1.2⟩⟩ | (simp only [ne_eq] at hk ⊢; simp only [hk, not_false_eq_true, and_self])))⟩, ⟨rl (Kd.R_mono HO566.out (fun _ hk => by first | exact ⟨hk.1.2, ⟨hk.1.1.1, hk.1.1.2⟩⟩ | (simp only [ne_eq] at hk ⊢; simp only [hk, not_false_eq_true, and_self])))⟩, ⟨rl (Kd.R_mono HO569.out (fun _ hk => by first | exact ⟨hk.1.2, ⟨hk.1.1.1, hk.1.1.2⟩⟩ | (simp only [ne_eq] at hk ⊢; simp only [hk, not_false_eq_true, and_self])))⟩, ⟨rl (Kd.R_mono HO572.out (fun _ hk => by first | exact ⟨hk.1.2, ⟨hk.1.1.1, hk.1.1.2⟩⟩ | (simp only [ne_eq] at hk ⊢; simp only [hk, not_false_eq_true, and_self])))⟩, ⟨kl BK573.out⟩, ⟨by exact bs1 GE573.out HB.out⟩⟩
   ·replace c15 := Bool.eq_false_iff.mpr c15
    subst c15
    have H1 : (laws_FnGarbageOf.j0 k t574 true t564 t567 t570) = some r := by rw [if_neg (show ¬ (false = true) by decide)] at H; exact H
    clear H
    have H := H1
    clear H1
    have H' := am H
    clear H
    have hcz23_0 : w12.cell? ⟨gb573, 0, none⟩ = some (.slice Ao8 t564.length co8) := (blk_cell BK573.out 0).trans rfl
    have hcz23_1 : w12.cell? ⟨gb573, 1, none⟩ = some (.slice Ao10 t567.length co10) := (blk_cell BK573.out 1).trans rfl
    have hcz23_2 : w12.cell? ⟨gb573, 2, none⟩ = some (.slice Ao11 t570.length co11) := (blk_cell BK573.out 2).trans rfl
    have hfz23_0 := blk_frozen BK573.out 0
    have hfz23_1 := blk_frozen BK573.out 1
    have hfz23_2 := blk_frozen BK573.out 2
    go_wp2_with (first | ((with_reducible refine gate_callee (f := 22) rfl ?_); refine goesL_ (some 16) rfl rfl Try.func22 (by kernel_rfl) rfl #[.agg #[.slice Ao8 t564.length co8, .slice Ao10 t567.length co10, .slice Ao11 t570.length co11]] rfl (by (try simp only [List.map_toArray, List.map_cons, List.map_nil]); first | done | rfl | (simp only [List.length_drop, List.length_take]; rfl)) ?_; (with_reducible refine (spec_GarbageOf.calls k _ _ t564 _ _ t567 _ _ t570 t577 _ ?side1 ?side2 ?side3 ?side4 ?side5 ?side6 A13.out).mono ?_); (case side1 => exact cl ((Kd.R_reads' HO566.out).2.2)); (case side2 => exact (Kd.R_reads' HO566.out).2.1); (case side3 => exact cl ((Kd.R_reads' HO569.out).2.2)); (case side4 => exact (Kd.R_reads' HO569.out).2.1); (case side5 => exact cl ((Kd.R_reads' HO572.out).2.2)); (case side6 => exact (Kd.R_reads' HO572.out).2.1); rintro e w24 ⟨v578, rfl, ho0, hb⟩; refine ⟨_, rfl, ?_⟩; have HO579 := am (Kd.R_lower (Kd.R_new' (Kd.R_new' (Kd.R_new' (Kd.R_new' ho0 (Kd.R_lt (rl HO566.out))) (Kd.R_lt (rl HO569.out))) (Kd.R_lt (rl HO572.out))) (Kd.R_lt (rl HO576.out))) (below_size (bs1 GE573.out HB.out))); replace HO566 := am (Kd.R_elder' (rl HO566.out) (Kd.R_base ho0) hb); replace HO569 := am (Kd.R_elder' (rl HO569.out) (Kd.R_base ho0) hb); replace HO572 := am (Kd.R_elder' (rl HO572.out) (Kd.R_base ho0) hb); replace HO576 := am (Kd.R_elder' (rl HO576.out) (Kd.R_base ho0) hb); replace BK573 := am (blk_below (g := gb573) (o := .cells #[.slice Ao8 t564.length co8, .slice Ao10 t567.length co10, .slice Ao11 t570.length co11] 25 (0, 0)) (kl BK573.out) hb); replace HB := am (below_step (bs1 GE573.out HB.out) hb); (try clear hb); (try clear hb2); (try clear hk); (try clear hi); (try clear ho0); obtain ⟨Ao25, co25, eo25⟩ := Kd.R_slice HO576.out; subst eo25; obtain ⟨Ao26, co26, eo26⟩ := Kd.R_slice HO579.out; subst eo26) | ((with_reducible refine gate_callee (f := 19) rfl ?_); refine goesL_ (some 17) rfl rfl Try.func19 (by kernel_rfl) rfl #[.slice Ao25 t574.length co25, .slice Ao26 t577.length co26] rfl (by (try simp only [List.map_toArray, List.map_cons, List.map_nil]); first | done | rfl | (simp only [List.length_drop, List.length_take]; rfl)) ?_; (with_reducible refine (laws_ccInts.calls k _ _ t574 _ _ t577 false _ ?side1 ?side2 ?side3 ?side4 A14.out).mono ?_); (case side1 => exact cl ((Kd.R_reads' HO576.out).2.2)); (case side2 => exact (Kd.R_reads' HO576.out).2.1); (case side3 => exact cl ((Kd.R_reads' HO579.out).2.2)); (case side4 => exact (Kd.R_reads' HO579.out).2.1); rintro e w' ⟨rfl, ⟨nd, rfl⟩⟩; refine ⟨_, rfl, ?_⟩))
    go_meet
    case rel => exact ⟨_, (true), (by first | rfl | (simp; done) | (simp [*]; done)), H', ⟨by first | omega | exact Nat.le_refl _⟩, ⟨rl (Kd.R_mono HO576.out (fun _ hk => by first | exact ⟨hk.1.1.1.2, ⟨hk.1.1.2, hk.1.2⟩⟩ | (simp only [ne_eq] at hk ⊢; simp only [hk, not_false_eq_true, and_self])))⟩, ⟨rl (Kd.R_mono HO566.out (fun _ hk => by first | exact ⟨hk.1.2, ⟨hk.1.1.1, hk.1.1.2⟩⟩ | (simp only [ne_eq] at hk ⊢; simp only [hk, not_false_eq_true, and_self])))⟩, ⟨rl (Kd.R_mono HO569.out (fun _ hk => by first | exact ⟨hk.1.2, ⟨hk.1.1.1, hk.1.1.2⟩⟩ | (simp only [ne_eq] at hk ⊢; simp only [hk, not_false_eq_true, and_self])))⟩, ⟨rl (Kd.R_mono HO572.out (fun _ hk => by first | exact ⟨hk.1.2, ⟨hk.1.1.1, hk.1.1.2⟩⟩ | (simp only [ne_eq] at hk ⊢; simp only [hk, not_false_eq_true, and_self])))⟩, ⟨kl BK573.out⟩, ⟨by exact bs1 GE573.out HB.out⟩⟩
  case rest =>
   clear HC5
   try clear c1
   try clear c2
   try clear c2b0
   try clear c2b1
   try clear p2
   try clear c5
   try clear c15
   try clear c19
   try clear c20
   try clear c21
   try clear c22
   try clear hcz17_0
   try clear hcz17_1
   try clear hcz17_2
   try clear hcz21_0
   try clear hcz21_1
   try clear hcz21_2
   try clear hcz23_0
   try clear hcz23_1
   try clear hcz23_2
   try clear hcz9_0
   try clear hcz9_1
   try clear hcz9_2
   try clear hfz17_0
   try clear hfz17_1
   try clear hfz17_2
   try clear hfz21_0
   try clear hfz21_1
   try clear hfz21_2
   try clear hfz23_0
   try clear hfz23_1
   try clear hfz23_2
   try clear hfz9_0
   try clear hfz9_1
   try clear hfz9_2
   obtain ⟨kq, x23_4, rfl, HA, HJ4, HO_4, HO_574000, HO_574001, HO_574002, BK573, HB⟩ := hcut
   cases kq with
   | zero => exact absurd HA.out (by simp [laws_FnGarbageOf.j0])
   | succ kj4 =>
    have H := HA.out
    clear HA
    simp only [laws_FnGarbageOf.j0] at H
    by_cases c27 : x23_4 = true
    ·subst c27
     have H1 : ((spec_GarbageOf.f kj4 t564 t567 t570).bind fun t582 => ((laws_ccInts.f kj4 t574 t582).bind fun t585 => (if t585 = true then (some ((t574.length : Int) == 0)) else (none)))) = some r := by rw [if_pos rfl] at H; exact H
     clear H
     have H := H1
     clear H1
     replace H := Option.bind_eq_some_iff.mp H
     obtain ⟨t582, A280, H⟩ := H
     replace H : ((laws_ccInts.f kj4 t574 t582).bind fun t585 => (if t585 = true then (some ((t574.length : Int) == 0)) else (none))) = some r := H
     have A28 := am A280
     clear A280
     replace H := Option.bind_eq_some_iff.mp H
     obtain ⟨t585, A290, H⟩ := H
     replace H : (if t585 = true then (some ((t574.length : Int) == 0)) else (none)) = some r := H
     have A29 := am A290
     clear A290
     by_cases c30 : t585 = true
     ·subst c30
      have H1 : (some ((t574.length : Int) == 0)) = some r := by rw [if_pos rfl] at H; exact H
      clear H
      have H := H1
      clear H1
      obtain rfl := Option.some.inj H
      have hcz31_0 : wc.cell? ⟨gb573, 0, none⟩ = some (.slice Ao8 t564.length co8) := (blk_cell BK573.out 0).trans rfl
      have hcz31_1 : wc.cell? ⟨gb573, 1, none⟩ = some (.slice Ao10 t567.length co10) := (blk_cell BK573.out 1).trans rfl
      have hcz31_2 : wc.cell? ⟨gb573, 2, none⟩ = some (.slice Ao11 t570.length co11) := (blk_cell BK573.out 2).trans rfl
      have hfz31_0 := blk_frozen BK573.out 0
      have hfz31_1 := blk_frozen BK573.out 1
      have hfz31_2 := blk_frozen BK573.out 2
      go_wp2_with (first | ((with_reducible refine gate_callee (f := 22) rfl ?_); refine goesL_ (some 26) rfl rfl Try.func22 (by kernel_rfl) rfl #[.agg #[.slice Ao8 t564.length co8, .slice Ao10 t567.length co10, .slice Ao11 t570.length co11]] rfl (by (try simp only [List.map_toArray, List.map_cons, List.map_nil]); first | done | rfl | (simp only [List.length_drop, List.length_take]; rfl)) ?_; (with_reducible refine (spec_GarbageOf.calls kj4 _ _ t564 _ _ t567 _ _ t570 t582 _ ?side1 ?side2 ?side3 ?side4 ?side5 ?side6 A28.out).mono ?_); (case side1 => exact cl ((Kd.R_reads' HO_574000.out).2.2)); (case side2 => exact (Kd.R_reads' HO_574000.out).2.1); (case side3 => exact cl ((Kd.R_reads' HO_574001.out).2.2)); (case side4 => exact (Kd.R_reads' HO_574001.out).2.1); (case side5 => exact cl ((Kd.R_reads' HO_574002.out).2.2)); (case side6 => exact (Kd.R_reads' HO_574002.out).2.1); rintro e w32 ⟨v583, rfl, ho0, hb⟩; refine ⟨_, rfl, ?_⟩; have HO584 := am (Kd.R_lower (Kd.R_new' (Kd.R_new' (Kd.R_new' (Kd.R_new' ho0 (Kd.R_lt (rl HO_4.out))) (Kd.R_lt (rl HO_574000.out))) (Kd.R_lt (rl HO_574001.out))) (Kd.R_lt (rl HO_574002.out))) (below_size (bs1 GE573.out HB.out))); replace HO_4 := am (Kd.R_elder' (rl HO_4.out) (Kd.R_base ho0) hb); replace HO_574000 := am (Kd.R_elder' (rl HO_574000.out) (Kd.R_base ho0) hb); replace HO_574001 := am (Kd.R_elder' (rl HO_574001.out) (Kd.R_base ho0) hb); replace HO_574002 := am (Kd.R_elder' (rl HO_574002.out) (Kd.R_base ho0) hb); replace BK573 := am (blk_below (g := gb573) (o := .cells #[.slice Ao8 t564.length co8, .slice Ao10 t567.length co10, .slice Ao11 t570.length co11] 25 (0, 0)) (kl BK573.out) hb); replace HB := am (below_step (bs1 GE573.out HB.out) hb); (try clear hb); (try clear hb2); (try clear hk); (try clear hi); (try clear ho0); obtain ⟨Ao33, co33, eo33⟩ := Kd.R_slice HO_4.out; subst eo33; obtain ⟨Ao34, co34, eo34⟩ := Kd.R_slice HO584.out; subst eo34) | ((with_reducible refine gate_callee (f := 19) rfl ?_); refine goesL_ (some 27) rfl rfl Try.func19 (by kernel_rfl) rfl #[.slice Ao33 t574.length co33, .slice Ao34 t582.length co34] rfl (by (try simp only [List.map_toArray, List.map_cons, List.map_nil]); first | done | rfl | (simp only [List.length_drop, List.length_take]; rfl)) ?_; (with_reducible refine (laws_ccInts.calls kj4 _ _ t574 _ _ t582 true _ ?side1 ?side2 ?side3 ?side4 A29.out).mono ?_); (case side1 => exact cl ((Kd.R_reads' HO_4.out).2.2)); (case side2 => exact (Kd.R_reads' HO_4.out).2.1); (case side3 => exact cl ((Kd.R_reads' HO584.out).2.2)); (case side4 => exact (Kd.R_reads' HO584.out).2.1); rintro e w' ⟨rfl, ⟨nd, rfl⟩⟩; refine ⟨_, rfl, ?_⟩))
      go_ret
      exact ⟨by first | rfl | (simp [errW_none, errW_some] <;> rfl) | (simp [*, errW_none, errW_some] <;> rfl), by exact bs1 GE573.out HB.out⟩
     ·replace c30 := Bool.eq_false_iff.mpr c30
      subst c30
      have H1 : (none) = some r := by rw [if_neg (show ¬ (false = true) by decide)] at H; exact H
      clear H
      have H := H1
      clear H1
      exact absurd H (by simp)
    ·replace c27 := Bool.eq_false_iff.mpr c27
     subst c27
     have H1 : ((impl_Reachable.f kj4 t564 t567 t570).bind fun t586 => (laws_FnGarbageOf.l0 kj4 t574 t586 0 t564 t567 t570)) = some r := by rw [if_neg (show ¬ (false = true) by decide)] at H; exact H
     clear H
     have H := H1
     clear H1
     replace H := Option.bind_eq_some_iff.mp H
     obtain ⟨t586, A350, H⟩ := H
     replace H : (laws_FnGarbageOf.l0 kj4 t574 t586 0 t564 t567 t570) = some r := H
     have A35 := am A350
     clear A350
     have H' := am H
     clear H
     have hcz36_0 : wc.cell? ⟨gb573, 0, none⟩ = some (.slice Ao8 t564.length co8) := (blk_cell BK573.out 0).trans rfl
     have hcz36_1 : wc.cell? ⟨gb573, 1, none⟩ = some (.slice Ao10 t567.length co10) := (blk_cell BK573.out 1).trans rfl
     have hcz36_2 : wc.cell? ⟨gb573, 2, none⟩ = some (.slice Ao11 t570.length co11) := (blk_cell BK573.out 2).trans rfl
     have hfz36_0 := blk_frozen BK573.out 0
     have hfz36_1 := blk_frozen BK573.out 1
     have hfz36_2 := blk_frozen BK573.out 2
     go_wp2_with (first | ((with_reducible refine gate_callee (f := 23) rfl ?_); refine goesL_ (some 34) rfl rfl Try.func23 (by kernel_rfl) rfl #[.agg #[.slice Ao8 t564.length co8, .slice Ao10 t567.length co10, .slice Ao11 t570.length co11]] rfl (by (try simp only [List.map_toArray, List.map_cons, List.map_nil]); first | done | rfl | (simp only [List.length_drop, List.length_take]; rfl)) ?_; (with_reducible refine (impl_Reachable.calls kj4 _ _ t564 _ _ t567 _ _ t570 t586 _ ?side1 ?side2 ?side3 ?side4 ?side5 ?side6 A35.out).mono ?_); (case side1 => exact cl ((Kd.R_reads' HO_574000.out).2.2)); (case side2 => exact (Kd.R_reads' HO_574000.out).2.1); (case side3 => exact cl ((Kd.R_reads' HO_574001.out).2.2)); (case side4 => exact (Kd.R_reads' HO_574001.out).2.1); (case side5 => exact cl ((Kd.R_reads' HO_574002.out).2.2)); (case side6 => exact (Kd.R_reads' HO_574002.out).2.1); rintro e w37 ⟨v587, rfl, ho0, hb⟩; refine ⟨_, rfl, ?_⟩; replace HO_4 := am (Kd.R_below (rl HO_4.out) hb); replace HO_574000 := am (Kd.R_below (rl HO_574000.out) hb); replace HO_574001 := am (Kd.R_below (rl HO_574001.out) hb); replace HO_574002 := am (Kd.R_below (rl HO_574002.out) hb); have HO588 := am (Kd.R_lower ho0 (below_size (bs1 GE573.out HB.out))); replace BK573 := am (blk_below (g := gb573) (o := .cells #[.slice Ao8 t564.length co8, .slice Ao10 t567.length co10, .slice Ao11 t570.length co11] 25 (0, 0)) (kl BK573.out) hb); replace HB := am (below_step (bs1 GE573.out HB.out) hb); (try clear hb); (try clear hb2); (try clear hk); (try clear hi); (try clear ho0)))
     go_loopg [6] kj4 (fun kq v6 w' => ∃ (x6_2 : Int), v6 = .int .i64 x6_2 ∧ Aside0 (laws_FnGarbageOf.l0 kq t574 t586 x6_2 t564 t567 t570 = some r) ∧ Aside0 (kq ≤ kj4) ∧ Aside0 (Kd.R (Kd.int .i64) 3 w' w.heap.size (fun k_ => some k_ ≠ ((.slice Ao8 t564.length co8) : Value).ownBlock ∧ some k_ ≠ ((.slice Ao10 t567.length co10) : Value).ownBlock ∧ some k_ ≠ ((.slice Ao11 t570.length co11) : Value).ownBlock) v575 t574) ∧ Aside0 (Kd.R Kd.bool 4 w' w.heap.size (fun _ => True) v587 t586) ∧ Aside0 (Kd.R (Kd.int .i64) 3 w' w.heap.size (fun k_ => some k_ ≠ (v575 : Value).ownBlock ∧ some k_ ≠ ((.slice Ao10 t567.length co10) : Value).ownBlock ∧ some k_ ≠ ((.slice Ao11 t570.length co11) : Value).ownBlock) (.slice Ao8 t564.length co8) t564) ∧ Aside0 (Kd.R (Kd.int .i64) 3 w' w.heap.size (fun k_ => some k_ ≠ (v575 : Value).ownBlock ∧ some k_ ≠ ((.slice Ao8 t564.length co8) : Value).ownBlock ∧ some k_ ≠ ((.slice Ao11 t570.length co11) : Value).ownBlock) (.slice Ao10 t567.length co10) t567) ∧ Aside0 (Kd.R (Kd.int .i64) 3 w' w.heap.size (fun k_ => some k_ ≠ (v575 : Value).ownBlock ∧ some k_ ≠ ((.slice Ao8 t564.length co8) : Value).ownBlock ∧ some k_ ≠ ((.slice Ao10 t567.length co10) : Value).ownBlock) (.slice Ao11 t570.length co11) t570) ∧ Aside0 (w'.heap[gb573]? = some (.cells #[(.slice Ao8 t564.length co8), (.slice Ao10 t567.length co10), (.slice Ao11 t570.length co11)] 25 (0, 0))) ∧ Aside0 (Below w.heap.size w w'))
     case atStart => exact ⟨(0), (by first | rfl | (simp; done) | (simp [*]; done)), H', ⟨Nat.le_refl _⟩, ⟨rl HO_4.out⟩, ⟨rl HO588.out⟩, ⟨rl HO_574000.out⟩, ⟨rl HO_574001.out⟩, ⟨rl HO_574002.out⟩, ⟨kl BK573.out⟩, ⟨by exact bs1 GE573.out HB.out⟩⟩
     case round =>
      clear H'
      try clear c1
      try clear c2
      try clear c2b0
      try clear c2b1
      try clear p2
      try clear c3
      try clear c5
      try clear c15
      try clear c19
      try clear c20
      try clear c21
      try clear c22
      try clear c23
      try clear c27
      try clear c30
      try clear hcz17_0
      try clear hcz17_1
      try clear hcz17_2
      try clear hcz21_0
      try clear hcz21_1
      try clear hcz21_2
      try clear hcz23_0
      try clear hcz23_1
      try clear hcz23_2
      try clear hcz31_0
      try clear hcz31_1
      try clear hcz31_2
      try clear hcz36_0
      try clear hcz36_1
      try clear hcz36_2
      try clear hcz9_0
      try clear hcz9_1
      try clear hcz9_2
      try clear hfz17_0
      try clear hfz17_1
      try clear hfz17_2
      try clear hfz21_0
      try clear hfz21_1
      try clear hfz21_2
      try clear hfz23_0
      try clear hfz23_1
      try clear hfz23_2
      try clear hfz31_0
      try clear hfz31_1
      try clear hfz31_2
      try clear hfz36_0
      try clear hfz36_1
      try clear hfz36_2
      try clear hfz9_0
      try clear hfz9_1
      try clear hfz9_2
      try clear p2
      obtain ⟨x6_2, rfl, HA, HK2, HO_4, HO_5, HO_574000, HO_574001, HO_574002, BK573, HB⟩ := hrel
      cases gk with
      | zero => exact absurd HA.out (by simp [laws_FnGarbageOf.l0])
      | succ k2 =>
       have H := HA.out
       clear HA
       simp only [laws_FnGarbageOf.l0] at H
       by_cases c38 : x6_2 < (t574.length : Int)
       ·rw [if_pos c38] at H
        have c38b0 : decide (x6_2 < (t574.length : Int)) = true := decide_eq_true c38
        clear c38
        by_cases c39 : 0 ≤ x6_2
        ·rw [if_pos c39] at H
         have c39b0 : decide (0 ≤ x6_2) = true := decide_eq_true c39
         clear c39
         by_cases c40 : 0 ≤ (rd t574 x6_2)
         ·rw [if_pos c40] at H
          have c40b0 : decide (0 ≤ (rd t574 x6_2)) = true := decide_eq_true c40
          clear c40
          by_cases c41 : (rd t574 x6_2) < (t586.length : Int)
          ·rw [if_pos c41] at H
           have c41b0 : decide ((rd t574 x6_2) < (t586.length : Int)) = true := decide_eq_true c41
           clear c41
           obtain ⟨bq42, hbq42⟩ : ∃ b_ : Bool, b_ = (rdOf false t586 (rd t574 x6_2)) := ⟨_, rfl⟩
           replace H : (if bq42 = true then (none) else (if x6_2 > 0 then (if 0 ≤ (wrap64 (x6_2 - 1)) then (if (wrap64 (x6_2 - 1)) < (t574.length : Int) then (if (rd t574 x6_2) ≤ (rd t574 (wrap64 (x6_2 - 1))) then (none) else (laws_FnGarbageOf.l0 k2 t574 t586 (wrap64 (x6_2 + 1)) t564 t567 t570)) else (none)) else (none)) else (laws_FnGarbageOf.l0 k2 t574 t586 (wrap64 (x6_2 + 1)) t564 t567 t570))) = some r := by rw [← hbq42] at H; exact H
           have Nbq42 := am hbq42
           clear hbq42
           by_cases c43 : bq42 = true
           ·subst c43
            have H1 : (none) = some r := by rw [if_pos rfl] at H; exact H
            clear H
            have H := H1
            clear H1
            exact absurd H (by simp)
           ·replace c43 := Bool.eq_false_iff.mpr c43
            subst c43
            have H1 : (if x6_2 > 0 then (if 0 ≤ (wrap64 (x6_2 - 1)) then (if (wrap64 (x6_2 - 1)) < (t574.length : Int) then (if (rd t574 x6_2) ≤ (rd t574 (wrap64 (x6_2 - 1))) then (none) else (laws_FnGarbageOf.l0 k2 t574 t586 (wrap64 (x6_2 + 1)) t564 t567 t570)) else (none)) else (none)) else (laws_FnGarbageOf.l0 k2 t574 t586 (wrap64 (x6_2 + 1)) t564 t567 t570)) = some r := by rw [if_neg (show ¬ (false = true) by decide)] at H; exact H
            clear H
            have H := H1
            clear H1
            by_cases c44 : x6_2 > 0
            ·rw [if_pos c44] at H
             have c44b0 : decide (0 < x6_2) = true := decide_eq_true c44
             clear c44
             obtain ⟨ji45, hji45⟩ : ∃ j_ : Int, (wrap64 (x6_2 - 1)) = j_ := ⟨_, rfl⟩
             replace H : (if 0 ≤ (ji45) then (if (ji45) < (t574.length : Int) then (if (rd t574 x6_2) ≤ (rd t574 (ji45)) then (none) else (laws_FnGarbageOf.l0 k2 t574 t586 (wrap64 (x6_2 + 1)) t564 t567 t570)) else (none)) else (none)) = some r := by first | (rw [hji45] at H; exact H) | (simp only [hji45] at H ⊢; exact H)
             have hji45w : (IntKind.i64.wrap (x6_2 - 1)) = ji45 := (i64_w _).trans hji45
             by_cases c46 : 0 ≤ (ji45)
             ·rw [if_pos c46] at H
              have c46b0 : decide (0 ≤ (ji45)) = true := decide_eq_true c46
              clear c46
              by_cases c47 : (ji45) < (t574.length : Int)
              ·rw [if_pos c47] at H
               have c47b0 : decide ((ji45) < (t574.length : Int)) = true := decide_eq_true c47
               clear c47
               by_cases c48 : (rd t574 x6_2) ≤ (rd t574 (ji45))
               ·rw [if_pos c48] at H
                exact absurd H (by simp)
               ·rw [if_neg c48] at H
                have c48b0 : decide ((rd t574 x6_2) ≤ (rd t574 (ji45))) = false := decide_eq_false c48
                clear c48
                have H' := am H
                clear H
                obtain ⟨Ao49, co49, eo49⟩ := Kd.R_slice HO_4.out
                subst eo49
                try go_wp2
                replace HO_4 := am (Kd.R_drew HO_4.out)
                replace HO_5 := am (Kd.R_drew HO_5.out)
                replace HO_574000 := am (Kd.R_drew HO_574000.out)
                replace HO_574001 := am (Kd.R_drew HO_574001.out)
                replace HO_574002 := am (Kd.R_drew HO_574002.out)
                replace BK573 := am (blk_drew BK573.out)
                replace HB := am (below_drew1 HB.out)
                have p589 : 0 ≤ (x6_2 : Int) := of_decide_eq_true (by first | (with_reducible assumption) | assumption)
                have q589 : x6_2 < (t574.length : Int) := of_decide_eq_true (by first | (with_reducible assumption) | assumption)
                obtain ⟨ad589, e589, hx589_0⟩ := Kd.at_int (Kd.R_reads' HO_4.out).2.2 x6_2 p589 q589
                cases e589
                replace p589 := eq_true p589
                replace q589 := eq_true q589
                obtain ⟨Ao51, co51, eo51⟩ := Kd.R_slice HO_5.out
                (first | subst eo51 | (injection eo51 with f1_ f2_ f3_; have f4_ := f1_.symm; have f5_ := f3_.symm; clear f1_ f2_ f3_; subst f4_; subst f5_))
                have p590 : 0 ≤ ((rd t574 x6_2) : Int) := of_decide_eq_true (by first | (with_reducible assumption) | assumption)
                have q590 : (rd t574 x6_2) < (t586.length : Int) := of_decide_eq_true (by first | (with_reducible assumption) | assumption)
                obtain ⟨ad590, e590, hx590_0⟩ := Kd.at_bool (Kd.R_reads' HO_5.out).2.2 (rd t574 x6_2) p590 q590
                (try rw [← Nbq42.out] at hx590_0)
                cases e590
                replace p590 := eq_true p590
                replace q590 := eq_true q590
                have p591 : 0 ≤ (x6_2 : Int) := of_decide_eq_true (by first | (with_reducible assumption) | assumption)
                have q591 : x6_2 < (t574.length : Int) := of_decide_eq_true (by first | (with_reducible assumption) | assumption)
                obtain ⟨ad591, e591, hx591_0⟩ := Kd.at_int (Kd.R_reads' HO_4.out).2.2 x6_2 p591 q591
                obtain rfl : ad589 = ad591 := (by injection e591)
                replace p591 := eq_true p591
                replace q591 := eq_true q591
                have p592 : 0 ≤ ((ji45) : Int) := of_decide_eq_true (by first | (with_reducible assumption) | assumption)
                have q592 : (ji45) < (t574.length : Int) := of_decide_eq_true (by first | (with_reducible assumption) | assumption)
                obtain ⟨ad592, e592, hx592_0⟩ := Kd.at_int (Kd.R_reads' HO_4.out).2.2 (ji45) p592 q592
                obtain rfl : ad589 = ad592 := (by injection e592)
                replace p592 := eq_true p592
                replace q592 := eq_true q592
                refine start_ (n := 23) (S := fun w' => w'.cell? (ad589.add (x6_2).toNat) = some (.int .i64 (rd t574 x6_2)) ∧ w'.cell? (ad590.add ((rd t574 x6_2)).toNat) = some (.bool false) ∧ w'.cell? (ad589.add (x6_2).toNat) = some (.int .i64 (rd t574 x6_2)) ∧ w'.cell? (ad589.add ((ji45)).toNat) = some (.int .i64 (rd t574 (ji45)))) (ds := []) #[false, false, false, false, false, false, false, false, false, false, false, false, false, false, false, false, false, false, false, false, false, false, false] (by kernel_rfl) rfl rfl ⟨hx589_0, hx590_0, hx591_0, hx592_0⟩ (fun hHeld => ?_); refine with_tabW laws_FnGarbageOf.tab11 laws_FnGarbageOf.bits11 (fun HT_ HW_ => ?_)
                generalize wr.drew = w50 at HO_4 HO_5 HO_574000 HO_574001 HO_574002 BK573 HB hx589_0 hx590_0 hx591_0 hx592_0 hHeld ⊢
                refine pure_ (i := 0) (N := some 41) (v := ?_) (a' := ?_) #[true, false, false, false, false, false, false, false, false, false, false, false, false, false, false, false, false, false, false, false, false, false, false] rfl rfl (any_of HT_.out (by kernel_rfl)) (fun _ _ _ h => h) (Or.inl ⟨by rfl, ?_⟩) ?_ ?_
                rotate_left
                ·intro w'
                 go_simp
                 with_reducible rfl
                rotate_left
                ·simp only [Act.put, List.setIfInBounds_toArray, List.set_cons_zero, List.set_cons_succ, i64_w, i32_w]
                 rfl
                refine pure_ (i := 1) (N := some 42) (v := ?_) (a' := ?_) #[true, true, false, false, false, false, false, false, false, false, false, false, false, false, false, false, false, false, false, false, false, false, false] rfl rfl (any_of HT_.out (by kernel_rfl)) (fun _ _ _ h => h) (Or.inl ⟨by rfl, ?_⟩) ?_ ?_
                rotate_left
                ·intro w'
                 go_simp
                 with_reducible rfl
                rotate_left
                ·simp only [Act.put, List.setIfInBounds_toArray, List.set_cons_zero, List.set_cons_succ, i64_w, i32_w]
                 rfl
                refine pure_ (i := 2) (N := some 43) (v := ?_) (a' := ?_) #[true, true, true, false, false, false, false, false, false, false, false, false, false, false, false, false, false, false, false, false, false, false, false] rfl rfl (any_of HT_.out (by kernel_rfl)) (fun _ _ _ h => h) (Or.inl ⟨by rfl, ?_⟩) ?_ ?_
                rotate_left
                ·intro w'
                 go_simp
                 with_reducible rfl
                rotate_left
                ·simp only [Act.put, List.setIfInBounds_toArray, List.set_cons_zero, List.set_cons_succ, i64_w, i32_w]
                 rfl
                refine pure_ (i := 3) (N := some 44) (v := ?_) (a' := ?_) #[true, true, true, true, false, false, false, false, false, false, false, false, false, false, false, false, false, false, false, false, false, false, false] rfl rfl (any_of HT_.out (by kernel_rfl)) (fun _ _ _ h => h) (Or.inl ⟨by rfl, ?_⟩) ?_ ?_
                rotate_left
                ·intro w'
                 go_simp
                 with_reducible rfl
                rotate_left
                ·simp only [Act.put, List.setIfInBounds_toArray, List.set_cons_zero, List.set_cons_succ, i64_w, i32_w]
                 rfl
                refine take_ (i := 4) (N := some 45) (v := ?_) (a' := ?_) #[true, true, true, true, true, false, false, false, false, false, false, false, false, false, false, false, false, false, false, false, false, false, false] rfl rfl (take_ofW HT_.out HW_.out (by kernel_rfl)) (fun _ _ _ h => h) (Or.inl ⟨by rfl, ?_⟩) hHeld ?_ ?_
                rotate_left
                ·rintro w' ⟨s0, s1, s2, s3⟩
                 go_simp
                 with_reducible rfl
                rotate_left
                ·simp only [Act.put, List.setIfInBounds_toArray, List.set_cons_zero, List.set_cons_succ, i64_w, i32_w]
                 rfl
                refine pure_ (i := 5) (N := some 46) (v := ?_) (a' := ?_) #[true, true, true, true, true, true, false, false, false, false, false, false, false, false, false, false, false, false, false, false, false, false, false] rfl rfl (any_of HT_.out (by kernel_rfl)) (fun _ _ _ h => h) (Or.inl ⟨by rfl, ?_⟩) ?_ ?_
                rotate_left
                ·intro w'
                 go_simp
                 with_reducible rfl
                rotate_left
                ·simp only [Act.put, List.setIfInBounds_toArray, List.set_cons_zero, List.set_cons_succ, i64_w, i32_w]
                 rfl
                refine take_ (i := 6) (N := some 47) (v := ?_) (a' := ?_) #[true, true, true, true, true, true, true, false, false, false, false, false, false, false, false, false, false, false, false, false, false, false, false] rfl rfl (take_ofW HT_.out HW_.out (by kernel_rfl)) (fun _ _ _ h => h) (Or.inl ⟨by rfl, ?_⟩) hHeld ?_ ?_
                rotate_left
                ·rintro w' ⟨s0, s1, s2, s3⟩
                 go_simp
                 with_reducible rfl
                rotate_left
                ·simp only [Act.put, List.setIfInBounds_toArray, List.set_cons_zero, List.set_cons_succ, i64_w, i32_w]
                 rfl
                refine pure_ (i := 7) (N := some 48) (v := ?_) (a' := ?_) #[true, true, true, true, true, true, true, true, false, false, false, false, false, false, false, false, false, false, false, false, false, false, false] rfl rfl (any_of HT_.out (by kernel_rfl)) (fun _ _ _ h => h) (Or.inl ⟨by rfl, ?_⟩) ?_ ?_
                rotate_left
                ·intro w'
                 go_simp
                 with_reducible rfl
                rotate_left
                ·simp only [Act.put, List.setIfInBounds_toArray, List.set_cons_zero, List.set_cons_succ, i64_w, i32_w]
                 rfl
                refine pure_ (i := 8) (N := some 49) (v := ?_) (a' := ?_) #[true, true, true, true, true, true, true, true, true, false, false, false, false, false, false, false, false, false, false, false, false, false, false] rfl rfl (any_of HT_.out (by kernel_rfl)) (fun _ _ _ h => h) (Or.inl ⟨by rfl, ?_⟩) ?_ ?_
                rotate_left
                ·intro w'
                 go_simp
                 with_reducible rfl
                rotate_left
                ·simp only [Act.put, List.setIfInBounds_toArray, List.set_cons_zero, List.set_cons_succ, i64_w, i32_w]
                 rfl
                refine pure_ (i := 9) (N := some 50) (v := ?_) (a' := ?_) #[true, true, true, true, true, true, true, true, true, true, false, false, false, false, false, false, false, false, false, false, false, false, false] rfl rfl (any_of HT_.out (by kernel_rfl)) (fun _ _ _ h => h) (Or.inl ⟨by rfl, ?_⟩) ?_ ?_
                rotate_left
                ·intro w'
                 go_simp
                 with_reducible rfl
                rotate_left
                ·simp only [Act.put, List.setIfInBounds_toArray, List.set_cons_zero, List.set_cons_succ, i64_w, i32_w]
                 rfl
                refine pure_ (i := 10) (N := some 51) (v := ?_) (a' := ?_) #[true, true, true, true, true, true, true, true, true, true, true, false, false, false, false, false, false, false, false, false, false, false, false] rfl rfl (any_of HT_.out (by kernel_rfl)) (fun _ _ _ h => h) (Or.inl ⟨by rfl, ?_⟩) ?_ ?_
                rotate_left
                ·intro w'
                 go_simp
                 with_reducible rfl
                rotate_left
                ·simp only [Act.put, List.setIfInBounds_toArray, List.set_cons_zero, List.set_cons_succ, i64_w, i32_w]
                 rfl
                refine pure_ (i := 11) (N := some 52) (v := ?_) (a' := ?_) #[true, true, true, true, true, true, true, true, true, true, true, true, false, false, false, false, false, false, false, false, false, false, false] rfl rfl (any_of HT_.out (by kernel_rfl)) (fun _ _ _ h => h) (Or.inl ⟨by rfl, ?_⟩) ?_ ?_
                rotate_left
                ·intro w'
                 go_simp
                 with_reducible rfl
                rotate_left
                ·simp only [Act.put, List.setIfInBounds_toArray, List.set_cons_zero, List.set_cons_succ, i64_w, i32_w]
                 rfl
                refine pure_ (i := 12) (N := some 53) (v := ?_) (a' := ?_) #[true, true, true, true, true, true, true, true, true, true, true, true, true, false, false, false, false, false, false, false, false, false, false] rfl rfl (any_of HT_.out (by kernel_rfl)) (fun _ _ _ h => h) (Or.inl ⟨by rfl, ?_⟩) ?_ ?_
                rotate_left
                ·intro w'
                 go_simp
                 with_reducible rfl
                rotate_left
                ·simp only [Act.put, List.setIfInBounds_toArray, List.set_cons_zero, List.set_cons_succ, i64_w, i32_w]
                 rfl
                refine pure_ (i := 13) (N := some 54) (v := ?_) (a' := ?_) #[true, true, true, true, true, true, true, true, true, true, true, true, true, true, false, false, false, false, false, false, false, false, false] rfl rfl (any_of HT_.out (by kernel_rfl)) (fun _ _ _ h => h) (Or.inl ⟨by rfl, ?_⟩) ?_ ?_
                rotate_left
                ·intro w'
                 go_simp
                 with_reducible rfl
                rotate_left
                ·simp only [Act.put, List.setIfInBounds_toArray, List.set_cons_zero, List.set_cons_succ, i64_w, i32_w]
                 rfl
                refine pure_ (i := 15) (N := some 56) (v := ?_) (a' := ?_) #[true, true, true, true, true, true, true, true, true, true, true, true, true, true, false, true, false, false, false, false, false, false, false] rfl rfl (any_of HT_.out (by kernel_rfl)) (fun _ _ _ h => h) (Or.inl ⟨by rfl, ?_⟩) ?_ ?_
                rotate_left
                ·intro w'
                 go_simp
                 with_reducible rfl
                rotate_left
                ·simp only [Act.put, List.setIfInBounds_toArray, List.set_cons_zero, List.set_cons_succ, i64_w, i32_w]
                 rfl
                refine pure_ (i := 16) (N := some 57) (v := ?_) (a' := ?_) #[true, true, true, true, true, true, true, true, true, true, true, true, true, true, false, true, true, false, false, false, false, false, false] rfl rfl (any_of HT_.out (by kernel_rfl)) (fun _ _ _ h => h) (Or.inl ⟨by rfl, ?_⟩) ?_ ?_
                rotate_left
                ·intro w'
                 go_simp
                 with_reducible rfl
                rotate_left
                ·simp only [Act.put, List.setIfInBounds_toArray, List.set_cons_zero, List.set_cons_succ, i64_w, i32_w]
                 rfl
                refine pure_ (i := 17) (N := some 58) (v := ?_) (a' := ?_) #[true, true, true, true, true, true, true, true, true, true, true, true, true, true, false, true, true, true, false, false, false, false, false] rfl rfl (any_of HT_.out (by kernel_rfl)) (fun _ _ _ h => h) (Or.inl ⟨by rfl, ?_⟩) ?_ ?_
                rotate_left
                ·intro w'
                 go_simp
                 with_reducible rfl
                rotate_left
                ·simp only [Act.put, List.setIfInBounds_toArray, List.set_cons_zero, List.set_cons_succ, i64_w, i32_w]
                 rfl
                refine pure_ (i := 18) (N := some 59) (v := ?_) (a' := ?_) #[true, true, true, true, true, true, true, true, true, true, true, true, true, true, false, true, true, true, true, false, false, false, false] rfl rfl (any_of HT_.out (by kernel_rfl)) (fun _ _ _ h => h) (Or.inl ⟨by rfl, ?_⟩) ?_ ?_
                rotate_left
                ·intro w'
                 go_simp
                 with_reducible rfl
                rotate_left
                ·simp only [Act.put, List.setIfInBounds_toArray, List.set_cons_zero, List.set_cons_succ, i64_w, i32_w]
                 rfl
                refine take_ (i := 14) (N := some 55) (v := ?_) (a' := ?_) #[true, true, true, true, true, true, true, true, true, true, true, true, true, true, true, true, true, true, true, false, false, false, false] rfl rfl (take_ofW HT_.out HW_.out (by kernel_rfl)) (fun _ _ _ h => h) (Or.inl ⟨by rfl, ?_⟩) hHeld ?_ ?_
                rotate_left
                ·rintro w' ⟨s0, s1, s2, s3⟩
                 go_simp
                 with_reducible rfl
                rotate_left
                ·simp only [Act.put, List.setIfInBounds_toArray, List.set_cons_zero, List.set_cons_succ, i64_w, i32_w]
                 rfl
                refine take_ (i := 19) (N := some 60) (v := ?_) (a' := ?_) #[true, true, true, true, true, true, true, true, true, true, true, true, true, true, true, true, true, true, true, true, false, false, false] rfl rfl (take_ofW HT_.out HW_.out (by kernel_rfl)) (fun _ _ _ h => h) (Or.inl ⟨by rfl, ?_⟩) hHeld ?_ ?_
                rotate_left
                ·rintro w' ⟨s0, s1, s2, s3⟩
                 go_simp
                 with_reducible rfl
                rotate_left
                ·simp only [Act.put, List.setIfInBounds_toArray, List.set_cons_zero, List.set_cons_succ, i64_w, i32_w]
                 rfl
                refine pure_ (i := 20) (N := some 61) (v := ?_) (a' := ?_) #[true, true, true, true, true, true, true, true, true, true, true, true, true, true, true, true, true, true, true, true, true, false, false] rfl rfl (any_of HT_.out (by kernel_rfl)) (fun _ _ _ h => h) (Or.inl ⟨by rfl, ?_⟩) ?_ ?_
                rotate_left
                ·intro w'
                 go_simp
                 with_reducible rfl
                rotate_left
                ·simp only [Act.put, List.setIfInBounds_toArray, List.set_cons_zero, List.set_cons_succ, i64_w, i32_w]
                 rfl
                refine pure_ (i := 21) (N := some 62) (v := ?_) (a' := ?_) #[true, true, true, true, true, true, true, true, true, true, true, true, true, true, true, true, true, true, true, true, true, true, false] rfl rfl (any_of HT_.out (by kernel_rfl)) (fun _ _ _ h => h) (Or.inl ⟨by rfl, ?_⟩) ?_ ?_
                rotate_left
                ·intro w'
                 go_simp
                 with_reducible rfl
                rotate_left
                ·simp only [Act.put, List.setIfInBounds_toArray, List.set_cons_zero, List.set_cons_succ, i64_w, i32_w]
                 rfl
                refine pure_ (i := 22) (N := some 63) (v := ?_) (a' := ?_) #[true, true, true, true, true, true, true, true, true, true, true, true, true, true, true, true, true, true, true, true, true, true, true] rfl rfl (any_of HT_.out (by kernel_rfl)) (fun _ _ _ h => h) (Or.inl ⟨by rfl, ?_⟩) ?_ ?_
                rotate_left
                ·intro w'
                 go_simp
                 with_reducible rfl
                rotate_left
                ·simp only [Act.put, List.setIfInBounds_toArray, List.set_cons_zero, List.set_cons_succ, i64_w, i32_w]
                 rfl
                refine done_ (done_of HT_.out (by kernel_rfl)) ?_
                try go_wp2
                go_roundg k2
                case measure => have := HJ4.out; have := HK2.out; omega
                case rel => exact ⟨(wrap64 (x6_2 + 1)), (by first | rfl | (simp; done) | (simp [*]; done)), H', ⟨by have := HJ4.out; have := HK2.out; omega⟩, ⟨rl HO_4.out⟩, ⟨rl HO_5.out⟩, ⟨rl HO_574000.out⟩, ⟨rl HO_574001.out⟩, ⟨rl HO_574002.out⟩, ⟨kl BK573.out⟩, ⟨by exact bs1 GE573.out HB.out⟩⟩
              ·rw [if_neg c47] at H
               exact absurd H (by simp)
             ·rw [if_neg c46] at H
              exact absurd H (by simp)
            ·rw [if_neg c44] at H
             have c44b0 : decide (0 < x6_2) = false := decide_eq_false c44
             clear c44
             have H' := am H
             clear H
             obtain ⟨Ao52, co52, eo52⟩ := Kd.R_slice HO_4.out
             subst eo52
             try go_wp2
             replace HO_4 := am (Kd.R_drew HO_4.out)
             replace HO_5 := am (Kd.R_drew HO_5.out)
             replace HO_574000 := am (Kd.R_drew HO_574000.out)
             replace HO_574001 := am (Kd.R_drew HO_574001.out)
             replace HO_574002 := am (Kd.R_drew HO_574002.out)
             replace BK573 := am (blk_drew BK573.out)
             replace HB := am (below_drew1 HB.out)
             have p589 : 0 ≤ (x6_2 : Int) := of_decide_eq_true (by first | (with_reducible assumption) | assumption)
             have q589 : x6_2 < (t574.length : Int) := of_decide_eq_true (by first | (with_reducible assumption) | assumption)
             obtain ⟨ad589, e589, hx589_0⟩ := Kd.at_int (Kd.R_reads' HO_4.out).2.2 x6_2 p589 q589
             cases e589
             replace p589 := eq_true p589
             replace q589 := eq_true q589
             obtain ⟨Ao54, co54, eo54⟩ := Kd.R_slice HO_5.out
             (first | subst eo54 | (injection eo54 with f1_ f2_ f3_; have f4_ := f1_.symm; have f5_ := f3_.symm; clear f1_ f2_ f3_; subst f4_; subst f5_))
             have p590 : 0 ≤ ((rd t574 x6_2) : Int) := of_decide_eq_true (by first | (with_reducible assumption) | assumption)
             have q590 : (rd t574 x6_2) < (t586.length : Int) := of_decide_eq_true (by first | (with_reducible assumption) | assumption)
             obtain ⟨ad590, e590, hx590_0⟩ := Kd.at_bool (Kd.R_reads' HO_5.out).2.2 (rd t574 x6_2) p590 q590
             (try rw [← Nbq42.out] at hx590_0)
             cases e590
             replace p590 := eq_true p590
             replace q590 := eq_true q590
             refine start_ (n := 23) (S := fun w' => w'.cell? (ad589.add (x6_2).toNat) = some (.int .i64 (rd t574 x6_2)) ∧ w'.cell? (ad590.add ((rd t574 x6_2)).toNat) = some (.bool false)) (ds := []) #[false, false, false, false, false, false, false, false, false, false, false, false, false, false, false, false, false, false, false, false, false, false, false] (by kernel_rfl) rfl rfl ⟨hx589_0, hx590_0⟩ (fun hHeld => ?_); refine with_tabW laws_FnGarbageOf.tab11 laws_FnGarbageOf.bits11 (fun HT_ HW_ => ?_)
             generalize wr.drew = w53 at HO_4 HO_5 HO_574000 HO_574001 HO_574002 BK573 HB hx589_0 hx590_0 hHeld ⊢
             refine pure_ (i := 0) (N := some 41) (v := ?_) (a' := ?_) #[true, false, false, false, false, false, false, false, false, false, false, false, false, false, false, false, false, false, false, false, false, false, false] rfl rfl (any_of HT_.out (by kernel_rfl)) (fun _ _ _ h => h) (Or.inl ⟨by rfl, ?_⟩) ?_ ?_
             rotate_left
             ·intro w'
              go_simp
              with_reducible rfl
             rotate_left
             ·simp only [Act.put, List.setIfInBounds_toArray, List.set_cons_zero, List.set_cons_succ, i64_w, i32_w]
              rfl
             refine pure_ (i := 1) (N := some 42) (v := ?_) (a' := ?_) #[true, true, false, false, false, false, false, false, false, false, false, false, false, false, false, false, false, false, false, false, false, false, false] rfl rfl (any_of HT_.out (by kernel_rfl)) (fun _ _ _ h => h) (Or.inl ⟨by rfl, ?_⟩) ?_ ?_
             rotate_left
             ·intro w'
              go_simp
              with_reducible rfl
             rotate_left
             ·simp only [Act.put, List.setIfInBounds_toArray, List.set_cons_zero, List.set_cons_succ, i64_w, i32_w]
              rfl
             refine pure_ (i := 2) (N := some 43) (v := ?_) (a' := ?_) #[true, true, true, false, false, false, false, false, false, false, false, false, false, false, false, false, false, false, false, false, false, false, false] rfl rfl (any_of HT_.out (by kernel_rfl)) (fun _ _ _ h => h) (Or.inl ⟨by rfl, ?_⟩) ?_ ?_
             rotate_left
             ·intro w'
              go_simp
              with_reducible rfl
             rotate_left
             ·simp only [Act.put, List.setIfInBounds_toArray, List.set_cons_zero, List.set_cons_succ, i64_w, i32_w]
              rfl
             refine pure_ (i := 3) (N := some 44) (v := ?_) (a' := ?_) #[true, true, true, true, false, false, false, false, false, false, false, false, false, false, false, false, false, false, false, false, false, false, false] rfl rfl (any_of HT_.out (by kernel_rfl)) (fun _ _ _ h => h) (Or.inl ⟨by rfl, ?_⟩) ?_ ?_
             rotate_left
             ·intro w'
              go_simp
              with_reducible rfl
             rotate_left
             ·simp only [Act.put, List.setIfInBounds_toArray, List.set_cons_zero, List.set_cons_succ, i64_w, i32_w]
              rfl
             refine take_ (i := 4) (N := some 45) (v := ?_) (a' := ?_) #[true, true, true, true, true, false, false, false, false, false, false, false, false, false, false, false, false, false, false, false, false, false, false] rfl rfl (take_ofW HT_.out HW_.out (by kernel_rfl)) (fun _ _ _ h => h) (Or.inl ⟨by rfl, ?_⟩) hHeld ?_ ?_
             rotate_left
             ·rintro w' ⟨s0, s1⟩
              go_simp
              with_reducible rfl
             rotate_left
             ·simp only [Act.put, List.setIfInBounds_toArray, List.set_cons_zero, List.set_cons_succ, i64_w, i32_w]
              rfl
             refine pure_ (i := 5) (N := some 46) (v := ?_) (a' := ?_) #[true, true, true, true, true, true, false, false, false, false, false, false, false, false, false, false, false, false, false, false, false, false, false] rfl rfl (any_of HT_.out (by kernel_rfl)) (fun _ _ _ h => h) (Or.inl ⟨by rfl, ?_⟩) ?_ ?_
             rotate_left
             ·intro w'
              go_simp
              with_reducible rfl
             rotate_left
             ·simp only [Act.put, List.setIfInBounds_toArray, List.set_cons_zero, List.set_cons_succ, i64_w, i32_w]
              rfl
             refine take_ (i := 6) (N := some 47) (v := ?_) (a' := ?_) #[true, true, true, true, true, true, true, false, false, false, false, false, false, false, false, false, false, false, false, false, false, false, false] rfl rfl (take_ofW HT_.out HW_.out (by kernel_rfl)) (fun _ _ _ h => h) (Or.inl ⟨by rfl, ?_⟩) hHeld ?_ ?_
             rotate_left
             ·rintro w' ⟨s0, s1⟩
              go_simp
              with_reducible rfl
             rotate_left
             ·simp only [Act.put, List.setIfInBounds_toArray, List.set_cons_zero, List.set_cons_succ, i64_w, i32_w]
              rfl
             refine pure_ (i := 7) (N := some 48) (v := ?_) (a' := ?_) #[true, true, true, true, true, true, true, true, false, false, false, false, false, false, false, false, false, false, false, false, false, false, false] rfl rfl (any_of HT_.out (by kernel_rfl)) (fun _ _ _ h => h) (Or.inl ⟨by rfl, ?_⟩) ?_ ?_
             rotate_left
             ·intro w'
              go_simp
              with_reducible rfl
             rotate_left
             ·simp only [Act.put, List.setIfInBounds_toArray, List.set_cons_zero, List.set_cons_succ, i64_w, i32_w]
              rfl
             refine pure_ (i := 8) (N := some 49) (v := ?_) (a' := ?_) #[true, true, true, true, true, true, true, true, true, false, false, false, false, false, false, false, false, false, false, false, false, false, false] rfl rfl (any_of HT_.out (by kernel_rfl)) (fun _ _ _ h => h) (Or.inl ⟨by rfl, ?_⟩) ?_ ?_
             rotate_left
             ·intro w'
              go_simp
              with_reducible rfl
             rotate_left
             ·simp only [Act.put, List.setIfInBounds_toArray, List.set_cons_zero, List.set_cons_succ, i64_w, i32_w]
              rfl
             refine pure_ (i := 9) (N := some 50) (v := ?_) (a' := ?_) #[true, true, true, true, true, true, true, true, true, true, false, false, false, false, false, false, false, false, false, false, false, false, false] rfl rfl (any_of HT_.out (by kernel_rfl)) (fun _ _ _ h => h) (Or.inl ⟨by rfl, ?_⟩) ?_ ?_
             rotate_left
             ·intro w'
              go_simp
              with_reducible rfl
             rotate_left
             ·simp only [Act.put, List.setIfInBounds_toArray, List.set_cons_zero, List.set_cons_succ, i64_w, i32_w]
              rfl
             refine pure_ (i := 10) (N := some 51) (v := ?_) (a' := ?_) #[true, true, true, true, true, true, true, true, true, true, true, false, false, false, false, false, false, false, false, false, false, false, false] rfl rfl (any_of HT_.out (by kernel_rfl)) (fun _ _ _ h => h) (Or.inl ⟨by rfl, ?_⟩) ?_ ?_
             rotate_left
             ·intro w'
              go_simp
              with_reducible rfl
             rotate_left
             ·simp only [Act.put, List.setIfInBounds_toArray, List.set_cons_zero, List.set_cons_succ, i64_w, i32_w]
              rfl
             refine pure_ (i := 11) (N := some 52) (v := undef) (a' := ?_) #[true, true, true, true, true, true, true, true, true, true, true, true, false, false, false, false, false, false, false, false, false, false, false] rfl rfl (any_of HT_.out (by kernel_rfl)) (fun _ _ _ h => h) (Or.inr ⟨by rfl, rfl⟩) ?_ ?_
             rotate_left
             ·simp only [Act.put, List.setIfInBounds_toArray, List.set_cons_zero, List.set_cons_succ, i64_w, i32_w]
              rfl
             refine pure_ (i := 12) (N := some 53) (v := undef) (a' := ?_) #[true, true, true, true, true, true, true, true, true, true, true, true, true, false, false, false, false, false, false, false, false, false, false] rfl rfl (any_of HT_.out (by kernel_rfl)) (fun _ _ _ h => h) (Or.inr ⟨by rfl, rfl⟩) ?_ ?_
             rotate_left
             ·simp only [Act.put, List.setIfInBounds_toArray, List.set_cons_zero, List.set_cons_succ, i64_w, i32_w]
              rfl
             refine pure_ (i := 13) (N := some 54) (v := undef) (a' := ?_) #[true, true, true, true, true, true, true, true, true, true, true, true, true, true, false, false, false, false, false, false, false, false, false] rfl rfl (any_of HT_.out (by kernel_rfl)) (fun _ _ _ h => h) (Or.inr ⟨by rfl, rfl⟩) ?_ ?_
             rotate_left
             ·simp only [Act.put, List.setIfInBounds_toArray, List.set_cons_zero, List.set_cons_succ, i64_w, i32_w]
              rfl
             refine pure_ (i := 14) (N := some 55) (v := undef) (a' := ?_) #[true, true, true, true, true, true, true, true, true, true, true, true, true, true, true, false, false, false, false, false, false, false, false] rfl rfl (any_of HT_.out (by kernel_rfl)) (fun _ _ _ h => h) (Or.inr ⟨by rfl, rfl⟩) ?_ ?_
             rotate_left
             ·simp only [Act.put, List.setIfInBounds_toArray, List.set_cons_zero, List.set_cons_succ, i64_w, i32_w]
              rfl
             refine pure_ (i := 15) (N := some 56) (v := undef) (a' := ?_) #[true, true, true, true, true, true, true, true, true, true, true, true, true, true, true, true, false, false, false, false, false, false, false] rfl rfl (any_of HT_.out (by kernel_rfl)) (fun _ _ _ h => h) (Or.inr ⟨by rfl, rfl⟩) ?_ ?_
             rotate_left
             ·simp only [Act.put, List.setIfInBounds_toArray, List.set_cons_zero, List.set_cons_succ, i64_w, i32_w]
              rfl
             refine pure_ (i := 16) (N := some 57) (v := undef) (a' := ?_) #[true, true, true, true, true, true, true, true, true, true, true, true, true, true, true, true, true, false, false, false, false, false, false] rfl rfl (any_of HT_.out (by kernel_rfl)) (fun _ _ _ h => h) (Or.inr ⟨by rfl, rfl⟩) ?_ ?_
             rotate_left
             ·simp only [Act.put, List.setIfInBounds_toArray, List.set_cons_zero, List.set_cons_succ, i64_w, i32_w]
              rfl
             refine pure_ (i := 17) (N := some 58) (v := undef) (a' := ?_) #[true, true, true, true, true, true, true, true, true, true, true, true, true, true, true, true, true, true, false, false, false, false, false] rfl rfl (any_of HT_.out (by kernel_rfl)) (fun _ _ _ h => h) (Or.inr ⟨by rfl, rfl⟩) ?_ ?_
             rotate_left
             ·simp only [Act.put, List.setIfInBounds_toArray, List.set_cons_zero, List.set_cons_succ, i64_w, i32_w]
              rfl
             refine pure_ (i := 18) (N := some 59) (v := undef) (a' := ?_) #[true, true, true, true, true, true, true, true, true, true, true, true, true, true, true, true, true, true, true, false, false, false, false] rfl rfl (any_of HT_.out (by kernel_rfl)) (fun _ _ _ h => h) (Or.inr ⟨by rfl, rfl⟩) ?_ ?_
             rotate_left
             ·simp only [Act.put, List.setIfInBounds_toArray, List.set_cons_zero, List.set_cons_succ, i64_w, i32_w]
              rfl
             refine pure_ (i := 19) (N := some 60) (v := undef) (a' := ?_) #[true, true, true, true, true, true, true, true, true, true, true, true, true, true, true, true, true, true, true, true, false, false, false] rfl rfl (any_of HT_.out (by kernel_rfl)) (fun _ _ _ h => h) (Or.inr ⟨by rfl, rfl⟩) ?_ ?_
             rotate_left
             ·simp only [Act.put, List.setIfInBounds_toArray, List.set_cons_zero, List.set_cons_succ, i64_w, i32_w]
              rfl
             refine pure_ (i := 20) (N := some 61) (v := undef) (a' := ?_) #[true, true, true, true, true, true, true, true, true, true, true, true, true, true, true, true, true, true, true, true, true, false, false] rfl rfl (any_of HT_.out (by kernel_rfl)) (fun _ _ _ h => h) (Or.inr ⟨by rfl, rfl⟩) ?_ ?_
             rotate_left
             ·simp only [Act.put, List.setIfInBounds_toArray, List.set_cons_zero, List.set_cons_succ, i64_w, i32_w]
              rfl
             refine pure_ (i := 21) (N := some 62) (v := ?_) (a' := ?_) #[true, true, true, true, true, true, true, true, true, true, true, true, true, true, true, true, true, true, true, true, true, true, false] rfl rfl (any_of HT_.out (by kernel_rfl)) (fun _ _ _ h => h) (Or.inl ⟨by rfl, ?_⟩) ?_ ?_
             rotate_left
             ·intro w'
              go_simp
              with_reducible rfl
             rotate_left
             ·simp only [Act.put, List.setIfInBounds_toArray, List.set_cons_zero, List.set_cons_succ, i64_w, i32_w]
              rfl
             refine pure_ (i := 22) (N := some 63) (v := ?_) (a' := ?_) #[true, true, true, true, true, true, true, true, true, true, true, true, true, true, true, true, true, true, true, true, true, true, true] rfl rfl (any_of HT_.out (by kernel_rfl)) (fun _ _ _ h => h) (Or.inl ⟨by rfl, ?_⟩) ?_ ?_
             rotate_left
             ·intro w'
              go_simp
              with_reducible rfl
             rotate_left
             ·simp only [Act.put, List.setIfInBounds_toArray, List.set_cons_zero, List.set_cons_succ, i64_w, i32_w]
              rfl
             refine done_ (done_of HT_.out (by kernel_rfl)) ?_
             try go_wp2
             go_roundg k2
             case measure => have := HJ4.out; have := HK2.out; omega
             case rel => exact ⟨(wrap64 (x6_2 + 1)), (by first | rfl | (simp; done) | (simp [*]; done)), H', ⟨by have := HJ4.out; have := HK2.out; omega⟩, ⟨rl HO_4.out⟩, ⟨rl HO_5.out⟩, ⟨rl HO_574000.out⟩, ⟨rl HO_574001.out⟩, ⟨rl HO_574002.out⟩, ⟨kl BK573.out⟩, ⟨by exact bs1 GE573.out HB.out⟩⟩
          ·rw [if_neg c41] at H
           exact absurd H (by simp)
         ·rw [if_neg c40] at H
          exact absurd H (by simp)
        ·rw [if_neg c39] at H
         exact absurd H (by simp)
       ·rw [if_neg c38] at H
        have c38b0 : decide (x6_2 < (t574.length : Int)) = false := decide_eq_false c38
        clear c38
        replace H := Option.bind_eq_some_iff.mp H
        obtain ⟨t593, A550, H⟩ := H
        replace H : (some ((wrap64 ((t574.length : Int) + t593)) == (t564.length : Int))) = some r := H
        have A55 := am A550
        clear A550
        obtain rfl := Option.some.inj H
        obtain ⟨Ao56, co56, eo56⟩ := Kd.R_slice HO_4.out
        subst eo56
        try go_wp2
        replace HO_4 := am (Kd.R_drew HO_4.out)
        replace HO_5 := am (Kd.R_drew HO_5.out)
        replace HO_574000 := am (Kd.R_drew HO_574000.out)
        replace HO_574001 := am (Kd.R_drew HO_574001.out)
        replace HO_574002 := am (Kd.R_drew HO_574002.out)
        replace BK573 := am (blk_drew BK573.out)
        replace HB := am (below_drew1 HB.out)
        refine start_ (n := 10) (S := fun w' => w'.cell? ⟨gb573, 0, none⟩ = some (.slice Ao8 t564.length co8) ∧ w'.cell? ⟨gb573, 1, none⟩ = some (.slice Ao10 t567.length co10) ∧ w'.cell? ⟨gb573, 2, none⟩ = some (.slice Ao11 t570.length co11)) (ds := []) #[false, false, false, false, false, false, false, false, false, false] (by kernel_rfl) rfl rfl ⟨(blk_cell BK573.out 0).trans rfl, (blk_cell BK573.out 1).trans rfl, (blk_cell BK573.out 2).trans rfl⟩ (fun hHeld => ?_); refine with_tabW laws_FnGarbageOf.tab13 laws_FnGarbageOf.bits13 (fun HT_ HW_ => ?_)
        generalize wr.drew = w57 at HO_4 HO_5 HO_574000 HO_574001 HO_574002 BK573 HB hHeld ⊢
        refine pure_ (i := 0) (N := some 64) (v := ?_) (a' := ?_) #[true, false, false, false, false, false, false, false, false, false] rfl rfl (any_of HT_.out (by kernel_rfl)) (fun _ _ _ h => h) (Or.inl ⟨by rfl, ?_⟩) ?_ ?_
        rotate_left
        ·intro w'
         go_simp
         with_reducible rfl
        rotate_left
        ·simp only [Act.put, List.setIfInBounds_toArray, List.set_cons_zero, List.set_cons_succ, i64_w, i32_w]
         rfl
        refine pure_ (i := 1) (N := some 65) (v := ?_) (a' := ?_) #[true, true, false, false, false, false, false, false, false, false] rfl rfl (any_of HT_.out (by kernel_rfl)) (fun _ _ _ h => h) (Or.inl ⟨by rfl, ?_⟩) ?_ ?_
        rotate_left
        ·intro w'
         go_simp
         with_reducible rfl
        rotate_left
        ·simp only [Act.put, List.setIfInBounds_toArray, List.set_cons_zero, List.set_cons_succ, i64_w, i32_w]
         rfl
        refine pure_ (i := 5) (N := some 69) (v := ?_) (a' := ?_) #[true, true, false, false, false, true, false, false, false, false] rfl rfl (any_of HT_.out (by kernel_rfl)) (fun _ _ _ h => h) (Or.inl ⟨by rfl, ?_⟩) ?_ ?_
        rotate_left
        ·intro w'
         go_simp
         with_reducible rfl
        rotate_left
        ·simp only [Act.put, List.setIfInBounds_toArray, List.set_cons_zero, List.set_cons_succ, i64_w, i32_w]
         rfl
        refine take_ (i := 2) (N := some 66) (v := ?_) (a' := ?_) #[true, true, true, false, false, true, false, false, false, false] rfl rfl (take_ofW HT_.out HW_.out (by kernel_rfl)) (fun _ _ _ h => h) (Or.inl ⟨by rfl, ?_⟩) hHeld ?_ ?_
        rotate_left
        ·rintro w' ⟨s0, s1, s2⟩
         go_simp
         with_reducible rfl
        rotate_left
        ·simp only [Act.put, List.setIfInBounds_toArray, List.set_cons_zero, List.set_cons_succ, i64_w, i32_w]
         rfl
        refine take_ (i := 6) (N := some 70) (v := ?_) (a' := ?_) #[true, true, true, false, false, true, true, false, false, false] rfl rfl (take_ofW HT_.out HW_.out (by kernel_rfl)) (fun _ _ _ h => h) (Or.inl ⟨by rfl, ?_⟩) hHeld ?_ ?_
        rotate_left
        ·rintro w' ⟨s0, s1, s2⟩
         go_simp
         with_reducible rfl
        rotate_left
        ·simp only [Act.put, List.setIfInBounds_toArray, List.set_cons_zero, List.set_cons_succ, i64_w, i32_w]
         rfl
        refine pure_ (i := 7) (N := some 71) (v := ?_) (a' := ?_) #[true, true, true, false, false, true, true, true, false, false] rfl rfl (any_of HT_.out (by kernel_rfl)) (fun _ _ _ h => h) (Or.inl ⟨by rfl, ?_⟩) ?_ ?_
        rotate_left
        ·intro w'
         go_simp
         with_reducible rfl
        rotate_left
        ·simp only [Act.put, List.setIfInBounds_toArray, List.set_cons_zero, List.set_cons_succ, i64_w, i32_w]
         rfl
        refine one_ (i := 3) (N := some 67) #[true, true, true, true, false, true, true, true, false, false] rfl rfl (one_of HT_.out (by kernel_rfl)) (by decide) (fun K hK => ?_)
        refine goes_ Try.func24 (by kernel_rfl) rfl #[.agg #[.slice Ao8 t564.length co8, .slice Ao10 t567.length co10, .slice Ao11 t570.length co11]] (by rfl) rfl rfl (by (try simp only [List.map_toArray, List.map_cons, List.map_nil]); first | done | rfl | (simp only [List.length_drop, List.length_take]; rfl)) ?_
        with_reducible refine (impl_CountLive.calls k2 _ _ t564 _ _ t567 _ _ t570 t593 _ ?side1 ?side2 ?side3 ?side4 ?side5 ?side6 A55.out).mono ?_
        (case side1 => exact cl ((Kd.R_reads' HO_574000.out).2.2))
        (case side2 => exact (Kd.R_reads' HO_574000.out).2.1)
        (case side3 => exact cl ((Kd.R_reads' HO_574001.out).2.2))
        (case side4 => exact (Kd.R_reads' HO_574001.out).2.1)
        (case side5 => exact cl ((Kd.R_reads' HO_574002.out).2.2))
        (case side6 => exact (Kd.R_reads' HO_574002.out).2.1)
        rintro e w58 ⟨rfl, hb⟩
        refine ⟨_, rfl, ?_⟩
        replace HO_4 := am (Kd.R_below (rl HO_4.out) hb)
        replace HO_5 := am (Kd.R_below (rl HO_5.out) hb)
        replace HO_574000 := am (Kd.R_below (rl HO_574000.out) hb)
        replace HO_574001 := am (Kd.R_below (rl HO_574001.out) hb)
        replace HO_574002 := am (Kd.R_below (rl HO_574002.out) hb)
        replace BK573 := am (blk_below (g := gb573) (o := .cells #[.slice Ao8 t564.length co8, .slice Ao10 t567.length co10, .slice Ao11 t570.length co11] 25 (0, 0)) (kl BK573.out) hb)
        replace HB := am (below_step (bs1 GE573.out HB.out) hb)
        (try clear hb)
        (try clear hb2)
        (try clear hk)
        (try clear hi)
        refine hK.out _ _ ⟨(blk_cell BK573.out 0).trans rfl, (blk_cell BK573.out 1).trans rfl, (blk_cell BK573.out 2).trans rfl⟩ (fun hHeld => ?_)
        clear hK K
        refine norm_ (a' := ?_) ?_ ?_
        rotate_left
        ·show Act.put _ (some 67) _ = _
         simp only [Act.put, List.setIfInBounds_toArray, List.set_cons_zero, List.set_cons_succ, i64_w, i32_w]
         rfl
        refine pure_ (i := 4) (N := some 68) (v := ?_) (a' := ?_) #[true, true, true, true, true, true, true, true, false, false] rfl rfl (any_of HT_.out (by kernel_rfl)) (fun _ _ _ h => h) (Or.inl ⟨by rfl, ?_⟩) ?_ ?_
        rotate_left
        ·intro w'
         go_simp
         with_reducible rfl
        rotate_left
        ·simp only [Act.put, List.setIfInBounds_toArray, List.set_cons_zero, List.set_cons_succ, i64_w, i32_w]
         rfl
        refine pure_ (i := 8) (N := some 72) (v := ?_) (a' := ?_) #[true, true, true, true, true, true, true, true, true, false] rfl rfl (any_of HT_.out (by kernel_rfl)) (fun _ _ _ h => h) (Or.inl ⟨by rfl, ?_⟩) ?_ ?_
        rotate_left
        ·intro w'
         go_simp
         with_reducible rfl
        rotate_left
        ·simp only [Act.put, List.setIfInBounds_toArray, List.set_cons_zero, List.set_cons_succ, i64_w, i32_w]
         rfl
        refine pure_ (i := 9) (N := some 2) (v := ?_) (a' := ?_) #[true, true, true, true, true, true, true, true, true, true] rfl rfl (any_of HT_.out (by kernel_rfl)) (fun _ _ _ h => h) (Or.inl ⟨by rfl, ?_⟩) ?_ ?_
        rotate_left
        ·intro w'
         go_simp
         with_reducible rfl
        rotate_left
        ·simp only [Act.put, List.setIfInBounds_toArray, List.set_cons_zero, List.set_cons_succ, i64_w, i32_w]
         rfl
        refine done_ (done_of HT_.out (by kernel_rfl)) ?_
        try go_wp2
        go_ret
        exact ⟨by first | rfl | (simp [errW_none, errW_some] <;> rfl) | (simp [*, errW_none, errW_some] <;> rfl), by exact bs1 GE573.out HB.out⟩

/-- THE ONE PURE STATEMENT of laws_FnGarbageOf: yours. -/
def laws_FnGarbageOf.Pure : Prop := ∀ (l0 : List Int), l0.length ≤ maxLen → l0.length * 1 ≤ 140737488351232 → (∀ x ∈ l0, (Lit.int .u8 x).wf = true) → ∃ k, laws_FnGarbageOf.f k l0 = some true
theorem laws_FnGarbageOf.walk (P : laws_FnGarbageOf.Pure) (a0 : Option Addr) (len0 cap0 : Nat) (z0 : List Int) (w : World) (w0 : (a0 = none ∧ len0 = 0 ∧ cap0 = 0 ∧ z0 = []) ∨ ∃ x, a0 = some x ∧ len0 ≤ cap0 ∧ cap0 ≤ maxLen ∧ z0.length = cap0 ∧ (∀ i, i < z0.length → w.cell? (x.add i) = some (.int .u8 (z0.getD i 0))) ∧ ∀ n ∈ z0, (Lit.int .u8 n).wf = true) (y0 : len0 * 1 ≤ 140737488351232) :
  Calls Try.prog 5 #[.slice a0 len0 cap0] w fun e w' => e = .returned (.bool true) ∧ Below w.heap.size w w' := by
 obtain ⟨l0, rfl, hr0, hm0, hw0, hc0⟩ := ReadsInt.ofRowC w0
 obtain ⟨k, h⟩ := P l0 hm0 y0 hw0
 refine (laws_FnGarbageOf.calls k _ _ l0 true w (Kd.C_of_reads (d := (0 : Int)) (h1 := fun _ => rfl) hr0) hc0 h).mono ?_
 rintro e w' ⟨rfl, hd⟩
 exact ⟨rfl, hd⟩

end Go.Proofs.Ytghgpinhghhlgaa.A
