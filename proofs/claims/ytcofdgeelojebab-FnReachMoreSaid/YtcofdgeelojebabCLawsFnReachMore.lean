/- Contracts of functions of the given program (CLawsFnReachMore). No conditions beyond those stated. -/
import Derived.Test.YtcofdgeelojebabA0
import Derived.Test.YtcofdgeelojebabAImplHeapSame
import Derived.Test.YtcofdgeelojebabAImplPutLeft
import Derived.Test.YtcofdgeelojebabAImplReachable
import Derived.Test.YtcofdgeelojebabASpecDrawPutLeft
import Derived.Test.YtcofdgeelojebabASpecPutLeft
import Derived.Test.YtcofdgeelojebabA0
namespace Go.Proofs.Ytcofdgeelojebab.A
open Go.RowKit Go.Proofs.YtcofdgeelojebabW.PrintWords Go.Proofs.YtcofdgeelojebabW.PrintLast Go.Proofs.YtcofdgeelojebabW.PrintMore
attribute [local go_sem] max2_int min2_int max_two min_two max_three min_three max_four min_four   -- for this text's walks alone
set_option linter.unusedVariables false
set_option linter.unusedSimpArgs false

/-! ### laws_FnReachMore -/
mutual
def laws_FnReachMore.j0 : Nat → Bool → Bool → Bool → List Int → List Int → List Int → List Int → List Int → List Int → List Int → List Int → List Int → Option (Bool)
 | 0, _, _, _, _, _, _, _, _, _, _, _, _ => none
 | k + 1, x7, x9, x56, x971000, x971001, x971002, x982000, x982001, x982002, x993000, x993001, x993002 => if x56 = true then ((impl_HeapSame.f k x982000 x982001 x982002 x993000 x993001 x993002).bind fun t995 => (if t995 = true then (some (x7 == x9)) else (none))) else ((impl_Reachable.f k x971000 x971001 x971002).bind fun t996 => ((impl_Reachable.f k x982000 x982001 x982002).bind fun t999 => (laws_FnReachMore.l0 k t996 t999 0)))
def laws_FnReachMore.l0 : Nat → List Bool → List Bool → Int → Option (Bool)
 | 0, _, _, _ => none
 | k + 1, x10, x11, x12 => if x12 < (x10.length : Int) then (if 0 ≤ x12 then (if rdOf false x10 x12 = true then (if x12 < (x11.length : Int) then (if rdOf false x11 x12 = true then (laws_FnReachMore.l0 k x10 x11 (wrap64 (x12 + 1))) else (none)) else (none)) else (laws_FnReachMore.l0 k x10 x11 (wrap64 (x12 + 1)))) else (none)) else (some ((x10.length : Int) == (x11.length : Int)))
end
def laws_FnReachMore.f (k : Nat) (l0 : List Int) : Option (Bool) := if (l0.length : Int) > 1048576 then (some true) else ((spec_DrawPutLeft.f k l0).bind fun bt959 => ((impl_PutLeft.f k bt959.1 bt959.2.1 bt959.2.2.1 bt959.2.2.2.1 bt959.2.2.2.2).bind fun bt971 => ((spec_PutLeft.f k bt959.1 bt959.2.1 bt959.2.2.1 bt959.2.2.2.1 bt959.2.2.2.2).bind fun bt982 => ((impl_HeapSame.f k bt971.1 bt971.2.1 bt971.2.2.1 bt982.1 bt982.2.1 bt982.2.2.1).bind fun t993 => (if t993 = true then (if (bt971.2.2.2 != bt982.2.2.2) = true then (laws_FnReachMore.j0 k bt971.2.2.2 bt982.2.2.2 true bt959.1 bt959.2.1 bt959.2.2.1 bt971.1 bt971.2.1 bt971.2.2.1 bt982.1 bt982.2.1 bt982.2.2.1) else (if bt971.2.2.2 = true then (if 0 ≤ bt959.2.2.2.1 then (if bt959.2.2.2.1 < (bt959.1.length : Int) then (laws_FnReachMore.j0 k bt971.2.2.2 bt982.2.2.2 ((rd bt959.1 bt959.2.2.2.1) != (-1)) bt959.1 bt959.2.1 bt959.2.2.1 bt971.1 bt971.2.1 bt971.2.2.1 bt982.1 bt982.2.1 bt982.2.2.1) else (none)) else (none)) else (laws_FnReachMore.j0 k bt971.2.2.2 bt982.2.2.2 true bt959.1 bt959.2.1 bt959.2.2.1 bt971.1 bt971.2.1 bt971.2.2.1 bt982.1 bt982.2.1 bt982.2.2.1))) else (laws_FnReachMore.j0 k bt971.2.2.2 bt982.2.2.2 true bt959.1 bt959.2.1 bt959.2.2.1 bt971.1 bt971.2.1 bt971.2.2.1 bt982.1 bt982.2.1 bt982.2.2.1))))))
theorem laws_FnReachMore.mono_l : ∀ k, (∀ y0 y1 y2 y3 y4 y5 y6 y7 y8 y9 y10 y11, LeO (laws_FnReachMore.j0 k y0 y1 y2 y3 y4 y5 y6 y7 y8 y9 y10 y11) (laws_FnReachMore.j0 (k + 1) y0 y1 y2 y3 y4 y5 y6 y7 y8 y9 y10 y11)) ∧ (∀ y0 y1 y2, LeO (laws_FnReachMore.l0 k y0 y1 y2) (laws_FnReachMore.l0 (k + 1) y0 y1 y2))
 | 0 => ⟨fun _ _ _ _ _ _ _ _ _ _ _ _ r h => by simp [laws_FnReachMore.j0] at h, fun _ _ _ r h => by simp [laws_FnReachMore.l0] at h⟩
 | k + 1 => by
  obtain ⟨ih0, ih1⟩ := laws_FnReachMore.mono_l k
  refine ⟨?_, ?_⟩
  ·intro y0 y1 y2 y3 y4 y5 y6 y7 y8 y9 y10 y11
   unfold laws_FnReachMore.j0
   repeat' first
   | (with_reducible exact ih0 _ _ _ _ _ _ _ _ _ _ _ _)
   | (with_reducible exact ih1 _ _ _)
   | (with_reducible exact impl_HeapSame.mono _ _ _ _ _ _ _)
   | (with_reducible exact impl_PutLeft.mono _ _ _ _ _ _)
   | (with_reducible exact impl_Reachable.mono _ _ _ _)
   | (with_reducible exact spec_DrawPutLeft.mono _ _)
   | (with_reducible exact spec_PutLeft.mono _ _ _ _ _ _)
   | (with_reducible exact LeO.refl _)
   | (with_reducible exact LeO.none _)
   | (with_reducible refine LeO.ite ?_ ?_)
   | (with_reducible refine LeO.bind ?_ (fun _ => ?_))
   | exact ih0 _ _ _ _ _ _ _ _ _ _ _ _
   | exact ih1 _ _ _
   | exact impl_HeapSame.mono _ _ _ _ _ _ _
   | exact impl_PutLeft.mono _ _ _ _ _ _
   | exact impl_Reachable.mono _ _ _ _
   | exact spec_DrawPutLeft.mono _ _
   | exact spec_PutLeft.mono _ _ _ _ _ _
   | exact LeO.none _
   | refine LeO.ite ?_ ?_
   | refine LeO.bind ?_ (fun _ => ?_)
  ·intro y0 y1 y2
   unfold laws_FnReachMore.l0
   repeat' first
   | (with_reducible exact ih0 _ _ _ _ _ _ _ _ _ _ _ _)
   | (with_reducible exact ih1 _ _ _)
   | (with_reducible exact impl_HeapSame.mono _ _ _ _ _ _ _)
   | (with_reducible exact impl_PutLeft.mono _ _ _ _ _ _)
   | (with_reducible exact impl_Reachable.mono _ _ _ _)
   | (with_reducible exact spec_DrawPutLeft.mono _ _)
   | (with_reducible exact spec_PutLeft.mono _ _ _ _ _ _)
   | (with_reducible exact LeO.refl _)
   | (with_reducible exact LeO.none _)
   | (with_reducible refine LeO.ite ?_ ?_)
   | (with_reducible refine LeO.bind ?_ (fun _ => ?_))
   | exact ih0 _ _ _ _ _ _ _ _ _ _ _ _
   | exact ih1 _ _ _
   | exact impl_HeapSame.mono _ _ _ _ _ _ _
   | exact impl_PutLeft.mono _ _ _ _ _ _
   | exact impl_Reachable.mono _ _ _ _
   | exact spec_DrawPutLeft.mono _ _
   | exact spec_PutLeft.mono _ _ _ _ _ _
   | exact LeO.none _
   | refine LeO.ite ?_ ?_
   | refine LeO.bind ?_ (fun _ => ?_)
theorem laws_FnReachMore.mono : ∀ a0 k, LeO (laws_FnReachMore.f k a0) (laws_FnReachMore.f (k + 1) a0) := by
 intro a0 k
 obtain ⟨ih0, ih1⟩ := laws_FnReachMore.mono_l k
 unfold laws_FnReachMore.f
 repeat' first
   | (with_reducible exact ih0 _ _ _ _ _ _ _ _ _ _ _ _)
   | (with_reducible exact ih1 _ _ _)
   | (with_reducible exact impl_HeapSame.mono _ _ _ _ _ _ _)
   | (with_reducible exact impl_PutLeft.mono _ _ _ _ _ _)
   | (with_reducible exact impl_Reachable.mono _ _ _ _)
   | (with_reducible exact spec_DrawPutLeft.mono _ _)
   | (with_reducible exact spec_PutLeft.mono _ _ _ _ _ _)
   | (with_reducible exact LeO.refl _)
   | (with_reducible exact LeO.none _)
   | (with_reducible refine LeO.ite ?_ ?_)
   | (with_reducible refine LeO.bind ?_ (fun _ => ?_))
   | exact ih0 _ _ _ _ _ _ _ _ _ _ _ _
   | exact ih1 _ _ _
   | exact impl_HeapSame.mono _ _ _ _ _ _ _
   | exact impl_PutLeft.mono _ _ _ _ _ _
   | exact impl_Reachable.mono _ _ _ _
   | exact spec_DrawPutLeft.mono _ _
   | exact spec_PutLeft.mono _ _ _ _ _ _
   | exact LeO.none _
   | refine LeO.ite ?_ ?_
   | refine LeO.bind ?_ (fun _ => ?_)
set_option maxHeartbeats 8000000 in
set_option maxRecDepth 100000 in
theorem laws_FnReachMore.calls (k : Nat) (A0 : Option Addr) (c0 : Nat) (l0 : List Int) (r : Bool) (w : World) (hr0 : Kd.C (Kd.int .u8) w A0 l0.length l0) (hc0 : l0.length ≤ c0) (h : laws_FnReachMore.f k l0 = some r) :
  Calls Try.prog 10 #[.slice A0 l0.length c0] w fun e w' => e = .returned (.bool r) ∧ Below w.heap.size w w' := by
 have hu25 := Try.underlying25
 have HR0 := am hr0
 have HC0 := am hc0
 clear hr0 hc0
 have HB := am (Below.refl w.heap.size w)
 have H : (if (l0.length : Int) > 1048576 then (some true) else ((spec_DrawPutLeft.f k l0).bind fun bt959 => ((impl_PutLeft.f k bt959.1 bt959.2.1 bt959.2.2.1 bt959.2.2.2.1 bt959.2.2.2.2).bind fun bt971 => ((spec_PutLeft.f k bt959.1 bt959.2.1 bt959.2.2.1 bt959.2.2.2.1 bt959.2.2.2.2).bind fun bt982 => ((impl_HeapSame.f k bt971.1 bt971.2.1 bt971.2.2.1 bt982.1 bt982.2.1 bt982.2.2.1).bind fun t993 => (if t993 = true then (if (bt971.2.2.2 != bt982.2.2.2) = true then (laws_FnReachMore.j0 k bt971.2.2.2 bt982.2.2.2 true bt959.1 bt959.2.1 bt959.2.2.1 bt971.1 bt971.2.1 bt971.2.2.1 bt982.1 bt982.2.1 bt982.2.2.1) else (if bt971.2.2.2 = true then (if 0 ≤ bt959.2.2.2.1 then (if bt959.2.2.2.1 < (bt959.1.length : Int) then (laws_FnReachMore.j0 k bt971.2.2.2 bt982.2.2.2 ((rd bt959.1 bt959.2.2.2.1) != (-1)) bt959.1 bt959.2.1 bt959.2.2.1 bt971.1 bt971.2.1 bt971.2.2.1 bt982.1 bt982.2.1 bt982.2.2.1) else (none)) else (none)) else (laws_FnReachMore.j0 k bt971.2.2.2 bt982.2.2.2 true bt959.1 bt959.2.1 bt959.2.2.1 bt971.1 bt971.2.1 bt971.2.2.1 bt982.1 bt982.2.1 bt982.2.2.1))) else (laws_FnReachMore.j0 k bt971.2.2.2 bt982.2.2.2 true bt959.1 bt959.2.1 bt959.2.2.1 bt971.1 bt971.2.1 bt971.2.2.1 bt982.1 bt982.2.1 bt982.2.2.1))))))) = some r := h
 clear h
 by_cases c2 : (l0.length : Int) > 1048576
 ·rw [if_pos c2] at H
  have c2b0 : decide (1048576 < (l0.length : Int)) = true := decide_eq_true c2
  have c2b1 : decide (1048576 < l0.length) = true := decide_eq_true (by omega)
  clear c2
  obtain rfl := Option.some.inj H
  go_enter Try.func10, Try.ntmps10
  go_wp2
  go_ret
  exact ⟨by first | rfl | (simp [errW_none, errW_some] <;> rfl) | (simp [*, errW_none, errW_some] <;> rfl), by exact bs0 HB.out⟩
 ·rw [if_neg c2] at H
  have c2b0 : decide (1048576 < (l0.length : Int)) = false := decide_eq_false c2
  have c2b1 : decide (1048576 < l0.length) = false := decide_eq_false (by omega)
  clear c2
  replace H := Option.bind_eq_some_iff.mp H
  obtain ⟨⟨t959, t962, t965, t968, t969⟩, A30, H⟩ := H
  replace H : ((impl_PutLeft.f k t959 t962 t965 t968 t969).bind fun bt971 => ((spec_PutLeft.f k t959 t962 t965 t968 t969).bind fun bt982 => ((impl_HeapSame.f k bt971.1 bt971.2.1 bt971.2.2.1 bt982.1 bt982.2.1 bt982.2.2.1).bind fun t993 => (if t993 = true then (if (bt971.2.2.2 != bt982.2.2.2) = true then (laws_FnReachMore.j0 k bt971.2.2.2 bt982.2.2.2 true t959 t962 t965 bt971.1 bt971.2.1 bt971.2.2.1 bt982.1 bt982.2.1 bt982.2.2.1) else (if bt971.2.2.2 = true then (if 0 ≤ t968 then (if t968 < (t959.length : Int) then (laws_FnReachMore.j0 k bt971.2.2.2 bt982.2.2.2 ((rd t959 t968) != (-1)) t959 t962 t965 bt971.1 bt971.2.1 bt971.2.2.1 bt982.1 bt982.2.1 bt982.2.2.1) else (none)) else (none)) else (laws_FnReachMore.j0 k bt971.2.2.2 bt982.2.2.2 true t959 t962 t965 bt971.1 bt971.2.1 bt971.2.2.1 bt982.1 bt982.2.1 bt982.2.2.1))) else (laws_FnReachMore.j0 k bt971.2.2.2 bt982.2.2.2 true t959 t962 t965 bt971.1 bt971.2.1 bt971.2.2.1 bt982.1 bt982.2.1 bt982.2.2.1))))) = some r := H
  have A3 := am A30
  clear A30
  replace H := Option.bind_eq_some_iff.mp H
  obtain ⟨⟨t971, t974, t977, t980⟩, A40, H⟩ := H
  replace H : ((spec_PutLeft.f k t959 t962 t965 t968 t969).bind fun bt982 => ((impl_HeapSame.f k t971 t974 t977 bt982.1 bt982.2.1 bt982.2.2.1).bind fun t993 => (if t993 = true then (if (t980 != bt982.2.2.2) = true then (laws_FnReachMore.j0 k t980 bt982.2.2.2 true t959 t962 t965 t971 t974 t977 bt982.1 bt982.2.1 bt982.2.2.1) else (if t980 = true then (if 0 ≤ t968 then (if t968 < (t959.length : Int) then (laws_FnReachMore.j0 k t980 bt982.2.2.2 ((rd t959 t968) != (-1)) t959 t962 t965 t971 t974 t977 bt982.1 bt982.2.1 bt982.2.2.1) else (none)) else (none)) else (laws_FnReachMore.j0 k t980 bt982.2.2.2 true t959 t962 t965 t971 t974 t977 bt982.1 bt982.2.1 bt982.2.2.1))) else (laws_FnReachMore.j0 k t980 bt982.2.2.2 true t959 t962 t965 t971 t974 t977 bt982.1 bt982.2.1 bt982.2.2.1)))) = some r := H
  have A4 := am A40
  clear A40
  replace H := Option.bind_eq_some_iff.mp H
  obtain ⟨⟨t982, t985, t988, t991⟩, A50, H⟩ := H
  replace H : ((impl_HeapSame.f k t971 t974 t977 t982 t985 t988).bind fun t993 => (if t993 = true then (if (t980 != t991) = true then (laws_FnReachMore.j0 k t980 t991 true t959 t962 t965 t971 t974 t977 t982 t985 t988) else (if t980 = true then (if 0 ≤ t968 then (if t968 < (t959.length : Int) then (laws_FnReachMore.j0 k t980 t991 ((rd t959 t968) != (-1)) t959 t962 t965 t971 t974 t977 t982 t985 t988) else (none)) else (none)) else (laws_FnReachMore.j0 k t980 t991 true t959 t962 t965 t971 t974 t977 t982 t985 t988))) else (laws_FnReachMore.j0 k t980 t991 true t959 t962 t965 t971 t974 t977 t982 t985 t988))) = some r := H
  have A5 := am A50
  clear A50
  have HC6 := am H
  clear H
  go_enter Try.func10, Try.ntmps10
  go_upto_region 6 with (first | ((with_reducible refine gate_callee (f := 15) rfl ?_); refine goesL_ (some 18) rfl rfl Try.func15 (by kernel_rfl) rfl #[.slice A0 l0.length c0] rfl (by (try simp only [List.map_toArray, List.map_cons, List.map_nil]); first | done | rfl | (simp only [List.length_drop, List.length_take]; rfl)) ?_; (with_reducible refine (spec_DrawPutLeft.calls k _ _ l0 t959 t962 t965 t968 t969 _ ?side1 ?side2 A3.out).mono ?_); (case side1 => exact cl (HR0.out)); (case side2 => exact HC0.out); rintro e w7 ⟨v960, v963, v966, rfl, ho0, ho1, ho2, hb⟩; refine ⟨_, rfl, ?_⟩; have HO961 := am (Kd.R_lower ho0 (below_size (bl HB.out))); have HO964 := am (Kd.R_lower ho1 (below_size (bl HB.out))); have HO967 := am (Kd.R_lower ho2 (below_size (bl HB.out))); replace HB := am (below_step (bl HB.out) hb); (try clear hb); (try clear hb2); (try clear hk); (try clear hi); (try clear ho0); (try clear ho1); (try clear ho2)) | ((with_reducible refine gate_dst (N := 3) rfl ?_); refine box_event ?hg (N := 3) ?hd (cs := #[.slice none 0 0, .slice none 0 0, .slice none 0 0]) (t := 25) ?hr ?_; (case hd => rfl); (case hg => rfl); (case hr => first | (go_simp; done) | (go_simp; rfl)); intro gb970 hg w8 hbox hb; replace HO961 := am (Kd.R_below (rl HO961.out) hb); replace HO964 := am (Kd.R_below (rl HO964.out) hb); replace HO967 := am (Kd.R_below (rl HO967.out) hb); have BK970 := am (hbox); have GW970 := am ((by rw [hg]; exact (below_size (bl HB.out)) : w.heap.size ≤ gb970)); have GE970 := am ((by rw [hg]; exact (below_size (bl HB.out)) : w.heap.size ≤ gb970)); replace HB := am (below_step (bl HB.out) hb); clear hb hbox hg; obtain ⟨Ao9, co9, eo9⟩ := Kd.R_slice HO961.out; subst eo9; have hcz10_0 : w8.cell? ⟨gb970, 0, none⟩ = some (.slice none 0 0) := (blk_cell BK970.out 0).trans rfl; have hcz10_1 : w8.cell? ⟨gb970, 1, none⟩ = some (.slice none 0 0) := (blk_cell BK970.out 1).trans rfl; have hcz10_2 : w8.cell? ⟨gb970, 2, none⟩ = some (.slice none 0 0) := (blk_cell BK970.out 2).trans rfl; have hfz10_0 := blk_frozen BK970.out 0; have hfz10_1 := blk_frozen BK970.out 1; have hfz10_2 := blk_frozen BK970.out 2; obtain ⟨Ao11, co11, eo11⟩ := Kd.R_slice HO964.out; subst eo11; obtain ⟨Ao12, co12, eo12⟩ := Kd.R_slice HO967.out; subst eo12) | ((with_reducible refine gate_callee (f := 16) rfl ?_); refine goesL_ (some 26) rfl rfl Try.func16 (by kernel_rfl) rfl #[.agg #[.slice Ao9 t959.length co9, .slice Ao11 t962.length co11, .slice Ao12 t965.length co12], .int .i64 t968, .int .i64 t969] rfl (by (try simp only [List.map_toArray, List.map_cons, List.map_nil]); first | done | rfl | (simp only [List.length_drop, List.length_take]; rfl)) ?_; (with_reducible refine (impl_PutLeft.calls k _ _ t959 _ _ t962 _ _ t965 t968 t969 t971 t974 t977 t980 _ ?side1 ?side2 ?side3 ?side4 ?side5 ?side6 A4.out).mono ?_); (case side1 => exact (Kd.R_reads' (rf1 BK970.out HO961.out)).2.2); (case side2 => exact (Kd.R_reads' HO961.out).2.1); (case side3 => exact (Kd.R_reads' (rf1 BK970.out HO964.out)).2.2); (case side4 => exact (Kd.R_reads' HO964.out).2.1); (case side5 => exact (Kd.R_reads' (rf1 BK970.out HO967.out)).2.2); (case side6 => exact (Kd.R_reads' HO967.out).2.1); rintro e w13 ⟨v972, v975, v978, rfl, ho0, ho1, ho2, hb⟩; refine ⟨_, rfl, ?_⟩; have HO973 := am (Kd.R_lower (Kd.R_new' (Kd.R_new' (Kd.R_new' ho0 (Kd.R_lt (rf1 BK970.out HO961.out))) (Kd.R_lt (rf1 BK970.out HO964.out))) (Kd.R_lt (rf1 BK970.out HO967.out))) (below_size (bs1 GE970.out HB.out))); have HO976 := am (Kd.R_lower (Kd.R_new' (Kd.R_new' (Kd.R_new' ho1 (Kd.R_lt (rf1 BK970.out HO961.out))) (Kd.R_lt (rf1 BK970.out HO964.out))) (Kd.R_lt (rf1 BK970.out HO967.out))) (below_size (bs1 GE970.out HB.out))); have HO979 := am (Kd.R_lower (Kd.R_new' (Kd.R_new' (Kd.R_new' ho2 (Kd.R_lt (rf1 BK970.out HO961.out))) (Kd.R_lt (rf1 BK970.out HO964.out))) (Kd.R_lt (rf1 BK970.out HO967.out))) (below_size (bs1 GE970.out HB.out))); replace HO961 := am (Kd.R_mono (Kd.R_told (Kd.R_told (Kd.R_told (Kd.R_old (rf1 BK970.out HO961.out) hb) (Kd.R_base ho0)) (Kd.R_base ho1)) (Kd.R_base ho2)) (fun _ h_ => h_.1)); replace HO964 := am (Kd.R_mono (Kd.R_told (Kd.R_told (Kd.R_told (Kd.R_old (rf1 BK970.out HO964.out) hb) (Kd.R_base ho0)) (Kd.R_base ho1)) (Kd.R_base ho2)) (fun _ h_ => h_.1)); replace HO967 := am (Kd.R_mono (Kd.R_told (Kd.R_told (Kd.R_told (Kd.R_old (rf1 BK970.out HO967.out) hb) (Kd.R_base ho0)) (Kd.R_base ho1)) (Kd.R_base ho2)) (fun _ h_ => h_.1)); replace BK970 := am (blk_below (g := gb970) (o := .cells #[.slice Ao9 t959.length co9, .slice Ao11 t962.length co11, .slice Ao12 t965.length co12] 25 (0, 0)) (kp3 (kf0 BK970.out)) hb); replace HB := am (below_step (bs1 GE970.out HB.out) hb); (try clear hb); (try clear hb2); (try clear hk); (try clear hi); (try clear ho0); (try clear ho1); (try clear ho2)) | ((with_reducible refine gate_dst (N := 6) rfl ?_); refine box_event ?hg (N := 6) ?hd (cs := #[.slice none 0 0, .slice none 0 0, .slice none 0 0]) (t := 25) ?hr ?_; (case hd => rfl); (case hg => rfl); (case hr => first | (go_simp; done) | (go_simp; rfl)); intro gb981 hg w14 hbox hb; replace HO961 := am (Kd.R_below (rl HO961.out) hb); replace HO964 := am (Kd.R_below (rl HO964.out) hb); replace HO967 := am (Kd.R_below (rl HO967.out) hb); replace HO973 := am (Kd.R_below (rl HO973.out) hb); replace HO976 := am (Kd.R_below (rl HO976.out) hb); replace HO979 := am (Kd.R_below (rl HO979.out) hb); have BK981 := am (hbox); have GW981 := am ((by rw [hg]; exact (below_size (bs1 GE970.out HB.out)) : w.heap.size ≤ gb981)); have GE981 := am ((by rw [hg]; exact (below_size (bs1 GE970.out HB.out)) : w.heap.size ≤ gb981)); replace HB := am (below_step (bs1 GE970.out HB.out) hb); have NB970_981 := am ((by rw [hg]; exact Nat.ne_of_lt (blk_lt (g := gb970) (o := .cells #[.slice Ao9 t959.length co9, .slice Ao11 t962.length co11, .slice Ao12 t965.length co12] 25 (0, 0)) (kl BK970.out)) : gb970 ≠ gb981)); have NB981_970 := am ((by rw [hg]; exact Nat.ne_of_gt (blk_lt (g := gb970) (o := .cells #[.slice Ao9 t959.length co9, .slice Ao11 t962.length co11, .slice Ao12 t965.length co12] 25 (0, 0)) (kl BK970.out)) : gb981 ≠ gb970)); replace BK970 := am (blk_below (g := gb970) (o := .cells #[.slice Ao9 t959.length co9, .slice Ao11 t962.length co11, .slice Ao12 t965.length co12] 25 (0, 0)) (kl BK970.out) hb); clear hb hbox hg; obtain ⟨Ao15, co15, eo15⟩ := Kd.R_slice HO973.out; subst eo15; have hnb16 := NB981_970.out; have hnc16 := NB970_981.out; have hcz17_0 : w14.cell? ⟨gb981, 0, none⟩ = some (.slice none 0 0) := (blk_cell BK981.out 0).trans rfl; have hcz17_1 : w14.cell? ⟨gb981, 1, none⟩ = some (.slice none 0 0) := (blk_cell BK981.out 1).trans rfl; have hcz17_2 : w14.cell? ⟨gb981, 2, none⟩ = some (.slice none 0 0) := (blk_cell BK981.out 2).trans rfl; have hfz17_0 := blk_frozen BK981.out 0; have hfz17_1 := blk_frozen BK981.out 1; have hfz17_2 := blk_frozen BK981.out 2; obtain ⟨Ao18, co18, eo18⟩ := Kd.R_slice HO976.out; subst eo18; obtain ⟨Ao19, co19, eo19⟩ := Kd.R_slice HO979.out; subst eo19; have hcz20_0 : w14.cell? ⟨gb970, 0, none⟩ = some (.slice Ao9 t959.length co9) := (blk_cell BK970.out 0).trans rfl; have hcz20_1 : w14.cell? ⟨gb970, 1, none⟩ = some (.slice Ao11 t962.length co11) := (blk_cell BK970.out 1).trans rfl; have hcz20_2 : w14.cell? ⟨gb970, 2, none⟩ = some (.slice Ao12 t965.length co12) := (blk_cell BK970.out 2).trans rfl; have hfz20_0 := blk_frozen BK970.out 0; have hfz20_1 := blk_frozen BK970.out 1; have hfz20_2 := blk_frozen BK970.out 2) | ((with_reducible refine gate_callee (f := 17) rfl ?_); refine goesL_ (some 33) rfl rfl Try.func17 (by kernel_rfl) rfl #[.agg #[.slice Ao9 t959.length co9, .slice Ao11 t962.length co11, .slice Ao12 t965.length co12], .int .i64 t968, .int .i64 t969] rfl (by (try simp only [List.map_toArray, List.map_cons, List.map_nil]); first | done | rfl | (simp only [List.length_drop, List.length_take]; rfl)) ?_; (with_reducible refine (spec_PutLeft.calls k _ _ t959 _ _ t962 _ _ t965 t968 t969 t982 t985 t988 t991 _ ?side1 ?side2 ?side3 ?side4 ?side5 ?side6 A5.out).mono ?_); (case side1 => exact (Kd.R_reads' (rf1 BK981.out HO961.out)).2.2); (case side2 => exact (Kd.R_reads' HO961.out).2.1); (case side3 => exact (Kd.R_reads' (rf1 BK981.out HO964.out)).2.2); (case side4 => exact (Kd.R_reads' HO964.out).2.1); (case side5 => exact (Kd.R_reads' (rf1 BK981.out HO967.out)).2.2); (case side6 => exact (Kd.R_reads' HO967.out).2.1); rintro e w21 ⟨v983, v986, v989, rfl, ho0, ho1, ho2, hb⟩; refine ⟨_, rfl, ?_⟩; have HO984 := am (Kd.R_lower (Kd.R_new' (Kd.R_new' (Kd.R_new' (Kd.R_new' (Kd.R_new' (Kd.R_new' ho0 (Kd.R_lt (rf1 BK981.out HO961.out))) (Kd.R_lt (rf1 BK981.out HO964.out))) (Kd.R_lt (rf1 BK981.out HO967.out))) (Kd.R_lt (rf1 BK981.out HO973.out))) (Kd.R_lt (rf1 BK981.out HO976.out))) (Kd.R_lt (rf1 BK981.out HO979.out))) (below_size (bs2 GE970.out GE981.out HB.out))); have HO987 := am (Kd.R_lower (Kd.R_new' (Kd.R_new' (Kd.R_new' (Kd.R_new' (Kd.R_new' (Kd.R_new' ho1 (Kd.R_lt (rf1 BK981.out HO961.out))) (Kd.R_lt (rf1 BK981.out HO964.out))) (Kd.R_lt (rf1 BK981.out HO967.out))) (Kd.R_lt (rf1 BK981.out HO973.out))) (Kd.R_lt (rf1 BK981.out HO976.out))) (Kd.R_lt (rf1 BK981.out HO979.out))) (below_size (bs2 GE970.out GE981.out HB.out))); have HO990 := am (Kd.R_lower (Kd.R_new' (Kd.R_new' (Kd.R_new' (Kd.R_new' (Kd.R_new' (Kd.R_new' ho2 (Kd.R_lt (rf1 BK981.out HO961.out))) (Kd.R_lt (rf1 BK981.out HO964.out))) (Kd.R_lt (rf1 BK981.out HO967.out))) (Kd.R_lt (rf1 BK981.out HO973.out))) (Kd.R_lt (rf1 BK981.out HO976.out))) (Kd.R_lt (rf1 BK981.out HO979.out))) (below_size (bs2 GE970.out GE981.out HB.out))); replace HO961 := am (Kd.R_mono (Kd.R_told (Kd.R_told (Kd.R_told (Kd.R_old (rf1 BK981.out HO961.out) hb) (Kd.R_base ho0)) (Kd.R_base ho1)) (Kd.R_base ho2)) (fun _ h_ => h_.1)); replace HO964 := am (Kd.R_mono (Kd.R_told (Kd.R_told (Kd.R_told (Kd.R_old (rf1 BK981.out HO964.out) hb) (Kd.R_base ho0)) (Kd.R_base ho1)) (Kd.R_base ho2)) (fun _ h_ => h_.1)); replace HO967 := am (Kd.R_mono (Kd.R_told (Kd.R_told (Kd.R_told (Kd.R_old (rf1 BK981.out HO967.out) hb) (Kd.R_base ho0)) (Kd.R_base ho1)) (Kd.R_base ho2)) (fun _ h_ => h_.1)); replace HO973 := am (Kd.R_mono (Kd.R_told (Kd.R_told (Kd.R_told (Kd.R_old (rf1 BK981.out HO973.out) hb) (Kd.R_base ho0)) (Kd.R_base ho1)) (Kd.R_base ho2)) (fun _ h_ => h_.1)); replace HO976 := am (Kd.R_mono (Kd.R_told (Kd.R_told (Kd.R_told (Kd.R_old (rf1 BK981.out HO976.out) hb) (Kd.R_base ho0)) (Kd.R_base ho1)) (Kd.R_base ho2)) (fun _ h_ => h_.1)); replace HO979 := am (Kd.R_mono (Kd.R_told (Kd.R_told (Kd.R_told (Kd.R_old (rf1 BK981.out HO979.out) hb) (Kd.R_base ho0)) (Kd.R_base ho1)) (Kd.R_base ho2)) (fun _ h_ => h_.1)); replace BK970 := am (blk_below (g := gb970) (o := .cells #[.slice Ao9 t959.length co9, .slice Ao11 t962.length co11, .slice Ao12 t965.length co12] 25 (0, 0)) (kf1 NB970_981.out BK970.out) hb); replace BK981 := am (blk_below (g := gb981) (o := .cells #[.slice Ao15 t971.length co15, .slice Ao18 t974.length co18, .slice Ao19 t977.length co19] 25 (0, 0)) (kp3 (kf0 BK981.out)) hb); replace HB := am (below_step (bs2 GE970.out GE981.out HB.out) hb); (try clear hb); (try clear hb2); (try clear hk); (try clear hi); (try clear ho0); (try clear ho1); (try clear ho2)) | ((with_reducible refine gate_dst (N := 8) rfl ?_); refine box_event ?hg (N := 8) ?hd (cs := #[.slice none 0 0, .slice none 0 0, .slice none 0 0]) (t := 25) ?hr ?_; (case hd => rfl); (case hg => rfl); (case hr => first | (go_simp; done) | (go_simp; rfl)); intro gb992 hg w22 hbox hb; replace HO961 := am (Kd.R_below (rl HO961.out) hb); replace HO964 := am (Kd.R_below (rl HO964.out) hb); replace HO967 := am (Kd.R_below (rl HO967.out) hb); replace HO973 := am (Kd.R_below (rl HO973.out) hb); replace HO976 := am (Kd.R_below (rl HO976.out) hb); replace HO979 := am (Kd.R_below (rl HO979.out) hb); replace HO984 := am (Kd.R_below (rl HO984.out) hb); replace HO987 := am (Kd.R_below (rl HO987.out) hb); replace HO990 := am (Kd.R_below (rl HO990.out) hb); have BK992 := am (hbox); have GW992 := am ((by rw [hg]; exact (below_size (bs2 GE970.out GE981.out HB.out)) : w.heap.size ≤ gb992)); have GE992 := am ((by rw [hg]; exact (below_size (bs2 GE970.out GE981.out HB.out)) : w.heap.size ≤ gb992)); replace HB := am (below_step (bs2 GE970.out GE981.out HB.out) hb); have NB970_992 := am ((by rw [hg]; exact Nat.ne_of_lt (blk_lt (g := gb970) (o := .cells #[.slice Ao9 t959.length co9, .slice Ao11 t962.length co11, .slice Ao12 t965.length co12] 25 (0, 0)) (kl BK970.out)) : gb970 ≠ gb992)); have NB992_970 := am ((by rw [hg]; exact Nat.ne_of_gt (blk_lt (g := gb970) (o := .cells #[.slice Ao9 t959.length co9, .slice Ao11 t962.length co11, .slice Ao12 t965.length co12] 25 (0, 0)) (kl BK970.out)) : gb992 ≠ gb970)); replace BK970 := am (blk_below (g := gb970) (o := .cells #[.slice Ao9 t959.length co9, .slice Ao11 t962.length co11, .slice Ao12 t965.length co12] 25 (0, 0)) (kl BK970.out) hb); have NB981_992 := am ((by rw [hg]; exact Nat.ne_of_lt (blk_lt (g := gb981) (o := .cells #[.slice Ao15 t971.length co15, .slice Ao18 t974.length co18, .slice Ao19 t977.length co19] 25 (0, 0)) (kl BK981.out)) : gb981 ≠ gb992)); have NB992_981 := am ((by rw [hg]; exact Nat.ne_of_gt (blk_lt (g := gb981) (o := .cells #[.slice Ao15 t971.length co15, .slice Ao18 t974.length co18, .slice Ao19 t977.length co19] 25 (0, 0)) (kl BK981.out)) : gb992 ≠ gb981)); replace BK981 := am (blk_below (g := gb981) (o := .cells #[.slice Ao15 t971.length co15, .slice Ao18 t974.length co18, .slice Ao19 t977.length co19] 25 (0, 0)) (kl BK981.out) hb); clear hb hbox hg; obtain ⟨Ao23, co23, eo23⟩ := Kd.R_slice HO984.out; subst eo23; have hnb24 := NB992_970.out; have hnc24 := NB970_992.out; have hnb25 := NB992_981.out; have hnc25 := NB981_992.out; have hcz26_0 : w22.cell? ⟨gb992, 0, none⟩ = some (.slice none 0 0) := (blk_cell BK992.out 0).trans rfl; have hcz26_1 : w22.cell? ⟨gb992, 1, none⟩ = some (.slice none 0 0) := (blk_cell BK992.out 1).trans rfl; have hcz26_2 : w22.cell? ⟨gb992, 2, none⟩ = some (.slice none 0 0) := (blk_cell BK992.out 2).trans rfl; have hfz26_0 := blk_frozen BK992.out 0; have hfz26_1 := blk_frozen BK992.out 1; have hfz26_2 := blk_frozen BK992.out 2; obtain ⟨Ao27, co27, eo27⟩ := Kd.R_slice HO987.out; subst eo27; obtain ⟨Ao28, co28, eo28⟩ := Kd.R_slice HO990.out; subst eo28))
  (try simp only [Act.put, List.setIfInBounds_toArray, List.set_cons_zero, List.set_cons_succ])
  go_cut [56] (fun v56 wc => ∃ (kq : Nat) (x56_5 : Bool), v56 = .bool x56_5 ∧ Aside0 (laws_FnReachMore.j0 kq t980 t991 x56_5 t959 t962 t965 t971 t974 t977 t982 t985 t988 = some r) ∧ Aside0 (kq ≤ k) ∧ Aside0 (Kd.R (Kd.int .i64) 3 wc w.heap.size (fun k_ => some k_ ≠ ((.slice Ao11 t962.length co11) : Value).ownBlock ∧ some k_ ≠ ((.slice Ao12 t965.length co12) : Value).ownBlock ∧ some k_ ≠ ((.slice Ao15 t971.length co15) : Value).ownBlock ∧ some k_ ≠ ((.slice Ao18 t974.length co18) : Value).ownBlock ∧ some k_ ≠ ((.slice Ao19 t977.length co19) : Value).ownBlock ∧ some k_ ≠ ((.slice Ao23 t982.length co23) : Value).ownBlock ∧ some k_ ≠ ((.slice Ao27 t985.length co27) : Value).ownBlock ∧ some k_ ≠ ((.slice Ao28 t988.length co28) : Value).ownBlock) (.slice Ao9 t959.length co9) t959) ∧ Aside0 (Kd.R (Kd.int .i64) 3 wc w.heap.size (fun k_ => some k_ ≠ ((.slice Ao9 t959.length co9) : Value).ownBlock ∧ some k_ ≠ ((.slice Ao12 t965.length co12) : Value).ownBlock ∧ some k_ ≠ ((.slice Ao15 t971.length co15) : Value).ownBlock ∧ some k_ ≠ ((.slice Ao18 t974.length co18) : Value).ownBlock ∧ some k_ ≠ ((.slice Ao19 t977.length co19) : Value).ownBlock ∧ some k_ ≠ ((.slice Ao23 t982.length co23) : Value).ownBlock ∧ some k_ ≠ ((.slice Ao27 t985.length co27) : Value).ownBlock ∧ some k_ ≠ ((.slice Ao28 t988.length co28) : Value).ownBlock) (.slice Ao11 t962.length co11) t962) ∧ Aside0 (Kd.R (Kd.int .i64) 3 wc w.heap.size (fun k_ => some k_ ≠ ((.slice Ao9 t959.length co9) : Value).ownBlock ∧ some k_ ≠ ((.slice Ao11 t962.length co11) : Value).ownBlock ∧ some k_ ≠ ((.slice Ao15 t971.length co15) : Value).ownBlock ∧ some k_ ≠ ((.slice Ao18 t974.length co18) : Value).ownBlock ∧ some k_ ≠ ((.slice Ao19 t977.length co19) : Value).ownBlock ∧ some k_ ≠ ((.slice Ao23 t982.length co23) : Value).ownBlock ∧ some k_ ≠ ((.slice Ao27 t985.length co27) : Value).ownBlock ∧ some k_ ≠ ((.slice Ao28 t988.length co28) : Value).ownBlock) (.slice Ao12 t965.length co12) t965) ∧ Aside0 (Kd.R (Kd.int .i64) 3 wc w.heap.size (fun k_ => some k_ ≠ ((.slice Ao9 t959.length co9) : Value).ownBlock ∧ some k_ ≠ ((.slice Ao11 t962.length co11) : Value).ownBlock ∧ some k_ ≠ ((.slice Ao12 t965.length co12) : Value).ownBlock ∧ some k_ ≠ ((.slice Ao18 t974.length co18) : Value).ownBlock ∧ some k_ ≠ ((.slice Ao19 t977.length co19) : Value).ownBlock ∧ some k_ ≠ ((.slice Ao23 t982.length co23) : Value).ownBlock ∧ some k_ ≠ ((.slice Ao27 t985.length co27) : Value).ownBlock ∧ some k_ ≠ ((.slice Ao28 t988.length co28) : Value).ownBlock) (.slice Ao15 t971.length co15) t971) ∧ Aside0 (Kd.R (Kd.int .i64) 3 wc w.heap.size (fun k_ => some k_ ≠ ((.slice Ao9 t959.length co9) : Value).ownBlock ∧ some k_ ≠ ((.slice Ao11 t962.length co11) : Value).ownBlock ∧ some k_ ≠ ((.slice Ao12 t965.length co12) : Value).ownBlock ∧ some k_ ≠ ((.slice Ao15 t971.length co15) : Value).ownBlock ∧ some k_ ≠ ((.slice Ao19 t977.length co19) : Value).ownBlock ∧ some k_ ≠ ((.slice Ao23 t982.length co23) : Value).ownBlock ∧ some k_ ≠ ((.slice Ao27 t985.length co27) : Value).ownBlock ∧ some k_ ≠ ((.slice Ao28 t988.length co28) : Value).ownBlock) (.slice Ao18 t974.length co18) t974) ∧ Aside0 (Kd.R (Kd.int .i64) 3 wc w.heap.size (fun k_ => some k_ ≠ ((.slice Ao9 t959.length co9) : Value).ownBlock ∧ some k_ ≠ ((.slice Ao11 t962.length co11) : Value).ownBlock ∧ some k_ ≠ ((.slice Ao12 t965.length co12) : Value).ownBlock ∧ some k_ ≠ ((.slice Ao15 t971.length co15) : Value).ownBlock ∧ some k_ ≠ ((.slice Ao18 t974.length co18) : Value).ownBlock ∧ some k_ ≠ ((.slice Ao23 t982.length co23) : Value).ownBlock ∧ some k_ ≠ ((.slice Ao27 t985.length co27) : Value).ownBlock ∧ some k_ ≠ ((.slice Ao28 t988.length co28) : Value).ownBlock) (.slice Ao19 t977.length co19) t977) ∧ Aside0 (Kd.R (Kd.int .i64) 3 wc w.heap.size (fun k_ => some k_ ≠ ((.slice Ao9 t959.length co9) : Value).ownBlock ∧ some k_ ≠ ((.slice Ao11 t962.length co11) : Value).ownBlock ∧ some k_ ≠ ((.slice Ao12 t965.length co12) : Value).ownBlock ∧ some k_ ≠ ((.slice Ao15 t971.length co15) : Value).ownBlock ∧ some k_ ≠ ((.slice Ao18 t974.length co18) : Value).ownBlock ∧ some k_ ≠ ((.slice Ao19 t977.length co19) : Value).ownBlock ∧ some k_ ≠ ((.slice Ao27 t985.length co27) : Value).ownBlock ∧ some k_ ≠ ((.slice Ao28 t988.length co28) : Value).ownBlock) (.slice Ao23 t982.length co23) t982) ∧ Aside0 (Kd.R (Kd.int .i64) 3 wc w.heap.size (fun k_ => some k_ ≠ ((.slice Ao9 t959.length co9) : Value).ownBlock ∧ some k_ ≠ ((.slice Ao11 t962.length co11) : Value).ownBlock ∧ some k_ ≠ ((.slice Ao12 t965.length co12) : Value).ownBlock ∧ some k_ ≠ ((.slice Ao15 t971.length co15) : Value).ownBlock ∧ some k_ ≠ ((.slice Ao18 t974.length co18) : Value).ownBlock ∧ some k_ ≠ ((.slice Ao19 t977.length co19) : Value).ownBlock ∧ some k_ ≠ ((.slice Ao23 t982.length co23) : Value).ownBlock ∧ some k_ ≠ ((.slice Ao28 t988.length co28) : Value).ownBlock) (.slice Ao27 t985.length co27) t985) ∧ Aside0 (Kd.R (Kd.int .i64) 3 wc w.heap.size (fun k_ => some k_ ≠ ((.slice Ao9 t959.length co9) : Value).ownBlock ∧ some k_ ≠ ((.slice Ao11 t962.length co11) : Value).ownBlock ∧ some k_ ≠ ((.slice Ao12 t965.length co12) : Value).ownBlock ∧ some k_ ≠ ((.slice Ao15 t971.length co15) : Value).ownBlock ∧ some k_ ≠ ((.slice Ao18 t974.length co18) : Value).ownBlock ∧ some k_ ≠ ((.slice Ao19 t977.length co19) : Value).ownBlock ∧ some k_ ≠ ((.slice Ao23 t982.length co23) : Value).ownBlock ∧ some k_ ≠ ((.slice Ao27 t985.length co27) : Value).ownBlock) (.slice Ao28 t988.length co28) t988) ∧ Aside0 (wc.heap[gb970]? = some (.cells #[(.slice Ao9 t959.length co9), (.slice Ao11 t962.length co11), (.slice Ao12 t965.length co12)] 25 (0, 0))) ∧ Aside0 (wc.heap[gb981]? = some (.cells #[(.slice Ao15 t971.length co15), (.slice Ao18 t974.length co18), (.slice Ao19 t977.length co19)] 25 (0, 0))) ∧ Aside0 (wc.heap[gb992]? = some (.cells #[(.slice Ao23 t982.length co23), (.slice Ao27 t985.length co27), (.slice Ao28 t988.length co28)] 25 (0, 0))) ∧ Aside0 (Below w.heap.size w wc))
  case first =>
   have H := HC6.out
   clear HC6
   replace H := Option.bind_eq_some_iff.mp H
   obtain ⟨t993, A290, H⟩ := H
   replace H : (if t993 = true then (if (t980 != t991) = true then (laws_FnReachMore.j0 k t980 t991 true t959 t962 t965 t971 t974 t977 t982 t985 t988) else (if t980 = true then (if 0 ≤ t968 then (if t968 < (t959.length : Int) then (laws_FnReachMore.j0 k t980 t991 ((rd t959 t968) != (-1)) t959 t962 t965 t971 t974 t977 t982 t985 t988) else (none)) else (none)) else (laws_FnReachMore.j0 k t980 t991 true t959 t962 t965 t971 t974 t977 t982 t985 t988))) else (laws_FnReachMore.j0 k t980 t991 true t959 t962 t965 t971 t974 t977 t982 t985 t988)) = some r := H
   have A29 := am A290
   clear A290
   by_cases c30 : t993 = true
   ·subst c30
    have H1 : (if (t980 != t991) = true then (laws_FnReachMore.j0 k t980 t991 true t959 t962 t965 t971 t974 t977 t982 t985 t988) else (if t980 = true then (if 0 ≤ t968 then (if t968 < (t959.length : Int) then (laws_FnReachMore.j0 k t980 t991 ((rd t959 t968) != (-1)) t959 t962 t965 t971 t974 t977 t982 t985 t988) else (none)) else (none)) else (laws_FnReachMore.j0 k t980 t991 true t959 t962 t965 t971 t974 t977 t982 t985 t988))) = some r := by rw [if_pos rfl] at H; exact H
    clear H
    have H := H1
    clear H1
    by_cases c31 : (t980 != t991) = true
    ·rw [if_pos c31] at H
     have c31b0 : (t980 != t991) = true := c31
     (try (have c31b1 : decide (t980 = t991) = false := by simpa using c31))
     (try (have c31b2 : (t980 == t991) = false := by simpa using c31))
     (try (have c31b3 : ¬ (t980 = t991) := by simpa using c31))
     clear c31
     (first | rw [c31b0] | (simp only [i64_w, i32_w]; rw [c31b0]) | skip)
     have H' := am H
     clear H
     have hnb32 := NB981_970.out
     have hnc32 := NB970_981.out
     have hnb33 := NB981_992.out
     have hnc33 := NB992_981.out
     have hcz34_0 : w22.cell? ⟨gb981, 0, none⟩ = some (.slice Ao15 t971.length co15) := (blk_cell BK981.out 0).trans rfl
     have hcz34_1 : w22.cell? ⟨gb981, 1, none⟩ = some (.slice Ao18 t974.length co18) := (blk_cell BK981.out 1).trans rfl
     have hcz34_2 : w22.cell? ⟨gb981, 2, none⟩ = some (.slice Ao19 t977.length co19) := (blk_cell BK981.out 2).trans rfl
     have hfz34_0 := blk_frozen BK981.out 0
     have hfz34_1 := blk_frozen BK981.out 1
     have hfz34_2 := blk_frozen BK981.out 2
     have hnb35 := NB992_970.out
     have hnc35 := NB970_992.out
     have hcz36_0 : w22.cell? ⟨gb992, 0, none⟩ = some (.slice none 0 0) := (blk_cell BK992.out 0).trans rfl
     have hcz36_1 : w22.cell? ⟨gb992, 1, none⟩ = some (.slice none 0 0) := (blk_cell BK992.out 1).trans rfl
     have hcz36_2 : w22.cell? ⟨gb992, 2, none⟩ = some (.slice none 0 0) := (blk_cell BK992.out 2).trans rfl
     have hfz36_0 := blk_frozen BK992.out 0
     have hfz36_1 := blk_frozen BK992.out 1
     have hfz36_2 := blk_frozen BK992.out 2
     go_wp2_with (first | ((with_reducible refine gate_callee (f := 18) rfl ?_); refine goesL_ (some 38) rfl rfl Try.func18 (by kernel_rfl) rfl #[.agg #[.slice Ao15 t971.length co15, .slice Ao18 t974.length co18, .slice Ao19 t977.length co19], .agg #[.slice Ao23 t982.length co23, .slice Ao27 t985.length co27, .slice Ao28 t988.length co28]] rfl (by (try simp only [List.map_toArray, List.map_cons, List.map_nil]); first | done | rfl | (simp only [List.length_drop, List.length_take]; rfl)) ?_; (with_reducible refine (impl_HeapSame.calls k _ _ t971 _ _ t974 _ _ t977 _ _ t982 _ _ t985 _ _ t988 true _ ?side1 ?side2 ?side3 ?side4 ?side5 ?side6 ?side7 ?side8 ?side9 ?side10 ?side11 ?side12 A29.out).mono ?_); (case side1 => exact (Kd.R_reads' (rf1 BK992.out HO973.out)).2.2); (case side2 => exact (Kd.R_reads' HO973.out).2.1); (case side3 => exact (Kd.R_reads' (rf1 BK992.out HO976.out)).2.2); (case side4 => exact (Kd.R_reads' HO976.out).2.1); (case side5 => exact (Kd.R_reads' (rf1 BK992.out HO979.out)).2.2); (case side6 => exact (Kd.R_reads' HO979.out).2.1); (case side7 => exact (Kd.R_reads' (rf1 BK992.out HO984.out)).2.2); (case side8 => exact (Kd.R_reads' HO984.out).2.1); (case side9 => exact (Kd.R_reads' (rf1 BK992.out HO987.out)).2.2); (case side10 => exact (Kd.R_reads' HO987.out).2.1); (case side11 => exact (Kd.R_reads' (rf1 BK992.out HO990.out)).2.2); (case side12 => exact (Kd.R_reads' HO990.out).2.1); rintro e w37 ⟨rfl, hb⟩; refine ⟨_, rfl, ?_⟩; replace HO961 := am (Kd.R_below (rf1 BK992.out HO961.out) hb); replace HO964 := am (Kd.R_below (rf1 BK992.out HO964.out) hb); replace HO967 := am (Kd.R_below (rf1 BK992.out HO967.out) hb); replace HO973 := am (Kd.R_below (rf1 BK992.out HO973.out) hb); replace HO976 := am (Kd.R_below (rf1 BK992.out HO976.out) hb); replace HO979 := am (Kd.R_below (rf1 BK992.out HO979.out) hb); replace HO984 := am (Kd.R_below (rf1 BK992.out HO984.out) hb); replace HO987 := am (Kd.R_below (rf1 BK992.out HO987.out) hb); replace HO990 := am (Kd.R_below (rf1 BK992.out HO990.out) hb); replace BK970 := am (blk_below (g := gb970) (o := .cells #[.slice Ao9 t959.length co9, .slice Ao11 t962.length co11, .slice Ao12 t965.length co12] 25 (0, 0)) (kf1 NB970_992.out BK970.out) hb); replace BK981 := am (blk_below (g := gb981) (o := .cells #[.slice Ao15 t971.length co15, .slice Ao18 t974.length co18, .slice Ao19 t977.length co19] 25 (0, 0)) (kf1 NB981_992.out BK981.out) hb); replace BK992 := am (blk_below (g := gb992) (o := .cells #[.slice Ao23 t982.length co23, .slice Ao27 t985.length co27, .slice Ao28 t988.length co28] 25 (0, 0)) (kp3 (kf0 BK992.out)) hb); replace HB := am (below_step (bs3 GE970.out GE981.out GE992.out HB.out) hb); (try clear hb); (try clear hb2); (try clear hk); (try clear hi)))
     go_meet
     case rel => exact ⟨_, (true), (by first | rfl | (simp; done) | (simp [*]; done)), H', ⟨by first | omega | exact Nat.le_refl _⟩, ⟨rl (Kd.R_mono HO961.out (fun _ hk => by simp only [ne_eq] at hk ⊢; simp only [hk, not_false_eq_true, and_self]))⟩, ⟨rl (Kd.R_mono HO964.out (fun _ hk => by simp only [ne_eq] at hk ⊢; simp only [hk, not_false_eq_true, and_self]))⟩, ⟨rl (Kd.R_mono HO967.out (fun _ hk => by simp only [ne_eq] at hk ⊢; simp only [hk, not_false_eq_true, and_self]))⟩, ⟨rl (Kd.R_mono HO973.out (fun _ hk => by simp only [ne_eq] at hk ⊢; simp only [hk, not_false_eq_true, and_self]))⟩, ⟨rl (Kd.R_mono HO976.out (fun _ hk => by simp only [ne_eq] at hk ⊢; simp only [hk, not_false_eq_true, and_self]))⟩, ⟨rl (Kd.R_mono HO979.out (fun _ hk => by simp only [ne_eq] at hk ⊢; simp only [hk, not_false_eq_true, and_self]))⟩, ⟨rl (Kd.R_mono HO984.out (fun _ hk => by simp only [ne_eq] at hk ⊢; simp only [hk, not_false_eq_true, and_self]))⟩, ⟨rl (Kd.R_mono HO987.out (fun _ hk => by simp only [ne_eq] at hk ⊢; simp only [hk, not_false_eq_true, and_self]))⟩, ⟨rl (Kd.R_mono HO990.out (fun _ hk => by simp only [ne_eq] at hk ⊢; simp only [hk, not_false_eq_true, and_self]))⟩, ⟨kl BK970.out⟩, ⟨kl BK981.out⟩, ⟨kl BK992.out⟩, ⟨by exact bs3 GE970.out GE981.out GE992.out HB.out⟩⟩
    ·rw [if_neg c31] at H
     have c31b0 : (t980 != t991) = false := by simpa using c31
     (try (have c31b1 : decide (t980 = t991) = true := by simpa using c31))
     (try (have c31b2 : (t980 == t991) = true := by simpa using c31))
     clear c31
     (first | rw [c31b0] | (simp only [i64_w, i32_w]; rw [c31b0]) | skip)
     by_cases c38 : t980 = true
     ·subst c38
      have H1 : (if 0 ≤ t968 then (if t968 < (t959.length : Int) then (laws_FnReachMore.j0 k true t991 ((rd t959 t968) != (-1)) t959 t962 t965 t971 t974 t977 t982 t985 t988) else (none)) else (none)) = some r := by rw [if_pos rfl] at H; exact H
      clear H
      have H := H1
      clear H1
      by_cases c39 : 0 ≤ t968
      ·rw [if_pos c39] at H
       have c39b0 : decide (0 ≤ t968) = true := decide_eq_true c39
       clear c39
       by_cases c40 : t968 < (t959.length : Int)
       ·rw [if_pos c40] at H
        have c40b0 : decide (t968 < (t959.length : Int)) = true := decide_eq_true c40
        clear c40
        have H' := am H
        clear H
        have hnb41 := NB981_970.out
        have hnc41 := NB970_981.out
        have hnb42 := NB981_992.out
        have hnc42 := NB992_981.out
        have hcz43_0 : w22.cell? ⟨gb981, 0, none⟩ = some (.slice Ao15 t971.length co15) := (blk_cell BK981.out 0).trans rfl
        have hcz43_1 : w22.cell? ⟨gb981, 1, none⟩ = some (.slice Ao18 t974.length co18) := (blk_cell BK981.out 1).trans rfl
        have hcz43_2 : w22.cell? ⟨gb981, 2, none⟩ = some (.slice Ao19 t977.length co19) := (blk_cell BK981.out 2).trans rfl
        have hfz43_0 := blk_frozen BK981.out 0
        have hfz43_1 := blk_frozen BK981.out 1
        have hfz43_2 := blk_frozen BK981.out 2
        have hnb44 := NB992_970.out
        have hnc44 := NB970_992.out
        have hcz45_0 : w22.cell? ⟨gb992, 0, none⟩ = some (.slice none 0 0) := (blk_cell BK992.out 0).trans rfl
        have hcz45_1 : w22.cell? ⟨gb992, 1, none⟩ = some (.slice none 0 0) := (blk_cell BK992.out 1).trans rfl
        have hcz45_2 : w22.cell? ⟨gb992, 2, none⟩ = some (.slice none 0 0) := (blk_cell BK992.out 2).trans rfl
        have hfz45_0 := blk_frozen BK992.out 0
        have hfz45_1 := blk_frozen BK992.out 1
        have hfz45_2 := blk_frozen BK992.out 2
        go_wp2_with (first | ((with_reducible refine gate_callee (f := 18) rfl ?_); refine goesL_ (some 38) rfl rfl Try.func18 (by kernel_rfl) rfl #[.agg #[.slice Ao15 t971.length co15, .slice Ao18 t974.length co18, .slice Ao19 t977.length co19], .agg #[.slice Ao23 t982.length co23, .slice Ao27 t985.length co27, .slice Ao28 t988.length co28]] rfl (by (try simp only [List.map_toArray, List.map_cons, List.map_nil]); first | done | rfl | (simp only [List.length_drop, List.length_take]; rfl)) ?_; (with_reducible refine (impl_HeapSame.calls k _ _ t971 _ _ t974 _ _ t977 _ _ t982 _ _ t985 _ _ t988 true _ ?side1 ?side2 ?side3 ?side4 ?side5 ?side6 ?side7 ?side8 ?side9 ?side10 ?side11 ?side12 A29.out).mono ?_); (case side1 => exact (Kd.R_reads' (rf1 BK992.out HO973.out)).2.2); (case side2 => exact (Kd.R_reads' HO973.out).2.1); (case side3 => exact (Kd.R_reads' (rf1 BK992.out HO976.out)).2.2); (case side4 => exact (Kd.R_reads' HO976.out).2.1); (case side5 => exact (Kd.R_reads' (rf1 BK992.out HO979.out)).2.2); (case side6 => exact (Kd.R_reads' HO979.out).2.1); (case side7 => exact (Kd.R_reads' (rf1 BK992.out HO984.out)).2.2); (case side8 => exact (Kd.R_reads' HO984.out).2.1); (case side9 => exact (Kd.R_reads' (rf1 BK992.out HO987.out)).2.2); (case side10 => exact (Kd.R_reads' HO987.out).2.1); (case side11 => exact (Kd.R_reads' (rf1 BK992.out HO990.out)).2.2); (case side12 => exact (Kd.R_reads' HO990.out).2.1); rintro e w46 ⟨rfl, hb⟩; refine ⟨_, rfl, ?_⟩; replace HO961 := am (Kd.R_below (rf1 BK992.out HO961.out) hb); replace HO964 := am (Kd.R_below (rf1 BK992.out HO964.out) hb); replace HO967 := am (Kd.R_below (rf1 BK992.out HO967.out) hb); replace HO973 := am (Kd.R_below (rf1 BK992.out HO973.out) hb); replace HO976 := am (Kd.R_below (rf1 BK992.out HO976.out) hb); replace HO979 := am (Kd.R_below (rf1 BK992.out HO979.out) hb); replace HO984 := am (Kd.R_below (rf1 BK992.out HO984.out) hb); replace HO987 := am (Kd.R_below (rf1 BK992.out HO987.out) hb); replace HO990 := am (Kd.R_below (rf1 BK992.out HO990.out) hb); replace BK970 := am (blk_below (g := gb970) (o := .cells #[.slice Ao9 t959.length co9, .slice Ao11 t962.length co11, .slice Ao12 t965.length co12] 25 (0, 0)) (kf1 NB970_992.out BK970.out) hb); replace BK981 := am (blk_below (g := gb981) (o := .cells #[.slice Ao15 t971.length co15, .slice Ao18 t974.length co18, .slice Ao19 t977.length co19] 25 (0, 0)) (kf1 NB981_992.out BK981.out) hb); replace BK992 := am (blk_below (g := gb992) (o := .cells #[.slice Ao23 t982.length co23, .slice Ao27 t985.length co27, .slice Ao28 t988.length co28] 25 (0, 0)) (kp3 (kf0 BK992.out)) hb); replace HB := am (below_step (bs3 GE970.out GE981.out GE992.out HB.out) hb); (try clear hb); (try clear hb2); (try clear hk); (try clear hi); have hcz47_0 : w46.cell? ⟨gb970, 0, none⟩ = some (.slice Ao9 t959.length co9) := (blk_cell BK970.out 0).trans rfl; have hcz47_1 : w46.cell? ⟨gb970, 1, none⟩ = some (.slice Ao11 t962.length co11) := (blk_cell BK970.out 1).trans rfl; have hcz47_2 : w46.cell? ⟨gb970, 2, none⟩ = some (.slice Ao12 t965.length co12) := (blk_cell BK970.out 2).trans rfl; have hfz47_0 := blk_frozen BK970.out 0; have hfz47_1 := blk_frozen BK970.out 1; have hfz47_2 := blk_frozen BK970.out 2; have p994 : 0 ≤ (t968 : Int) := of_decide_eq_true (by first | (with_reducible assumption) | assumption); have q994 : t968 < (t959.length : Int) := of_decide_eq_true (by first | (with_reducible assumption) | assumption); obtain ⟨ad994, e994, hx994_0⟩ := Kd.at_int (Kd.R_reads' HO961.out).2.2 t968 p994 q994; cases e994; replace p994 := eq_true p994; replace q994 := eq_true q994))
        go_meet
        case rel => exact ⟨_, (((rd t959 t968) != (-1))), (by first | rfl | (simp; done) | (simp [*]; done)), H', ⟨by first | omega | exact Nat.le_refl _⟩, ⟨rl (Kd.R_mono HO961.out (fun _ hk => by simp only [ne_eq] at hk ⊢; simp only [hk, not_false_eq_true, and_self]))⟩, ⟨rl (Kd.R_mono HO964.out (fun _ hk => by simp only [ne_eq] at hk ⊢; simp only [hk, not_false_eq_true, and_self]))⟩, ⟨rl (Kd.R_mono HO967.out (fun _ hk => by simp only [ne_eq] at hk ⊢; simp only [hk, not_false_eq_true, and_self]))⟩, ⟨rl (Kd.R_mono HO973.out (fun _ hk => by simp only [ne_eq] at hk ⊢; simp only [hk, not_false_eq_true, and_self]))⟩, ⟨rl (Kd.R_mono HO976.out (fun _ hk => by simp only [ne_eq] at hk ⊢; simp only [hk, not_false_eq_true, and_self]))⟩, ⟨rl (Kd.R_mono HO979.out (fun _ hk => by simp only [ne_eq] at hk ⊢; simp only [hk, not_false_eq_true, and_self]))⟩, ⟨rl (Kd.R_mono HO984.out (fun _ hk => by simp only [ne_eq] at hk ⊢; simp only [hk, not_false_eq_true, and_self]))⟩, ⟨rl (Kd.R_mono HO987.out (fun _ hk => by simp only [ne_eq] at hk ⊢; simp only [hk, not_false_eq_true, and_self]))⟩, ⟨rl (Kd.R_mono HO990.out (fun _ hk => by simp only [ne_eq] at hk ⊢; simp only [hk, not_false_eq_true, and_self]))⟩, ⟨kl BK970.out⟩, ⟨kl BK981.out⟩, ⟨kl BK992.out⟩, ⟨by exact bs3 GE970.out GE981.out GE992.out HB.out⟩⟩
       ·rw [if_neg c40] at H
        exact absurd H (by simp)
      ·rw [if_neg c39] at H
       exact absurd H (by simp)
     ·replace c38 := Bool.eq_false_iff.mpr c38
      subst c38
      have H1 : (laws_FnReachMore.j0 k false t991 true t959 t962 t965 t971 t974 t977 t982 t985 t988) = some r := by rw [if_neg (show ¬ (false = true) by decide)] at H; exact H
      clear H
      have H := H1
      clear H1
      have H' := am H
      clear H
      have hnb48 := NB981_970.out
      have hnc48 := NB970_981.out
      have hnb49 := NB981_992.out
      have hnc49 := NB992_981.out
      have hcz50_0 : w22.cell? ⟨gb981, 0, none⟩ = some (.slice Ao15 t971.length co15) := (blk_cell BK981.out 0).trans rfl
      have hcz50_1 : w22.cell? ⟨gb981, 1, none⟩ = some (.slice Ao18 t974.length co18) := (blk_cell BK981.out 1).trans rfl
      have hcz50_2 : w22.cell? ⟨gb981, 2, none⟩ = some (.slice Ao19 t977.length co19) := (blk_cell BK981.out 2).trans rfl
      have hfz50_0 := blk_frozen BK981.out 0
      have hfz50_1 := blk_frozen BK981.out 1
      have hfz50_2 := blk_frozen BK981.out 2
      have hnb51 := NB992_970.out
      have hnc51 := NB970_992.out
      have hcz52_0 : w22.cell? ⟨gb992, 0, none⟩ = some (.slice none 0 0) := (blk_cell BK992.out 0).trans rfl
      have hcz52_1 : w22.cell? ⟨gb992, 1, none⟩ = some (.slice none 0 0) := (blk_cell BK992.out 1).trans rfl
      have hcz52_2 : w22.cell? ⟨gb992, 2, none⟩ = some (.slice none 0 0) := (blk_cell BK992.out 2).trans rfl
      have hfz52_0 := blk_frozen BK992.out 0
      have hfz52_1 := blk_frozen BK992.out 1
      have hfz52_2 := blk_frozen BK992.out 2
      go_wp2_with (first | ((with_reducible refine gate_callee (f := 18) rfl ?_); refine goesL_ (some 38) rfl rfl Try.func18 (by kernel_rfl) rfl #[.agg #[.slice Ao15 t971.length co15, .slice Ao18 t974.length co18, .slice Ao19 t977.length co19], .agg #[.slice Ao23 t982.length co23, .slice Ao27 t985.length co27, .slice Ao28 t988.length co28]] rfl (by (try simp only [List.map_toArray, List.map_cons, List.map_nil]); first | done | rfl | (simp only [List.length_drop, List.length_take]; rfl)) ?_; (with_reducible refine (impl_HeapSame.calls k _ _ t971 _ _ t974 _ _ t977 _ _ t982 _ _ t985 _ _ t988 true _ ?side1 ?side2 ?side3 ?side4 ?side5 ?side6 ?side7 ?side8 ?side9 ?side10 ?side11 ?side12 A29.out).mono ?_); (case side1 => exact (Kd.R_reads' (rf1 BK992.out HO973.out)).2.2); (case side2 => exact (Kd.R_reads' HO973.out).2.1); (case side3 => exact (Kd.R_reads' (rf1 BK992.out HO976.out)).2.2); (case side4 => exact (Kd.R_reads' HO976.out).2.1); (case side5 => exact (Kd.R_reads' (rf1 BK992.out HO979.out)).2.2); (case side6 => exact (Kd.R_reads' HO979.out).2.1); (case side7 => exact (Kd.R_reads' (rf1 BK992.out HO984.out)).2.2); (case side8 => exact (Kd.R_reads' HO984.out).2.1); (case side9 => exact (Kd.R_reads' (rf1 BK992.out HO987.out)).2.2); (case side10 => exact (Kd.R_reads' HO987.out).2.1); (case side11 => exact (Kd.R_reads' (rf1 BK992.out HO990.out)).2.2); (case side12 => exact (Kd.R_reads' HO990.out).2.1); rintro e w53 ⟨rfl, hb⟩; refine ⟨_, rfl, ?_⟩; replace HO961 := am (Kd.R_below (rf1 BK992.out HO961.out) hb); replace HO964 := am (Kd.R_below (rf1 BK992.out HO964.out) hb); replace HO967 := am (Kd.R_below (rf1 BK992.out HO967.out) hb); replace HO973 := am (Kd.R_below (rf1 BK992.out HO973.out) hb); replace HO976 := am (Kd.R_below (rf1 BK992.out HO976.out) hb); replace HO979 := am (Kd.R_below (rf1 BK992.out HO979.out) hb); replace HO984 := am (Kd.R_below (rf1 BK992.out HO984.out) hb); replace HO987 := am (Kd.R_below (rf1 BK992.out HO987.out) hb); replace HO990 := am (Kd.R_below (rf1 BK992.out HO990.out) hb); replace BK970 := am (blk_below (g := gb970) (o := .cells #[.slice Ao9 t959.length co9, .slice Ao11 t962.length co11, .slice Ao12 t965.length co12] 25 (0, 0)) (kf1 NB970_992.out BK970.out) hb); replace BK981 := am (blk_below (g := gb981) (o := .cells #[.slice Ao15 t971.length co15, .slice Ao18 t974.length co18, .slice Ao19 t977.length co19] 25 (0, 0)) (kf1 NB981_992.out BK981.out) hb); replace BK992 := am (blk_below (g := gb992) (o := .cells #[.slice Ao23 t982.length co23, .slice Ao27 t985.length co27, .slice Ao28 t988.length co28] 25 (0, 0)) (kp3 (kf0 BK992.out)) hb); replace HB := am (below_step (bs3 GE970.out GE981.out GE992.out HB.out) hb); (try clear hb); (try clear hb2); (try clear hk); (try clear hi)))
      go_meet
      case rel => exact ⟨_, (true), (by first | rfl | (simp; done) | (simp [*]; done)), H', ⟨by first | omega | exact Nat.le_refl _⟩, ⟨rl (Kd.R_mono HO961.out (fun _ hk => by simp only [ne_eq] at hk ⊢; simp only [hk, not_false_eq_true, and_self]))⟩, ⟨rl (Kd.R_mono HO964.out (fun _ hk => by simp only [ne_eq] at hk ⊢; simp only [hk, not_false_eq_true, and_self]))⟩, ⟨rl (Kd.R_mono HO967.out (fun _ hk => by simp only [ne_eq] at hk ⊢; simp only [hk, not_false_eq_true, and_self]))⟩, ⟨rl (Kd.R_mono HO973.out (fun _ hk => by simp only [ne_eq] at hk ⊢; simp only [hk, not_false_eq_true, and_self]))⟩, ⟨rl (Kd.R_mono HO976.out (fun _ hk => by simp only [ne_eq] at hk ⊢; simp only [hk, not_false_eq_true, and_self]))⟩, ⟨rl (Kd.R_mono HO979.out (fun _ hk => by simp only [ne_eq] at hk ⊢; simp only [hk, not_false_eq_true, and_self]))⟩, ⟨rl (Kd.R_mono HO984.out (fun _ hk => by simp only [ne_eq] at hk ⊢; simp only [hk, not_false_eq_true, and_self]))⟩, ⟨rl (Kd.R_mono HO987.out (fun _ hk => by simp only [ne_eq] at hk ⊢; simp only [hk, not_false_eq_true, and_self]))⟩, ⟨rl (Kd.R_mono HO990.out (fun _ hk => by simp only [ne_eq] at hk ⊢; simp only [hk, not_false_eq_true, and_self]))⟩, ⟨kl BK970.out⟩, ⟨kl BK981.out⟩, ⟨kl BK992.out⟩, ⟨by exact bs3 GE970.out GE981.out GE992.out HB.out⟩⟩
   ·replace c30 := Bool.eq_false_iff.mpr c30
    subst c30
    have H1 : (laws_FnReachMore.j0 k t980 t991 true t959 t962 t965 t971 t974 t977 t982 t985 t988) = some r := by rw [if_neg (show ¬ (false = true) by decide)] at H; exact H
    clear H
    have H := H1
    clear H1
    have H' := am H
    clear H
    have hnb54 := NB981_970.out
    have hnc54 := NB970_981.out
    have hnb55 := NB981_992.out
    have hnc55 := NB992_981.out
    have hcz56_0 : w22.cell? ⟨gb981, 0, none⟩ = some (.slice Ao15 t971.length co15) := (blk_cell BK981.out 0).trans rfl
    have hcz56_1 : w22.cell? ⟨gb981, 1, none⟩ = some (.slice Ao18 t974.length co18) := (blk_cell BK981.out 1).trans rfl
    have hcz56_2 : w22.cell? ⟨gb981, 2, none⟩ = some (.slice Ao19 t977.length co19) := (blk_cell BK981.out 2).trans rfl
    have hfz56_0 := blk_frozen BK981.out 0
    have hfz56_1 := blk_frozen BK981.out 1
    have hfz56_2 := blk_frozen BK981.out 2
    have hnb57 := NB992_970.out
    have hnc57 := NB970_992.out
    have hcz58_0 : w22.cell? ⟨gb992, 0, none⟩ = some (.slice none 0 0) := (blk_cell BK992.out 0).trans rfl
    have hcz58_1 : w22.cell? ⟨gb992, 1, none⟩ = some (.slice none 0 0) := (blk_cell BK992.out 1).trans rfl
    have hcz58_2 : w22.cell? ⟨gb992, 2, none⟩ = some (.slice none 0 0) := (blk_cell BK992.out 2).trans rfl
    have hfz58_0 := blk_frozen BK992.out 0
    have hfz58_1 := blk_frozen BK992.out 1
    have hfz58_2 := blk_frozen BK992.out 2
    go_wp2_with (first | ((with_reducible refine gate_callee (f := 18) rfl ?_); refine goesL_ (some 38) rfl rfl Try.func18 (by kernel_rfl) rfl #[.agg #[.slice Ao15 t971.length co15, .slice Ao18 t974.length co18, .slice Ao19 t977.length co19], .agg #[.slice Ao23 t982.length co23, .slice Ao27 t985.length co27, .slice Ao28 t988.length co28]] rfl (by (try simp only [List.map_toArray, List.map_cons, List.map_nil]); first | done | rfl | (simp only [List.length_drop, List.length_take]; rfl)) ?_; (with_reducible refine (impl_HeapSame.calls k _ _ t971 _ _ t974 _ _ t977 _ _ t982 _ _ t985 _ _ t988 false _ ?side1 ?side2 ?side3 ?side4 ?side5 ?side6 ?side7 ?side8 ?side9 ?side10 ?side11 ?side12 A29.out).mono ?_); (case side1 => exact (Kd.R_reads' (rf1 BK992.out HO973.out)).2.2); (case side2 => exact (Kd.R_reads' HO973.out).2.1); (case side3 => exact (Kd.R_reads' (rf1 BK992.out HO976.out)).2.2); (case side4 => exact (Kd.R_reads' HO976.out).2.1); (case side5 => exact (Kd.R_reads' (rf1 BK992.out HO979.out)).2.2); (case side6 => exact (Kd.R_reads' HO979.out).2.1); (case side7 => exact (Kd.R_reads' (rf1 BK992.out HO984.out)).2.2); (case side8 => exact (Kd.R_reads' HO984.out).2.1); (case side9 => exact (Kd.R_reads' (rf1 BK992.out HO987.out)).2.2); (case side10 => exact (Kd.R_reads' HO987.out).2.1); (case side11 => exact (Kd.R_reads' (rf1 BK992.out HO990.out)).2.2); (case side12 => exact (Kd.R_reads' HO990.out).2.1); rintro e w59 ⟨rfl, hb⟩; refine ⟨_, rfl, ?_⟩; replace HO961 := am (Kd.R_below (rf1 BK992.out HO961.out) hb); replace HO964 := am (Kd.R_below (rf1 BK992.out HO964.out) hb); replace HO967 := am (Kd.R_below (rf1 BK992.out HO967.out) hb); replace HO973 := am (Kd.R_below (rf1 BK992.out HO973.out) hb); replace HO976 := am (Kd.R_below (rf1 BK992.out HO976.out) hb); replace HO979 := am (Kd.R_below (rf1 BK992.out HO979.out) hb); replace HO984 := am (Kd.R_below (rf1 BK992.out HO984.out) hb); replace HO987 := am (Kd.R_below (rf1 BK992.out HO987.out) hb); replace HO990 := am (Kd.R_below (rf1 BK992.out HO990.out) hb); replace BK970 := am (blk_below (g := gb970) (o := .cells #[.slice Ao9 t959.length co9, .slice Ao11 t962.length co11, .slice Ao12 t965.length co12] 25 (0, 0)) (kf1 NB970_992.out BK970.out) hb); replace BK981 := am (blk_below (g := gb981) (o := .cells #[.slice Ao15 t971.length co15, .slice Ao18 t974.length co18, .slice Ao19 t977.length co19] 25 (0, 0)) (kf1 NB981_992.out BK981.out) hb); replace BK992 := am (blk_below (g := gb992) (o := .cells #[.slice Ao23 t982.length co23, .slice Ao27 t985.length co27, .slice Ao28 t988.length co28] 25 (0, 0)) (kp3 (kf0 BK992.out)) hb); replace HB := am (below_step (bs3 GE970.out GE981.out GE992.out HB.out) hb); (try clear hb); (try clear hb2); (try clear hk); (try clear hi)))
    go_meet
    case rel => exact ⟨_, (true), (by first | rfl | (simp; done) | (simp [*]; done)), H', ⟨by first | omega | exact Nat.le_refl _⟩, ⟨rl (Kd.R_mono HO961.out (fun _ hk => by simp only [ne_eq] at hk ⊢; simp only [hk, not_false_eq_true, and_self]))⟩, ⟨rl (Kd.R_mono HO964.out (fun _ hk => by simp only [ne_eq] at hk ⊢; simp only [hk, not_false_eq_true, and_self]))⟩, ⟨rl (Kd.R_mono HO967.out (fun _ hk => by simp only [ne_eq] at hk ⊢; simp only [hk, not_false_eq_true, and_self]))⟩, ⟨rl (Kd.R_mono HO973.out (fun _ hk => by simp only [ne_eq] at hk ⊢; simp only [hk, not_false_eq_true, and_self]))⟩, ⟨rl (Kd.R_mono HO976.out (fun _ hk => by simp only [ne_eq] at hk ⊢; simp only [hk, not_false_eq_true, and_self]))⟩, ⟨rl (Kd.R_mono HO979.out (fun _ hk => by simp only [ne_eq] at hk ⊢; simp only [hk, not_false_eq_true, and_self]))⟩, ⟨rl (Kd.R_mono HO984.out (fun _ hk => by simp only [ne_eq] at hk ⊢; simp only [hk, not_false_eq_true, and_self]))⟩, ⟨rl (Kd.R_mono HO987.out (fun _ hk => by simp only [ne_eq] at hk ⊢; simp only [hk, not_false_eq_true, and_self]))⟩, ⟨rl (Kd.R_mono HO990.out (fun _ hk => by simp only [ne_eq] at hk ⊢; simp only [hk, not_false_eq_true, and_self]))⟩, ⟨kl BK970.out⟩, ⟨kl BK981.out⟩, ⟨kl BK992.out⟩, ⟨by exact bs3 GE970.out GE981.out GE992.out HB.out⟩⟩
  case rest =>
   clear HC6
   try clear c1
   try clear c2
   try clear c2b0
   try clear c2b1
   try clear p2
   try clear c3
   try clear c4
   try clear c5
   try clear p9
   try clear q9
   try clear hx9
   try clear c10
   try clear c15
   try clear c16
   try clear c17
   try clear c18
   try clear c24
   try clear c25
   try clear c30
   try clear c31
   try clear c31b0
   try clear c31b1
   try clear c31b2
   try clear c32
   try clear c33
   try clear c35
   try clear c38
   try clear c39
   try clear c39b0
   try clear c40
   try clear c40b0
   try clear c41
   try clear c42
   try clear c44
   try clear c48
   try clear c49
   try clear c51
   try clear c54
   try clear c55
   try clear c57
   try clear hcz10_0
   try clear hcz10_1
   try clear hcz10_2
   try clear hcz17_0
   try clear hcz17_1
   try clear hcz17_2
   try clear hcz20_0
   try clear hcz20_1
   try clear hcz20_2
   try clear hcz26_0
   try clear hcz26_1
   try clear hcz26_2
   try clear hcz34_0
   try clear hcz34_1
   try clear hcz34_2
   try clear hcz36_0
   try clear hcz36_1
   try clear hcz36_2
   try clear hcz43_0
   try clear hcz43_1
   try clear hcz43_2
   try clear hcz45_0
   try clear hcz45_1
   try clear hcz45_2
   try clear hcz47_0
   try clear hcz47_1
   try clear hcz47_2
   try clear hcz50_0
   try clear hcz50_1
   try clear hcz50_2
   try clear hcz52_0
   try clear hcz52_1
   try clear hcz52_2
   try clear hcz56_0
   try clear hcz56_1
   try clear hcz56_2
   try clear hcz58_0
   try clear hcz58_1
   try clear hcz58_2
   try clear hfz10_0
   try clear hfz10_1
   try clear hfz10_2
   try clear hfz17_0
   try clear hfz17_1
   try clear hfz17_2
   try clear hfz20_0
   try clear hfz20_1
   try clear hfz20_2
   try clear hfz26_0
   try clear hfz26_1
   try clear hfz26_2
   try clear hfz34_0
   try clear hfz34_1
   try clear hfz34_2
   try clear hfz36_0
   try clear hfz36_1
   try clear hfz36_2
   try clear hfz43_0
   try clear hfz43_1
   try clear hfz43_2
   try clear hfz45_0
   try clear hfz45_1
   try clear hfz45_2
   try clear hfz47_0
   try clear hfz47_1
   try clear hfz47_2
   try clear hfz50_0
   try clear hfz50_1
   try clear hfz50_2
   try clear hfz52_0
   try clear hfz52_1
   try clear hfz52_2
   try clear hfz56_0
   try clear hfz56_1
   try clear hfz56_2
   try clear hfz58_0
   try clear hfz58_1
   try clear hfz58_2
   try clear hx994_0
   try clear p994
   try clear q994
   obtain ⟨kq, x56_5, rfl, HA, HJ5, HO_971000, HO_971001, HO_971002, HO_982000, HO_982001, HO_982002, HO_993000, HO_993001, HO_993002, BK970, BK981, BK992, HB⟩ := hcut
   cases kq with
   | zero => exact absurd HA.out (by simp [laws_FnReachMore.j0])
   | succ kj5 =>
    have H := HA.out
    clear HA
    simp only [laws_FnReachMore.j0] at H
    by_cases c60 : x56_5 = true
    ·subst c60
     have H1 : ((impl_HeapSame.f kj5 t971 t974 t977 t982 t985 t988).bind fun t995 => (if t995 = true then (some (t980 == t991)) else (none))) = some r := by rw [if_pos rfl] at H; exact H
     clear H
     have H := H1
     clear H1
     replace H := Option.bind_eq_some_iff.mp H
     obtain ⟨t995, A610, H⟩ := H
     replace H : (if t995 = true then (some (t980 == t991)) else (none)) = some r := H
     have A61 := am A610
     clear A610
     by_cases c62 : t995 = true
     ·subst c62
      have H1 : (some (t980 == t991)) = some r := by rw [if_pos rfl] at H; exact H
      clear H
      have H := H1
      clear H1
      obtain rfl := Option.some.inj H
      have hnb63 := NB981_970.out
      have hnc63 := NB970_981.out
      have hnb64 := NB981_992.out
      have hnc64 := NB992_981.out
      have hcz65_0 : wc.cell? ⟨gb981, 0, none⟩ = some (.slice Ao15 t971.length co15) := (blk_cell BK981.out 0).trans rfl
      have hcz65_1 : wc.cell? ⟨gb981, 1, none⟩ = some (.slice Ao18 t974.length co18) := (blk_cell BK981.out 1).trans rfl
      have hcz65_2 : wc.cell? ⟨gb981, 2, none⟩ = some (.slice Ao19 t977.length co19) := (blk_cell BK981.out 2).trans rfl
      have hfz65_0 := blk_frozen BK981.out 0
      have hfz65_1 := blk_frozen BK981.out 1
      have hfz65_2 := blk_frozen BK981.out 2
      have hnb66 := NB992_970.out
      have hnc66 := NB970_992.out
      have hcz67_0 : wc.cell? ⟨gb992, 0, none⟩ = some (.slice Ao23 t982.length co23) := (blk_cell BK992.out 0).trans rfl
      have hcz67_1 : wc.cell? ⟨gb992, 1, none⟩ = some (.slice Ao27 t985.length co27) := (blk_cell BK992.out 1).trans rfl
      have hcz67_2 : wc.cell? ⟨gb992, 2, none⟩ = some (.slice Ao28 t988.length co28) := (blk_cell BK992.out 2).trans rfl
      have hfz67_0 := blk_frozen BK992.out 0
      have hfz67_1 := blk_frozen BK992.out 1
      have hfz67_2 := blk_frozen BK992.out 2
      go_wp2_with (first | ((with_reducible refine gate_callee (f := 18) rfl ?_); refine goesL_ (some 59) rfl rfl Try.func18 (by kernel_rfl) rfl #[.agg #[.slice Ao15 t971.length co15, .slice Ao18 t974.length co18, .slice Ao19 t977.length co19], .agg #[.slice Ao23 t982.length co23, .slice Ao27 t985.length co27, .slice Ao28 t988.length co28]] rfl (by (try simp only [List.map_toArray, List.map_cons, List.map_nil]); first | done | rfl | (simp only [List.length_drop, List.length_take]; rfl)) ?_; (with_reducible refine (impl_HeapSame.calls kj5 _ _ t971 _ _ t974 _ _ t977 _ _ t982 _ _ t985 _ _ t988 true _ ?side1 ?side2 ?side3 ?side4 ?side5 ?side6 ?side7 ?side8 ?side9 ?side10 ?side11 ?side12 A61.out).mono ?_); (case side1 => exact cl ((Kd.R_reads' HO_982000.out).2.2)); (case side2 => exact (Kd.R_reads' HO_982000.out).2.1); (case side3 => exact cl ((Kd.R_reads' HO_982001.out).2.2)); (case side4 => exact (Kd.R_reads' HO_982001.out).2.1); (case side5 => exact cl ((Kd.R_reads' HO_982002.out).2.2)); (case side6 => exact (Kd.R_reads' HO_982002.out).2.1); (case side7 => exact cl ((Kd.R_reads' HO_993000.out).2.2)); (case side8 => exact (Kd.R_reads' HO_993000.out).2.1); (case side9 => exact cl ((Kd.R_reads' HO_993001.out).2.2)); (case side10 => exact (Kd.R_reads' HO_993001.out).2.1); (case side11 => exact cl ((Kd.R_reads' HO_993002.out).2.2)); (case side12 => exact (Kd.R_reads' HO_993002.out).2.1); rintro e w68 ⟨rfl, hb⟩; refine ⟨_, rfl, ?_⟩; replace HO_971000 := am (Kd.R_below (rl HO_971000.out) hb); replace HO_971001 := am (Kd.R_below (rl HO_971001.out) hb); replace HO_971002 := am (Kd.R_below (rl HO_971002.out) hb); replace HO_982000 := am (Kd.R_below (rl HO_982000.out) hb); replace HO_982001 := am (Kd.R_below (rl HO_982001.out) hb); replace HO_982002 := am (Kd.R_below (rl HO_982002.out) hb); replace HO_993000 := am (Kd.R_below (rl HO_993000.out) hb); replace HO_993001 := am (Kd.R_below (rl HO_993001.out) hb); replace HO_993002 := am (Kd.R_below (rl HO_993002.out) hb); replace BK970 := am (blk_below (g := gb970) (o := .cells #[.slice Ao9 t959.length co9, .slice Ao11 t962.length co11, .slice Ao12 t965.length co12] 25 (0, 0)) (kl BK970.out) hb); replace BK981 := am (blk_below (g := gb981) (o := .cells #[.slice Ao15 t971.length co15, .slice Ao18 t974.length co18, .slice Ao19 t977.length co19] 25 (0, 0)) (kl BK981.out) hb); replace BK992 := am (blk_below (g := gb992) (o := .cells #[.slice Ao23 t982.length co23, .slice Ao27 t985.length co27, .slice Ao28 t988.length co28] 25 (0, 0)) (kl BK992.out) hb); replace HB := am (below_step (bs3 GE970.out GE981.out GE992.out HB.out) hb); (try clear hb); (try clear hb2); (try clear hk); (try clear hi)))
      go_ret
      exact ⟨by first | rfl | (simp [errW_none, errW_some] <;> rfl) | (simp [*, errW_none, errW_some] <;> rfl), by exact bs3 GE970.out GE981.out GE992.out HB.out⟩
     ·replace c62 := Bool.eq_false_iff.mpr c62
      subst c62
      have H1 : (none) = some r := by rw [if_neg (show ¬ (false = true) by decide)] at H; exact H
      clear H
      have H := H1
      clear H1
      exact absurd H (by simp)
    ·replace c60 := Bool.eq_false_iff.mpr c60
     subst c60
     have H1 : ((impl_Reachable.f kj5 t959 t962 t965).bind fun t996 => ((impl_Reachable.f kj5 t971 t974 t977).bind fun t999 => (laws_FnReachMore.l0 kj5 t996 t999 0))) = some r := by rw [if_neg (show ¬ (false = true) by decide)] at H; exact H
     clear H
     have H := H1
     clear H1
     replace H := Option.bind_eq_some_iff.mp H
     obtain ⟨t996, A690, H⟩ := H
     replace H : ((impl_Reachable.f kj5 t971 t974 t977).bind fun t999 => (laws_FnReachMore.l0 kj5 t996 t999 0)) = some r := H
     have A69 := am A690
     clear A690
     replace H := Option.bind_eq_some_iff.mp H
     obtain ⟨t999, A700, H⟩ := H
     replace H : (laws_FnReachMore.l0 kj5 t996 t999 0) = some r := H
     have A70 := am A700
     clear A700
     have H' := am H
     clear H
     have hnb71 := NB970_981.out
     have hnc71 := NB981_970.out
     have hnb72 := NB970_992.out
     have hnc72 := NB992_970.out
     have hcz73_0 : wc.cell? ⟨gb970, 0, none⟩ = some (.slice Ao9 t959.length co9) := (blk_cell BK970.out 0).trans rfl
     have hcz73_1 : wc.cell? ⟨gb970, 1, none⟩ = some (.slice Ao11 t962.length co11) := (blk_cell BK970.out 1).trans rfl
     have hcz73_2 : wc.cell? ⟨gb970, 2, none⟩ = some (.slice Ao12 t965.length co12) := (blk_cell BK970.out 2).trans rfl
     have hfz73_0 := blk_frozen BK970.out 0
     have hfz73_1 := blk_frozen BK970.out 1
     have hfz73_2 := blk_frozen BK970.out 2
     go_wp2_with (first | ((with_reducible refine gate_callee (f := 24) rfl ?_); refine goesL_ (some 66) rfl rfl Try.func24 (by kernel_rfl) rfl #[.agg #[.slice Ao9 t959.length co9, .slice Ao11 t962.length co11, .slice Ao12 t965.length co12]] rfl (by (try simp only [List.map_toArray, List.map_cons, List.map_nil]); first | done | rfl | (simp only [List.length_drop, List.length_take]; rfl)) ?_; (with_reducible refine (impl_Reachable.calls kj5 _ _ t959 _ _ t962 _ _ t965 t996 _ ?side1 ?side2 ?side3 ?side4 ?side5 ?side6 A69.out).mono ?_); (case side1 => exact cl ((Kd.R_reads' HO_971000.out).2.2)); (case side2 => exact (Kd.R_reads' HO_971000.out).2.1); (case side3 => exact cl ((Kd.R_reads' HO_971001.out).2.2)); (case side4 => exact (Kd.R_reads' HO_971001.out).2.1); (case side5 => exact cl ((Kd.R_reads' HO_971002.out).2.2)); (case side6 => exact (Kd.R_reads' HO_971002.out).2.1); rintro e w74 ⟨v997, rfl, ho0, hb⟩; refine ⟨_, rfl, ?_⟩; replace HO_971000 := am (Kd.R_below (rl HO_971000.out) hb); replace HO_971001 := am (Kd.R_below (rl HO_971001.out) hb); replace HO_971002 := am (Kd.R_below (rl HO_971002.out) hb); replace HO_982000 := am (Kd.R_below (rl HO_982000.out) hb); replace HO_982001 := am (Kd.R_below (rl HO_982001.out) hb); replace HO_982002 := am (Kd.R_below (rl HO_982002.out) hb); replace HO_993000 := am (Kd.R_below (rl HO_993000.out) hb); replace HO_993001 := am (Kd.R_below (rl HO_993001.out) hb); replace HO_993002 := am (Kd.R_below (rl HO_993002.out) hb); have HO998 := am (Kd.R_lower ho0 (below_size (bs3 GE970.out GE981.out GE992.out HB.out))); replace BK970 := am (blk_below (g := gb970) (o := .cells #[.slice Ao9 t959.length co9, .slice Ao11 t962.length co11, .slice Ao12 t965.length co12] 25 (0, 0)) (kl BK970.out) hb); replace BK981 := am (blk_below (g := gb981) (o := .cells #[.slice Ao15 t971.length co15, .slice Ao18 t974.length co18, .slice Ao19 t977.length co19] 25 (0, 0)) (kl BK981.out) hb); replace BK992 := am (blk_below (g := gb992) (o := .cells #[.slice Ao23 t982.length co23, .slice Ao27 t985.length co27, .slice Ao28 t988.length co28] 25 (0, 0)) (kl BK992.out) hb); replace HB := am (below_step (bs3 GE970.out GE981.out GE992.out HB.out) hb); (try clear hb); (try clear hb2); (try clear hk); (try clear hi); (try clear ho0); have hnb75 := NB981_992.out; have hnc75 := NB992_981.out; have hcz76_0 : w74.cell? ⟨gb981, 0, none⟩ = some (.slice Ao15 t971.length co15) := (blk_cell BK981.out 0).trans rfl; have hcz76_1 : w74.cell? ⟨gb981, 1, none⟩ = some (.slice Ao18 t974.length co18) := (blk_cell BK981.out 1).trans rfl; have hcz76_2 : w74.cell? ⟨gb981, 2, none⟩ = some (.slice Ao19 t977.length co19) := (blk_cell BK981.out 2).trans rfl; have hfz76_0 := blk_frozen BK981.out 0; have hfz76_1 := blk_frozen BK981.out 1; have hfz76_2 := blk_frozen BK981.out 2) | ((with_reducible refine gate_callee (f := 24) rfl ?_); refine goesL_ (some 68) rfl rfl Try.func24 (by kernel_rfl) rfl #[.agg #[.slice Ao15 t971.length co15, .slice Ao18 t974.length co18, .slice Ao19 t977.length co19]] rfl (by (try simp only [List.map_toArray, List.map_cons, List.map_nil]); first | done | rfl | (simp only [List.length_drop, List.length_take]; rfl)) ?_; (with_reducible refine (impl_Reachable.calls kj5 _ _ t971 _ _ t974 _ _ t977 t999 _ ?side1 ?side2 ?side3 ?side4 ?side5 ?side6 A70.out).mono ?_); (case side1 => exact cl ((Kd.R_reads' HO_982000.out).2.2)); (case side2 => exact (Kd.R_reads' HO_982000.out).2.1); (case side3 => exact cl ((Kd.R_reads' HO_982001.out).2.2)); (case side4 => exact (Kd.R_reads' HO_982001.out).2.1); (case side5 => exact cl ((Kd.R_reads' HO_982002.out).2.2)); (case side6 => exact (Kd.R_reads' HO_982002.out).2.1); rintro e w77 ⟨v1000, rfl, ho0, hb⟩; refine ⟨_, rfl, ?_⟩; replace HO_971000 := am (Kd.R_below (rl HO_971000.out) hb); replace HO_971001 := am (Kd.R_below (rl HO_971001.out) hb); replace HO_971002 := am (Kd.R_below (rl HO_971002.out) hb); replace HO_982000 := am (Kd.R_below (rl HO_982000.out) hb); replace HO_982001 := am (Kd.R_below (rl HO_982001.out) hb); replace HO_982002 := am (Kd.R_below (rl HO_982002.out) hb); replace HO_993000 := am (Kd.R_below (rl HO_993000.out) hb); replace HO_993001 := am (Kd.R_below (rl HO_993001.out) hb); replace HO_993002 := am (Kd.R_below (rl HO_993002.out) hb); have HO1001 := am (Kd.R_lower (Kd.R_new' ho0 (Kd.R_lt (rl HO998.out))) (below_size (bs3 GE970.out GE981.out GE992.out HB.out))); replace HO998 := am (Kd.R_elder' (rl HO998.out) (Kd.R_base ho0) hb); replace BK970 := am (blk_below (g := gb970) (o := .cells #[.slice Ao9 t959.length co9, .slice Ao11 t962.length co11, .slice Ao12 t965.length co12] 25 (0, 0)) (kl BK970.out) hb); replace BK981 := am (blk_below (g := gb981) (o := .cells #[.slice Ao15 t971.length co15, .slice Ao18 t974.length co18, .slice Ao19 t977.length co19] 25 (0, 0)) (kl BK981.out) hb); replace BK992 := am (blk_below (g := gb992) (o := .cells #[.slice Ao23 t982.length co23, .slice Ao27 t985.length co27, .slice Ao28 t988.length co28] 25 (0, 0)) (kl BK992.out) hb); replace HB := am (below_step (bs3 GE970.out GE981.out GE992.out HB.out) hb); (try clear hb); (try clear hb2); (try clear hk); (try clear hi); (try clear ho0)))
     go_loopg [12] kj5 (fun kq v12 w' => ∃ (x12_2 : Int), v12 = .int .i64 x12_2 ∧ Aside0 (laws_FnReachMore.l0 kq t996 t999 x12_2 = some r) ∧ Aside0 (kq ≤ kj5) ∧ Aside0 (Kd.R Kd.bool 4 w' w.heap.size (fun k_ => some k_ ≠ (v1000 : Value).ownBlock) v997 t996) ∧ Aside0 (Kd.R Kd.bool 4 w' w.heap.size (fun k_ => some k_ ≠ (v997 : Value).ownBlock) v1000 t999) ∧ Aside0 (Below w.heap.size w w'))
     case atStart => exact ⟨(0), (by first | rfl | (simp; done) | (simp [*]; done)), H', ⟨Nat.le_refl _⟩, ⟨rl (Kd.R_mono HO998.out (fun _ hk => by first | exact hk.2 | (simp only [ne_eq] at hk ⊢; simp only [hk, not_false_eq_true, and_self])))⟩, ⟨rl (Kd.R_mono HO1001.out (fun _ hk => by first | exact hk.2 | (simp only [ne_eq] at hk ⊢; simp only [hk, not_false_eq_true, and_self])))⟩, ⟨by exact bs3 GE970.out GE981.out GE992.out HB.out⟩⟩
     case round =>
      clear H'
      try clear c1
      try clear c2
      try clear c2b0
      try clear c2b1
      try clear p2
      try clear c3
      try clear c4
      try clear c5
      try clear c6
      try clear c7
      try clear p9
      try clear q9
      try clear hx9
      try clear c10
      try clear c15
      try clear c16
      try clear c17
      try clear c18
      try clear c24
      try clear c25
      try clear c30
      try clear c31
      try clear c31b0
      try clear c31b1
      try clear c31b2
      try clear c32
      try clear c33
      try clear c35
      try clear c38
      try clear c39
      try clear c39b0
      try clear c40
      try clear c40b0
      try clear c41
      try clear c42
      try clear c44
      try clear c48
      try clear c49
      try clear c51
      try clear c54
      try clear c55
      try clear c57
      try clear c60
      try clear c62
      try clear c63
      try clear c64
      try clear c66
      try clear c71
      try clear c72
      try clear c75
      try clear hcz10_0
      try clear hcz10_1
      try clear hcz10_2
      try clear hcz17_0
      try clear hcz17_1
      try clear hcz17_2
      try clear hcz20_0
      try clear hcz20_1
      try clear hcz20_2
      try clear hcz26_0
      try clear hcz26_1
      try clear hcz26_2
      try clear hcz34_0
      try clear hcz34_1
      try clear hcz34_2
      try clear hcz36_0
      try clear hcz36_1
      try clear hcz36_2
      try clear hcz43_0
      try clear hcz43_1
      try clear hcz43_2
      try clear hcz45_0
      try clear hcz45_1
      try clear hcz45_2
      try clear hcz47_0
      try clear hcz47_1
      try clear hcz47_2
      try clear hcz50_0
      try clear hcz50_1
      try clear hcz50_2
      try clear hcz52_0
      try clear hcz52_1
      try clear hcz52_2
      try clear hcz56_0
      try clear hcz56_1
      try clear hcz56_2
      try clear hcz58_0
      try clear hcz58_1
      try clear hcz58_2
      try clear hcz65_0
      try clear hcz65_1
      try clear hcz65_2
      try clear hcz67_0
      try clear hcz67_1
      try clear hcz67_2
      try clear hcz73_0
      try clear hcz73_1
      try clear hcz73_2
      try clear hcz76_0
      try clear hcz76_1
      try clear hcz76_2
      try clear hfz10_0
      try clear hfz10_1
      try clear hfz10_2
      try clear hfz17_0
      try clear hfz17_1
      try clear hfz17_2
      try clear hfz20_0
      try clear hfz20_1
      try clear hfz20_2
      try clear hfz26_0
      try clear hfz26_1
      try clear hfz26_2
      try clear hfz34_0
      try clear hfz34_1
      try clear hfz34_2
      try clear hfz36_0
      try clear hfz36_1
      try clear hfz36_2
      try clear hfz43_0
      try clear hfz43_1
      try clear hfz43_2
      try clear hfz45_0
      try clear hfz45_1
      try clear hfz45_2
      try clear hfz47_0
      try clear hfz47_1
      try clear hfz47_2
      try clear hfz50_0
      try clear hfz50_1
      try clear hfz50_2
      try clear hfz52_0
      try clear hfz52_1
      try clear hfz52_2
      try clear hfz56_0
      try clear hfz56_1
      try clear hfz56_2
      try clear hfz58_0
      try clear hfz58_1
      try clear hfz58_2
      try clear hfz65_0
      try clear hfz65_1
      try clear hfz65_2
      try clear hfz67_0
      try clear hfz67_1
      try clear hfz67_2
      try clear hfz73_0
      try clear hfz73_1
      try clear hfz73_2
      try clear hfz76_0
      try clear hfz76_1
      try clear hfz76_2
      try clear hx994_0
      try clear p2
      try clear p9
      try clear p994
      try clear q9
      try clear q994
      obtain ⟨x12_2, rfl, HA, HK2, HO_10, HO_11, HB⟩ := hrel
      cases gk with
      | zero => exact absurd HA.out (by simp [laws_FnReachMore.l0])
      | succ k2 =>
       have H := HA.out
       clear HA
       simp only [laws_FnReachMore.l0] at H
       by_cases c78 : x12_2 < (t996.length : Int)
       ·rw [if_pos c78] at H
        have c78b0 : decide (x12_2 < (t996.length : Int)) = true := decide_eq_true c78
        clear c78
        by_cases c79 : 0 ≤ x12_2
        ·rw [if_pos c79] at H
         have c79b0 : decide (0 ≤ x12_2) = true := decide_eq_true c79
         clear c79
         obtain ⟨bq80, hbq80⟩ : ∃ b_ : Bool, b_ = (rdOf false t996 x12_2) := ⟨_, rfl⟩
         replace H : (if bq80 = true then (if x12_2 < (t999.length : Int) then (if rdOf false t999 x12_2 = true then (laws_FnReachMore.l0 k2 t996 t999 (wrap64 (x12_2 + 1))) else (none)) else (none)) else (laws_FnReachMore.l0 k2 t996 t999 (wrap64 (x12_2 + 1)))) = some r := by rw [← hbq80] at H; exact H
         have Nbq80 := am hbq80
         clear hbq80
         by_cases c81 : bq80 = true
         ·subst c81
          have H1 : (if x12_2 < (t999.length : Int) then (if rdOf false t999 x12_2 = true then (laws_FnReachMore.l0 k2 t996 t999 (wrap64 (x12_2 + 1))) else (none)) else (none)) = some r := by rw [if_pos rfl] at H; exact H
          clear H
          have H := H1
          clear H1
          by_cases c82 : x12_2 < (t999.length : Int)
          ·rw [if_pos c82] at H
           have c82b0 : decide (x12_2 < (t999.length : Int)) = true := decide_eq_true c82
           clear c82
           obtain ⟨bq83, hbq83⟩ : ∃ b_ : Bool, b_ = (rdOf false t999 x12_2) := ⟨_, rfl⟩
           replace H : (if bq83 = true then (laws_FnReachMore.l0 k2 t996 t999 (wrap64 (x12_2 + 1))) else (none)) = some r := by rw [← hbq83] at H; exact H
           have Nbq83 := am hbq83
           clear hbq83
           by_cases c84 : bq83 = true
           ·subst c84
            have H1 : (laws_FnReachMore.l0 k2 t996 t999 (wrap64 (x12_2 + 1))) = some r := by rw [if_pos rfl] at H; exact H
            clear H
            have H := H1
            clear H1
            have H' := am H
            clear H
            obtain ⟨Ao85, co85, eo85⟩ := Kd.R_slice HO_10.out
            subst eo85
            have p1002 : 0 ≤ (x12_2 : Int) := of_decide_eq_true (by first | (with_reducible assumption) | assumption)
            have q1002 : x12_2 < (t996.length : Int) := of_decide_eq_true (by first | (with_reducible assumption) | assumption)
            obtain ⟨ad1002, e1002, hx1002_0⟩ := Kd.at_bool (Kd.R_reads' HO_10.out).2.2 x12_2 p1002 q1002
            (try rw [← Nbq80.out] at hx1002_0)
            (try rw [← Nbq83.out] at hx1002_0)
            cases e1002
            replace p1002 := eq_true p1002
            replace q1002 := eq_true q1002
            obtain ⟨Ao86, co86, eo86⟩ := Kd.R_slice HO_11.out
            subst eo86
            have p1003 : 0 ≤ (x12_2 : Int) := of_decide_eq_true (by first | (with_reducible assumption) | assumption)
            have q1003 : x12_2 < (t999.length : Int) := of_decide_eq_true (by first | (with_reducible assumption) | assumption)
            obtain ⟨ad1003, e1003, hx1003_0⟩ := Kd.at_bool (Kd.R_reads' HO_11.out).2.2 x12_2 p1003 q1003
            (try rw [← Nbq80.out] at hx1003_0)
            (try rw [← Nbq83.out] at hx1003_0)
            cases e1003
            replace p1003 := eq_true p1003
            replace q1003 := eq_true q1003
            go_wp2
            go_roundg k2
            case measure => have := HJ5.out; have := HK2.out; omega
            case rel => exact ⟨(wrap64 (x12_2 + 1)), (by first | rfl | (simp; done) | (simp [*]; done)), H', ⟨by have := HJ5.out; have := HK2.out; omega⟩, ⟨rl HO_10.out⟩, ⟨rl HO_11.out⟩, ⟨by exact bs0 HB.out⟩⟩
           ·replace c84 := Bool.eq_false_iff.mpr c84
            subst c84
            have H1 : (none) = some r := by rw [if_neg (show ¬ (false = true) by decide)] at H; exact H
            clear H
            have H := H1
            clear H1
            exact absurd H (by simp)
          ·rw [if_neg c82] at H
           exact absurd H (by simp)
         ·replace c81 := Bool.eq_false_iff.mpr c81
          subst c81
          have H1 : (laws_FnReachMore.l0 k2 t996 t999 (wrap64 (x12_2 + 1))) = some r := by rw [if_neg (show ¬ (false = true) by decide)] at H; exact H
          clear H
          have H := H1
          clear H1
          have H' := am H
          clear H
          obtain ⟨Ao87, co87, eo87⟩ := Kd.R_slice HO_10.out
          subst eo87
          have p1002 : 0 ≤ (x12_2 : Int) := of_decide_eq_true (by first | (with_reducible assumption) | assumption)
          have q1002 : x12_2 < (t996.length : Int) := of_decide_eq_true (by first | (with_reducible assumption) | assumption)
          obtain ⟨ad1002, e1002, hx1002_0⟩ := Kd.at_bool (Kd.R_reads' HO_10.out).2.2 x12_2 p1002 q1002
          (try rw [← Nbq80.out] at hx1002_0)
          cases e1002
          replace p1002 := eq_true p1002
          replace q1002 := eq_true q1002
          go_wp2
          go_roundg k2
          case measure => have := HJ5.out; have := HK2.out; omega
          case rel => exact ⟨(wrap64 (x12_2 + 1)), (by first | rfl | (simp; done) | (simp [*]; done)), H', ⟨by have := HJ5.out; have := HK2.out; omega⟩, ⟨rl HO_10.out⟩, ⟨rl HO_11.out⟩, ⟨by exact bs0 HB.out⟩⟩
        ·rw [if_neg c79] at H
         exact absurd H (by simp)
       ·rw [if_neg c78] at H
        have c78b0 : decide (x12_2 < (t996.length : Int)) = false := decide_eq_false c78
        clear c78
        obtain rfl := Option.some.inj H
        obtain ⟨Ao88, co88, eo88⟩ := Kd.R_slice HO_10.out
        subst eo88
        obtain ⟨Ao89, co89, eo89⟩ := Kd.R_slice HO_11.out
        subst eo89
        go_wp2
        go_ret
        exact ⟨by first | rfl | (simp [errW_none, errW_some] <;> rfl) | (simp [*, errW_none, errW_some] <;> rfl), by exact bs0 HB.out⟩

/-- THE ONE PURE STATEMENT of laws_FnReachMore: yours. -/
def laws_FnReachMore.Pure : Prop := ∀ (l0 : List Int), l0.length ≤ maxLen → l0.length * 1 ≤ 140737488351232 → (∀ x ∈ l0, (Lit.int .u8 x).wf = true) → ∃ k, laws_FnReachMore.f k l0 = some true
theorem laws_FnReachMore.walk (P : laws_FnReachMore.Pure) (a0 : Option Addr) (len0 cap0 : Nat) (z0 : List Int) (w : World) (w0 : (a0 = none ∧ len0 = 0 ∧ cap0 = 0 ∧ z0 = []) ∨ ∃ x, a0 = some x ∧ len0 ≤ cap0 ∧ cap0 ≤ maxLen ∧ z0.length = cap0 ∧ (∀ i, i < z0.length → w.cell? (x.add i) = some (.int .u8 (z0.getD i 0))) ∧ ∀ n ∈ z0, (Lit.int .u8 n).wf = true) (y0 : len0 * 1 ≤ 140737488351232) :
  Calls Try.prog 10 #[.slice a0 len0 cap0] w fun e w' => e = .returned (.bool true) ∧ Below w.heap.size w w' := by
 obtain ⟨l0, rfl, hr0, hm0, hw0, hc0⟩ := ReadsInt.ofRowC w0
 obtain ⟨k, h⟩ := P l0 hm0 y0 hw0
 refine (laws_FnReachMore.calls k _ _ l0 true w (Kd.C_of_reads (d := (0 : Int)) (h1 := fun _ => rfl) hr0) hc0 h).mono ?_
 rintro e w' ⟨rfl, hd⟩
 exact ⟨rfl, hd⟩

end Go.Proofs.Ytcofdgeelojebab.A
