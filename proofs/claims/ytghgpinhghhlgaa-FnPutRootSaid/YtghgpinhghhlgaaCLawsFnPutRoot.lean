/- Contracts of functions of the given program (CLawsFnPutRoot). No conditions beyond those stated. -/
import Derived.Test.YtghgpinhghhlgaaA0
import Derived.Test.YtghgpinhghhlgaaAImplHeapSame
import Derived.Test.YtghgpinhghhlgaaAImplHeapValid
import Derived.Test.YtghgpinhghhlgaaAImplPutRoot
import Derived.Test.YtghgpinhghhlgaaASpecDrawPutRoot
import Derived.Test.YtghgpinhghhlgaaASpecPutRoot
import Derived.Test.YtghgpinhghhlgaaA0
namespace Go.Proofs.Ytghgpinhghhlgaa.A
open Go.RowKit Go.Proofs.YtghgpinhghhlgaaW.PrintWords Go.Proofs.YtghgpinhghhlgaaW.PrintLast Go.Proofs.YtghgpinhghhlgaaW.PrintMore
attribute [local go_sem] max2_int min2_int max_two min_two max_three min_three max_four min_four   -- for this text's walks alone
set_option linter.unusedVariables false
set_option linter.unusedSimpArgs false

/-! ### laws_FnPutRoot -/
def laws_FnPutRoot.j0 : Nat → Int → Int → Bool → Bool → Bool → List Int → List Int → List Int → List Int → List Int → List Int → List Int → List Int → List Int → Option (Bool)
 | 0, _, _, _, _, _, _, _, _, _, _, _, _, _, _ => none
 | k + 1, x4, x5, x7, x9, x47, x342000, x342001, x342002, x353000, x353001, x353002, x364000, x364001, x364002 => if x47 = true then ((impl_HeapSame.f k x353000 x353001 x353002 x364000 x364001 x364002).bind fun t365 => (if t365 = true then (some (x7 == x9)) else (none))) else (if 0 ≤ x4 then (if x4 < (x342002.length : Int) then ((impl_PutRoot.f k x353000 x353001 x353002 x4 (rd x342002 x4)).bind fun bt367 => ((impl_HeapValid.f k x353000 x353001 x353002).bind fun t378 => (if t378 = true then (if x4 < (x353002.length : Int) then (if (rd x353002 x4) = x5 then (if bt367.2.2.2 = true then ((impl_HeapSame.f k bt367.1 bt367.2.1 bt367.2.2.1 x342000 x342001 x342002).bind fun t380 => (some t380)) else (none)) else (none)) else (none)) else (none)))) else (none)) else (none))
def laws_FnPutRoot.f (k : Nat) (l0 : List Int) : Option (Bool) := if (l0.length : Int) > 1048576 then (some true) else ((spec_DrawPutRoot.f k l0).bind fun bt330 => ((impl_PutRoot.f k bt330.1 bt330.2.1 bt330.2.2.1 bt330.2.2.2.1 bt330.2.2.2.2).bind fun bt342 => ((spec_PutRoot.f k bt330.1 bt330.2.1 bt330.2.2.1 bt330.2.2.2.1 bt330.2.2.2.2).bind fun bt353 => ((impl_HeapSame.f k bt342.1 bt342.2.1 bt342.2.2.1 bt353.1 bt353.2.1 bt353.2.2.1).bind fun t364 => (if t364 = true then (if (bt342.2.2.2 != bt353.2.2.2) = true then (laws_FnPutRoot.j0 k bt330.2.2.2.1 bt330.2.2.2.2 bt342.2.2.2 bt353.2.2.2 true bt330.1 bt330.2.1 bt330.2.2.1 bt342.1 bt342.2.1 bt342.2.2.1 bt353.1 bt353.2.1 bt353.2.2.1) else (laws_FnPutRoot.j0 k bt330.2.2.2.1 bt330.2.2.2.2 bt342.2.2.2 bt353.2.2.2 (!bt342.2.2.2) bt330.1 bt330.2.1 bt330.2.2.1 bt342.1 bt342.2.1 bt342.2.2.1 bt353.1 bt353.2.1 bt353.2.2.1)) else (laws_FnPutRoot.j0 k bt330.2.2.2.1 bt330.2.2.2.2 bt342.2.2.2 bt353.2.2.2 true bt330.1 bt330.2.1 bt330.2.2.1 bt342.1 bt342.2.1 bt342.2.2.1 bt353.1 bt353.2.1 bt353.2.2.1))))))
theorem laws_FnPutRoot.mono_l : ∀ k, (∀ y0 y1 y2 y3 y4 y5 y6 y7 y8 y9 y10 y11 y12 y13, LeO (laws_FnPutRoot.j0 k y0 y1 y2 y3 y4 y5 y6 y7 y8 y9 y10 y11 y12 y13) (laws_FnPutRoot.j0 (k + 1) y0 y1 y2 y3 y4 y5 y6 y7 y8 y9 y10 y11 y12 y13))
 | 0 => fun _ _ _ _ _ _ _ _ _ _ _ _ _ _ r h => by simp [laws_FnPutRoot.j0] at h
 | k + 1 => by
  have ih0 := laws_FnPutRoot.mono_l k
  ·intro y0 y1 y2 y3 y4 y5 y6 y7 y8 y9 y10 y11 y12 y13
   unfold laws_FnPutRoot.j0
   repeat' first
   | (with_reducible exact ih0 _ _ _ _ _ _ _ _ _ _ _ _ _ _)
   | (with_reducible exact impl_HeapSame.mono _ _ _ _ _ _ _)
   | (with_reducible exact impl_HeapValid.mono _ _ _ _)
   | (with_reducible exact impl_PutRoot.mono _ _ _ _ _ _)
   | (with_reducible exact spec_DrawPutRoot.mono _ _)
   | (with_reducible exact spec_PutRoot.mono _ _ _ _ _ _)
   | (with_reducible exact LeO.refl _)
   | (with_reducible exact LeO.none _)
   | (with_reducible refine LeO.ite ?_ ?_)
   | (with_reducible refine LeO.bind ?_ (fun _ => ?_))
   | exact ih0 _ _ _ _ _ _ _ _ _ _ _ _ _ _
   | exact impl_HeapSame.mono _ _ _ _ _ _ _
   | exact impl_HeapValid.mono _ _ _ _
   | exact impl_PutRoot.mono _ _ _ _ _ _
   | exact spec_DrawPutRoot.mono _ _
   | exact spec_PutRoot.mono _ _ _ _ _ _
   | exact LeO.none _
   | refine LeO.ite ?_ ?_
   | refine LeO.bind ?_ (fun _ => ?_)
theorem laws_FnPutRoot.mono : ∀ a0 k, LeO (laws_FnPutRoot.f k a0) (laws_FnPutRoot.f (k + 1) a0) := by
 intro a0 k
 have ih0 := laws_FnPutRoot.mono_l k
 unfold laws_FnPutRoot.f
 repeat' first
   | (with_reducible exact ih0 _ _ _ _ _ _ _ _ _ _ _ _ _ _)
   | (with_reducible exact impl_HeapSame.mono _ _ _ _ _ _ _)
   | (with_reducible exact impl_HeapValid.mono _ _ _ _)
   | (with_reducible exact impl_PutRoot.mono _ _ _ _ _ _)
   | (with_reducible exact spec_DrawPutRoot.mono _ _)
   | (with_reducible exact spec_PutRoot.mono _ _ _ _ _ _)
   | (with_reducible exact LeO.refl _)
   | (with_reducible exact LeO.none _)
   | (with_reducible refine LeO.ite ?_ ?_)
   | (with_reducible refine LeO.bind ?_ (fun _ => ?_))
   | exact ih0 _ _ _ _ _ _ _ _ _ _ _ _ _ _
   | exact impl_HeapSame.mono _ _ _ _ _ _ _
   | exact impl_HeapValid.mono _ _ _ _
   | exact impl_PutRoot.mono _ _ _ _ _ _
   | exact spec_DrawPutRoot.mono _ _
   | exact spec_PutRoot.mono _ _ _ _ _ _
   | exact LeO.none _
   | refine LeO.ite ?_ ?_
   | refine LeO.bind ?_ (fun _ => ?_)
def laws_FnPutRoot.T8 : Bool × List (List Nat × List Nat) := (true, [([], []), ([], []), ([], []), ([2], [2]), ([], []), ([3, 4], [3, 4]), ([5], [5]), ([0, 1, 6], [0, 1, 6]), ([7], [7]), ([8], [8]), ([8], [8]), ([], []), ([11, 9, 7, 0, 1, 2, 3, 4, 5, 6, 7, 8, 9, 11], [9, 11]), ([10, 12, 0, 1, 2, 3, 4, 5, 6, 7, 8, 9, 10, 11, 12], [10])])
def laws_FnPutRoot.B8 : List Nat := [0, 0, 0, 4, 0, 28, 60, 127, 255, 511, 511, 0, 3071, 8191]
theorem laws_FnPutRoot.tab8 : rtab .any (opsOf Try.f3 8) = laws_FnPutRoot.T8 := by kernel_rfl
theorem laws_FnPutRoot.bits8 : waitsOk laws_FnPutRoot.T8.2 laws_FnPutRoot.B8 = true := by kernel_rfl
set_option maxHeartbeats 8000000 in
set_option maxRecDepth 100000 in
theorem laws_FnPutRoot.calls (k : Nat) (A0 : Option Addr) (c0 : Nat) (l0 : List Int) (r : Bool) (w : World) (hr0 : Kd.C (Kd.int .u8) w A0 l0.length l0) (hc0 : l0.length ≤ c0) (h : laws_FnPutRoot.f k l0 = some r) :
  Calls Try.prog 3 #[.slice A0 l0.length c0] w fun e w' => e = .returned (.bool r) ∧ Below w.heap.size w w' := by
 have hu25 := Try.underlying25
 have HR0 := am hr0
 have HC0 := am hc0
 clear hr0 hc0
 have HB := am (Below.refl w.heap.size w)
 have H : (if (l0.length : Int) > 1048576 then (some true) else ((spec_DrawPutRoot.f k l0).bind fun bt330 => ((impl_PutRoot.f k bt330.1 bt330.2.1 bt330.2.2.1 bt330.2.2.2.1 bt330.2.2.2.2).bind fun bt342 => ((spec_PutRoot.f k bt330.1 bt330.2.1 bt330.2.2.1 bt330.2.2.2.1 bt330.2.2.2.2).bind fun bt353 => ((impl_HeapSame.f k bt342.1 bt342.2.1 bt342.2.2.1 bt353.1 bt353.2.1 bt353.2.2.1).bind fun t364 => (if t364 = true then (if (bt342.2.2.2 != bt353.2.2.2) = true then (laws_FnPutRoot.j0 k bt330.2.2.2.1 bt330.2.2.2.2 bt342.2.2.2 bt353.2.2.2 true bt330.1 bt330.2.1 bt330.2.2.1 bt342.1 bt342.2.1 bt342.2.2.1 bt353.1 bt353.2.1 bt353.2.2.1) else (laws_FnPutRoot.j0 k bt330.2.2.2.1 bt330.2.2.2.2 bt342.2.2.2 bt353.2.2.2 (!bt342.2.2.2) bt330.1 bt330.2.1 bt330.2.2.1 bt342.1 bt342.2.1 bt342.2.2.1 bt353.1 bt353.2.1 bt353.2.2.1)) else (laws_FnPutRoot.j0 k bt330.2.2.2.1 bt330.2.2.2.2 bt342.2.2.2 bt353.2.2.2 true bt330.1 bt330.2.1 bt330.2.2.1 bt342.1 bt342.2.1 bt342.2.2.1 bt353.1 bt353.2.1 bt353.2.2.1))))))) = some r := h
 clear h
 by_cases c2 : (l0.length : Int) > 1048576
 ·rw [if_pos c2] at H
  have c2b0 : decide (1048576 < (l0.length : Int)) = true := decide_eq_true c2
  have c2b1 : decide (1048576 < l0.length) = true := decide_eq_true (by omega)
  clear c2
  obtain rfl := Option.some.inj H
  go_enter Try.func3, Try.ntmps3
  go_wp2
  go_ret
  exact ⟨by first | rfl | (simp [errW_none, errW_some] <;> rfl) | (simp [*, errW_none, errW_some] <;> rfl), by exact bs0 HB.out⟩
 ·rw [if_neg c2] at H
  have c2b0 : decide (1048576 < (l0.length : Int)) = false := decide_eq_false c2
  have c2b1 : decide (1048576 < l0.length) = false := decide_eq_false (by omega)
  clear c2
  replace H := Option.bind_eq_some_iff.mp H
  obtain ⟨⟨t330, t333, t336, t339, t340⟩, A30, H⟩ := H
  replace H : ((impl_PutRoot.f k t330 t333 t336 t339 t340).bind fun bt342 => ((spec_PutRoot.f k t330 t333 t336 t339 t340).bind fun bt353 => ((impl_HeapSame.f k bt342.1 bt342.2.1 bt342.2.2.1 bt353.1 bt353.2.1 bt353.2.2.1).bind fun t364 => (if t364 = true then (if (bt342.2.2.2 != bt353.2.2.2) = true then (laws_FnPutRoot.j0 k t339 t340 bt342.2.2.2 bt353.2.2.2 true t330 t333 t336 bt342.1 bt342.2.1 bt342.2.2.1 bt353.1 bt353.2.1 bt353.2.2.1) else (laws_FnPutRoot.j0 k t339 t340 bt342.2.2.2 bt353.2.2.2 (!bt342.2.2.2) t330 t333 t336 bt342.1 bt342.2.1 bt342.2.2.1 bt353.1 bt353.2.1 bt353.2.2.1)) else (laws_FnPutRoot.j0 k t339 t340 bt342.2.2.2 bt353.2.2.2 true t330 t333 t336 bt342.1 bt342.2.1 bt342.2.2.1 bt353.1 bt353.2.1 bt353.2.2.1))))) = some r := H
  have A3 := am A30
  clear A30
  replace H := Option.bind_eq_some_iff.mp H
  obtain ⟨⟨t342, t345, t348, t351⟩, A40, H⟩ := H
  replace H : ((spec_PutRoot.f k t330 t333 t336 t339 t340).bind fun bt353 => ((impl_HeapSame.f k t342 t345 t348 bt353.1 bt353.2.1 bt353.2.2.1).bind fun t364 => (if t364 = true then (if (t351 != bt353.2.2.2) = true then (laws_FnPutRoot.j0 k t339 t340 t351 bt353.2.2.2 true t330 t333 t336 t342 t345 t348 bt353.1 bt353.2.1 bt353.2.2.1) else (laws_FnPutRoot.j0 k t339 t340 t351 bt353.2.2.2 (!t351) t330 t333 t336 t342 t345 t348 bt353.1 bt353.2.1 bt353.2.2.1)) else (laws_FnPutRoot.j0 k t339 t340 t351 bt353.2.2.2 true t330 t333 t336 t342 t345 t348 bt353.1 bt353.2.1 bt353.2.2.1)))) = some r := H
  have A4 := am A40
  clear A40
  replace H := Option.bind_eq_some_iff.mp H
  obtain ⟨⟨t353, t356, t359, t362⟩, A50, H⟩ := H
  replace H : ((impl_HeapSame.f k t342 t345 t348 t353 t356 t359).bind fun t364 => (if t364 = true then (if (t351 != t362) = true then (laws_FnPutRoot.j0 k t339 t340 t351 t362 true t330 t333 t336 t342 t345 t348 t353 t356 t359) else (laws_FnPutRoot.j0 k t339 t340 t351 t362 (!t351) t330 t333 t336 t342 t345 t348 t353 t356 t359)) else (laws_FnPutRoot.j0 k t339 t340 t351 t362 true t330 t333 t336 t342 t345 t348 t353 t356 t359))) = some r := H
  have A5 := am A50
  clear A50
  have HC6 := am H
  clear H
  go_enter Try.func3, Try.ntmps3
  go_upto_region 6 with (first | ((with_reducible refine gate_callee (f := 13) rfl ?_); refine goesL_ (some 17) rfl rfl Try.func13 (by kernel_rfl) rfl #[.slice A0 l0.length c0] rfl (by (try simp only [List.map_toArray, List.map_cons, List.map_nil]); first | done | rfl | (simp only [List.length_drop, List.length_take]; rfl)) ?_; (with_reducible refine (spec_DrawPutRoot.calls k _ _ l0 t330 t333 t336 t339 t340 _ ?side1 ?side2 A3.out).mono ?_); (case side1 => exact cl (HR0.out)); (case side2 => exact HC0.out); rintro e w7 ⟨v331, v334, v337, rfl, ho0, ho1, ho2, hb⟩; refine ⟨_, rfl, ?_⟩; have HO332 := am (Kd.R_lower ho0 (below_size (bl HB.out))); have HO335 := am (Kd.R_lower ho1 (below_size (bl HB.out))); have HO338 := am (Kd.R_lower ho2 (below_size (bl HB.out))); replace HB := am (below_step (bl HB.out) hb); (try clear hb); (try clear hb2); (try clear hk); (try clear hi); (try clear ho0); (try clear ho1); (try clear ho2)) | ((with_reducible refine gate_dst (N := 3) rfl ?_); refine box_event ?hg (N := 3) ?hd (cs := #[.slice none 0 0, .slice none 0 0, .slice none 0 0]) (t := 25) ?hr ?_; (case hd => rfl); (case hg => rfl); (case hr => first | (go_simp; done) | (go_simp; rfl)); intro gb341 hg w8 hbox hb; replace HO332 := am (Kd.R_below (rl HO332.out) hb); replace HO335 := am (Kd.R_below (rl HO335.out) hb); replace HO338 := am (Kd.R_below (rl HO338.out) hb); have BK341 := am (hbox); have GW341 := am ((by rw [hg]; exact (below_size (bl HB.out)) : w.heap.size ≤ gb341)); have GE341 := am ((by rw [hg]; exact (below_size (bl HB.out)) : w.heap.size ≤ gb341)); replace HB := am (below_step (bl HB.out) hb); clear hb hbox hg; obtain ⟨Ao9, co9, eo9⟩ := Kd.R_slice HO332.out; subst eo9; have hcz10_0 : w8.cell? ⟨gb341, 0, none⟩ = some (.slice none 0 0) := (blk_cell BK341.out 0).trans rfl; have hcz10_1 : w8.cell? ⟨gb341, 1, none⟩ = some (.slice none 0 0) := (blk_cell BK341.out 1).trans rfl; have hcz10_2 : w8.cell? ⟨gb341, 2, none⟩ = some (.slice none 0 0) := (blk_cell BK341.out 2).trans rfl; have hfz10_0 := blk_frozen BK341.out 0; have hfz10_1 := blk_frozen BK341.out 1; have hfz10_2 := blk_frozen BK341.out 2; obtain ⟨Ao11, co11, eo11⟩ := Kd.R_slice HO335.out; subst eo11; obtain ⟨Ao12, co12, eo12⟩ := Kd.R_slice HO338.out; subst eo12) | ((with_reducible refine gate_callee (f := 14) rfl ?_); refine goesL_ (some 25) rfl rfl Try.func14 (by kernel_rfl) rfl #[.agg #[.slice Ao9 t330.length co9, .slice Ao11 t333.length co11, .slice Ao12 t336.length co12], .int .i64 t339, .int .i64 t340] rfl (by (try simp only [List.map_toArray, List.map_cons, List.map_nil]); first | done | rfl | (simp only [List.length_drop, List.length_take]; rfl)) ?_; (with_reducible refine (impl_PutRoot.calls k _ _ t330 _ _ t333 _ _ t336 t339 t340 t342 t345 t348 t351 _ ?side1 ?side2 ?side3 ?side4 ?side5 ?side6 A4.out).mono ?_); (case side1 => exact (Kd.R_reads' (rf1 BK341.out HO332.out)).2.2); (case side2 => exact (Kd.R_reads' HO332.out).2.1); (case side3 => exact (Kd.R_reads' (rf1 BK341.out HO335.out)).2.2); (case side4 => exact (Kd.R_reads' HO335.out).2.1); (case side5 => exact (Kd.R_reads' (rf1 BK341.out HO338.out)).2.2); (case side6 => exact (Kd.R_reads' HO338.out).2.1); rintro e w13 ⟨v343, v346, v349, rfl, ho0, ho1, ho2, hb⟩; refine ⟨_, rfl, ?_⟩; have HO344 := am (Kd.R_lower (Kd.R_new' (Kd.R_new' (Kd.R_new' ho0 (Kd.R_lt (rf1 BK341.out HO332.out))) (Kd.R_lt (rf1 BK341.out HO335.out))) (Kd.R_lt (rf1 BK341.out HO338.out))) (below_size (bs1 GE341.out HB.out))); have HO347 := am (Kd.R_lower (Kd.R_new' (Kd.R_new' (Kd.R_new' ho1 (Kd.R_lt (rf1 BK341.out HO332.out))) (Kd.R_lt (rf1 BK341.out HO335.out))) (Kd.R_lt (rf1 BK341.out HO338.out))) (below_size (bs1 GE341.out HB.out))); have HO350 := am (Kd.R_lower (Kd.R_new' (Kd.R_new' (Kd.R_new' ho2 (Kd.R_lt (rf1 BK341.out HO332.out))) (Kd.R_lt (rf1 BK341.out HO335.out))) (Kd.R_lt (rf1 BK341.out HO338.out))) (below_size (bs1 GE341.out HB.out))); replace HO332 := am (Kd.R_mono (Kd.R_told (Kd.R_told (Kd.R_told (Kd.R_old (rf1 BK341.out HO332.out) hb) (Kd.R_base ho0)) (Kd.R_base ho1)) (Kd.R_base ho2)) (fun _ h_ => h_.1)); replace HO335 := am (Kd.R_mono (Kd.R_told (Kd.R_told (Kd.R_told (Kd.R_old (rf1 BK341.out HO335.out) hb) (Kd.R_base ho0)) (Kd.R_base ho1)) (Kd.R_base ho2)) (fun _ h_ => h_.1)); replace HO338 := am (Kd.R_mono (Kd.R_told (Kd.R_told (Kd.R_told (Kd.R_old (rf1 BK341.out HO338.out) hb) (Kd.R_base ho0)) (Kd.R_base ho1)) (Kd.R_base ho2)) (fun _ h_ => h_.1)); replace BK341 := am (blk_below (g := gb341) (o := .cells #[.slice Ao9 t330.length co9, .slice Ao11 t333.length co11, .slice Ao12 t336.length co12] 25 (0, 0)) (kp3 (kf0 BK341.out)) hb); replace HB := am (below_step (bs1 GE341.out HB.out) hb); (try clear hb); (try clear hb2); (try clear hk); (try clear hi); (try clear ho0); (try clear ho1); (try clear ho2)) | ((with_reducible refine gate_dst (N := 6) rfl ?_); refine box_event ?hg (N := 6) ?hd (cs := #[.slice none 0 0, .slice none 0 0, .slice none 0 0]) (t := 25) ?hr ?_; (case hd => rfl); (case hg => rfl); (case hr => first | (go_simp; done) | (go_simp; rfl)); intro gb352 hg w14 hbox hb; replace HO332 := am (Kd.R_below (rl HO332.out) hb); replace HO335 := am (Kd.R_below (rl HO335.out) hb); replace HO338 := am (Kd.R_below (rl HO338.out) hb); replace HO344 := am (Kd.R_below (rl HO344.out) hb); replace HO347 := am (Kd.R_below (rl HO347.out) hb); replace HO350 := am (Kd.R_below (rl HO350.out) hb); have BK352 := am (hbox); have GW352 := am ((by rw [hg]; exact (below_size (bs1 GE341.out HB.out)) : w.heap.size ≤ gb352)); have GE352 := am ((by rw [hg]; exact (below_size (bs1 GE341.out HB.out)) : w.heap.size ≤ gb352)); replace HB := am (below_step (bs1 GE341.out HB.out) hb); have NB341_352 := am ((by rw [hg]; exact Nat.ne_of_lt (blk_lt (g := gb341) (o := .cells #[.slice Ao9 t330.length co9, .slice Ao11 t333.length co11, .slice Ao12 t336.length co12] 25 (0, 0)) (kl BK341.out)) : gb341 ≠ gb352)); have NB352_341 := am ((by rw [hg]; exact Nat.ne_of_gt (blk_lt (g := gb341) (o := .cells #[.slice Ao9 t330.length co9, .slice Ao11 t333.length co11, .slice Ao12 t336.length co12] 25 (0, 0)) (kl BK341.out)) : gb352 ≠ gb341)); replace BK341 := am (blk_below (g := gb341) (o := .cells #[.slice Ao9 t330.length co9, .slice Ao11 t333.length co11, .slice Ao12 t336.length co12] 25 (0, 0)) (kl BK341.out) hb); clear hb hbox hg; obtain ⟨Ao15, co15, eo15⟩ := Kd.R_slice HO344.out; subst eo15; have hnb16 := NB352_341.out; have hnc16 := NB341_352.out; have hcz17_0 : w14.cell? ⟨gb352, 0, none⟩ = some (.slice none 0 0) := (blk_cell BK352.out 0).trans rfl; have hcz17_1 : w14.cell? ⟨gb352, 1, none⟩ = some (.slice none 0 0) := (blk_cell BK352.out 1).trans rfl; have hcz17_2 : w14.cell? ⟨gb352, 2, none⟩ = some (.slice none 0 0) := (blk_cell BK352.out 2).trans rfl; have hfz17_0 := blk_frozen BK352.out 0; have hfz17_1 := blk_frozen BK352.out 1; have hfz17_2 := blk_frozen BK352.out 2; obtain ⟨Ao18, co18, eo18⟩ := Kd.R_slice HO347.out; subst eo18; obtain ⟨Ao19, co19, eo19⟩ := Kd.R_slice HO350.out; subst eo19; have hcz20_0 : w14.cell? ⟨gb341, 0, none⟩ = some (.slice Ao9 t330.length co9) := (blk_cell BK341.out 0).trans rfl; have hcz20_1 : w14.cell? ⟨gb341, 1, none⟩ = some (.slice Ao11 t333.length co11) := (blk_cell BK341.out 1).trans rfl; have hcz20_2 : w14.cell? ⟨gb341, 2, none⟩ = some (.slice Ao12 t336.length co12) := (blk_cell BK341.out 2).trans rfl; have hfz20_0 := blk_frozen BK341.out 0; have hfz20_1 := blk_frozen BK341.out 1; have hfz20_2 := blk_frozen BK341.out 2) | ((with_reducible refine gate_callee (f := 15) rfl ?_); refine goesL_ (some 32) rfl rfl Try.func15 (by kernel_rfl) rfl #[.agg #[.slice Ao9 t330.length co9, .slice Ao11 t333.length co11, .slice Ao12 t336.length co12], .int .i64 t339, .int .i64 t340] rfl (by (try simp only [List.map_toArray, List.map_cons, List.map_nil]); first | done | rfl | (simp only [List.length_drop, List.length_take]; rfl)) ?_; (with_reducible refine (spec_PutRoot.calls k _ _ t330 _ _ t333 _ _ t336 t339 t340 t353 t356 t359 t362 _ ?side1 ?side2 ?side3 ?side4 ?side5 ?side6 A5.out).mono ?_); (case side1 => exact (Kd.R_reads' (rf1 BK352.out HO332.out)).2.2); (case side2 => exact (Kd.R_reads' HO332.out).2.1); (case side3 => exact (Kd.R_reads' (rf1 BK352.out HO335.out)).2.2); (case side4 => exact (Kd.R_reads' HO335.out).2.1); (case side5 => exact (Kd.R_reads' (rf1 BK352.out HO338.out)).2.2); (case side6 => exact (Kd.R_reads' HO338.out).2.1); rintro e w21 ⟨v354, v357, v360, rfl, ho0, ho1, ho2, hb⟩; refine ⟨_, rfl, ?_⟩; have HO355 := am (Kd.R_lower (Kd.R_new' (Kd.R_new' (Kd.R_new' (Kd.R_new' (Kd.R_new' (Kd.R_new' ho0 (Kd.R_lt (rf1 BK352.out HO332.out))) (Kd.R_lt (rf1 BK352.out HO335.out))) (Kd.R_lt (rf1 BK352.out HO338.out))) (Kd.R_lt (rf1 BK352.out HO344.out))) (Kd.R_lt (rf1 BK352.out HO347.out))) (Kd.R_lt (rf1 BK352.out HO350.out))) (below_size (bs2 GE341.out GE352.out HB.out))); have HO358 := am (Kd.R_lower (Kd.R_new' (Kd.R_new' (Kd.R_new' (Kd.R_new' (Kd.R_new' (Kd.R_new' ho1 (Kd.R_lt (rf1 BK352.out HO332.out))) (Kd.R_lt (rf1 BK352.out HO335.out))) (Kd.R_lt (rf1 BK352.out HO338.out))) (Kd.R_lt (rf1 BK352.out HO344.out))) (Kd.R_lt (rf1 BK352.out HO347.out))) (Kd.R_lt (rf1 BK352.out HO350.out))) (below_size (bs2 GE341.out GE352.out HB.out))); have HO361 := am (Kd.R_lower (Kd.R_new' (Kd.R_new' (Kd.R_new' (Kd.R_new' (Kd.R_new' (Kd.R_new' ho2 (Kd.R_lt (rf1 BK352.out HO332.out))) (Kd.R_lt (rf1 BK352.out HO335.out))) (Kd.R_lt (rf1 BK352.out HO338.out))) (Kd.R_lt (rf1 BK352.out HO344.out))) (Kd.R_lt (rf1 BK352.out HO347.out))) (Kd.R_lt (rf1 BK352.out HO350.out))) (below_size (bs2 GE341.out GE352.out HB.out))); replace HO332 := am (Kd.R_mono (Kd.R_told (Kd.R_told (Kd.R_told (Kd.R_old (rf1 BK352.out HO332.out) hb) (Kd.R_base ho0)) (Kd.R_base ho1)) (Kd.R_base ho2)) (fun _ h_ => h_.1)); replace HO335 := am (Kd.R_mono (Kd.R_told (Kd.R_told (Kd.R_told (Kd.R_old (rf1 BK352.out HO335.out) hb) (Kd.R_base ho0)) (Kd.R_base ho1)) (Kd.R_base ho2)) (fun _ h_ => h_.1)); replace HO338 := am (Kd.R_mono (Kd.R_told (Kd.R_told (Kd.R_told (Kd.R_old (rf1 BK352.out HO338.out) hb) (Kd.R_base ho0)) (Kd.R_base ho1)) (Kd.R_base ho2)) (fun _ h_ => h_.1)); replace HO344 := am (Kd.R_mono (Kd.R_told (Kd.R_told (Kd.R_told (Kd.R_old (rf1 BK352.out HO344.out) hb) (Kd.R_base ho0)) (Kd.R_base ho1)) (Kd.R_base ho2)) (fun _ h_ => h_.1)); replace HO347 := am (Kd.R_mono (Kd.R_told (Kd.R_told (Kd.R_told (Kd.R_old (rf1 BK352.out HO347.out) hb) (Kd.R_base ho0)) (Kd.R_base ho1)) (Kd.R_base ho2)) (fun _ h_ => h_.1)); replace HO350 := am (Kd.R_mono (Kd.R_told (Kd.R_told (Kd.R_told (Kd.R_old (rf1 BK352.out HO350.out) hb) (Kd.R_base ho0)) (Kd.R_base ho1)) (Kd.R_base ho2)) (fun _ h_ => h_.1)); replace BK341 := am (blk_below (g := gb341) (o := .cells #[.slice Ao9 t330.length co9, .slice Ao11 t333.length co11, .slice Ao12 t336.length co12] 25 (0, 0)) (kf1 NB341_352.out BK341.out) hb); replace BK352 := am (blk_below (g := gb352) (o := .cells #[.slice Ao15 t342.length co15, .slice Ao18 t345.length co18, .slice Ao19 t348.length co19] 25 (0, 0)) (kp3 (kf0 BK352.out)) hb); replace HB := am (below_step (bs2 GE341.out GE352.out HB.out) hb); (try clear hb); (try clear hb2); (try clear hk); (try clear hi); (try clear ho0); (try clear ho1); (try clear ho2)) | ((with_reducible refine gate_dst (N := 8) rfl ?_); refine box_event ?hg (N := 8) ?hd (cs := #[.slice none 0 0, .slice none 0 0, .slice none 0 0]) (t := 25) ?hr ?_; (case hd => rfl); (case hg => rfl); (case hr => first | (go_simp; done) | (go_simp; rfl)); intro gb363 hg w22 hbox hb; replace HO332 := am (Kd.R_below (rl HO332.out) hb); replace HO335 := am (Kd.R_below (rl HO335.out) hb); replace HO338 := am (Kd.R_below (rl HO338.out) hb); replace HO344 := am (Kd.R_below (rl HO344.out) hb); replace HO347 := am (Kd.R_below (rl HO347.out) hb); replace HO350 := am (Kd.R_below (rl HO350.out) hb); replace HO355 := am (Kd.R_below (rl HO355.out) hb); replace HO358 := am (Kd.R_below (rl HO358.out) hb); replace HO361 := am (Kd.R_below (rl HO361.out) hb); have BK363 := am (hbox); have GW363 := am ((by rw [hg]; exact (below_size (bs2 GE341.out GE352.out HB.out)) : w.heap.size ≤ gb363)); have GE363 := am ((by rw [hg]; exact (below_size (bs2 GE341.out GE352.out HB.out)) : w.heap.size ≤ gb363)); replace HB := am (below_step (bs2 GE341.out GE352.out HB.out) hb); have NB341_363 := am ((by rw [hg]; exact Nat.ne_of_lt (blk_lt (g := gb341) (o := .cells #[.slice Ao9 t330.length co9, .slice Ao11 t333.length co11, .slice Ao12 t336.length co12] 25 (0, 0)) (kl BK341.out)) : gb341 ≠ gb363)); have NB363_341 := am ((by rw [hg]; exact Nat.ne_of_gt (blk_lt (g := gb341) (o := .cells #[.slice Ao9 t330.length co9, .slice Ao11 t333.length co11, .slice Ao12 t336.length co12] 25 (0, 0)) (kl BK341.out)) : gb363 ≠ gb341)); replace BK341 := am (blk_below (g := gb341) (o := .cells #[.slice Ao9 t330.length co9, .slice Ao11 t333.length co11, .slice Ao12 t336.length co12] 25 (0, 0)) (kl BK341.out) hb); have NB352_363 := am ((by rw [hg]; exact Nat.ne_of_lt (blk_lt (g := gb352) (o := .cells #[.slice Ao15 t342.length co15, .slice Ao18 t345.length co18, .slice Ao19 t348.length co19] 25 (0, 0)) (kl BK352.out)) : gb352 ≠ gb363)); have NB363_352 := am ((by rw [hg]; exact Nat.ne_of_gt (blk_lt (g := gb352) (o := .cells #[.slice Ao15 t342.length co15, .slice Ao18 t345.length co18, .slice Ao19 t348.length co19] 25 (0, 0)) (kl BK352.out)) : gb363 ≠ gb352)); replace BK352 := am (blk_below (g := gb352) (o := .cells #[.slice Ao15 t342.length co15, .slice Ao18 t345.length co18, .slice Ao19 t348.length co19] 25 (0, 0)) (kl BK352.out) hb); clear hb hbox hg; obtain ⟨Ao23, co23, eo23⟩ := Kd.R_slice HO355.out; subst eo23; have hnb24 := NB363_341.out; have hnc24 := NB341_363.out; have hnb25 := NB363_352.out; have hnc25 := NB352_363.out; have hcz26_0 : w22.cell? ⟨gb363, 0, none⟩ = some (.slice none 0 0) := (blk_cell BK363.out 0).trans rfl; have hcz26_1 : w22.cell? ⟨gb363, 1, none⟩ = some (.slice none 0 0) := (blk_cell BK363.out 1).trans rfl; have hcz26_2 : w22.cell? ⟨gb363, 2, none⟩ = some (.slice none 0 0) := (blk_cell BK363.out 2).trans rfl; have hfz26_0 := blk_frozen BK363.out 0; have hfz26_1 := blk_frozen BK363.out 1; have hfz26_2 := blk_frozen BK363.out 2; obtain ⟨Ao27, co27, eo27⟩ := Kd.R_slice HO358.out; subst eo27; obtain ⟨Ao28, co28, eo28⟩ := Kd.R_slice HO361.out; subst eo28))
  (try simp only [Act.put, List.setIfInBounds_toArray, List.set_cons_zero, List.set_cons_succ])
  go_cut [47] (fun v47 wc => ∃ (kq : Nat) (x47_5 : Bool), v47 = .bool x47_5 ∧ Aside0 (laws_FnPutRoot.j0 kq t339 t340 t351 t362 x47_5 t330 t333 t336 t342 t345 t348 t353 t356 t359 = some r) ∧ Aside0 (kq ≤ k) ∧ Aside0 (Kd.R (Kd.int .i64) 3 wc w.heap.size (fun k_ => some k_ ≠ ((.slice Ao11 t333.length co11) : Value).ownBlock ∧ some k_ ≠ ((.slice Ao12 t336.length co12) : Value).ownBlock ∧ some k_ ≠ ((.slice Ao15 t342.length co15) : Value).ownBlock ∧ some k_ ≠ ((.slice Ao18 t345.length co18) : Value).ownBlock ∧ some k_ ≠ ((.slice Ao19 t348.length co19) : Value).ownBlock ∧ some k_ ≠ ((.slice Ao23 t353.length co23) : Value).ownBlock ∧ some k_ ≠ ((.slice Ao27 t356.length co27) : Value).ownBlock ∧ some k_ ≠ ((.slice Ao28 t359.length co28) : Value).ownBlock) (.slice Ao9 t330.length co9) t330) ∧ Aside0 (Kd.R (Kd.int .i64) 3 wc w.heap.size (fun k_ => some k_ ≠ ((.slice Ao9 t330.length co9) : Value).ownBlock ∧ some k_ ≠ ((.slice Ao12 t336.length co12) : Value).ownBlock ∧ some k_ ≠ ((.slice Ao15 t342.length co15) : Value).ownBlock ∧ some k_ ≠ ((.slice Ao18 t345.length co18) : Value).ownBlock ∧ some k_ ≠ ((.slice Ao19 t348.length co19) : Value).ownBlock ∧ some k_ ≠ ((.slice Ao23 t353.length co23) : Value).ownBlock ∧ some k_ ≠ ((.slice Ao27 t356.length co27) : Value).ownBlock ∧ some k_ ≠ ((.slice Ao28 t359.length co28) : Value).ownBlock) (.slice Ao11 t333.length co11) t333) ∧ Aside0 (Kd.R (Kd.int .i64) 3 wc w.heap.size (fun k_ => some k_ ≠ ((.slice Ao9 t330.length co9) : Value).ownBlock ∧ some k_ ≠ ((.slice Ao11 t333.length co11) : Value).ownBlock ∧ some k_ ≠ ((.slice Ao15 t342.length co15) : Value).ownBlock ∧ some k_ ≠ ((.slice Ao18 t345.length co18) : Value).ownBlock ∧ some k_ ≠ ((.slice Ao19 t348.length co19) : Value).ownBlock ∧ some k_ ≠ ((.slice Ao23 t353.length co23) : Value).ownBlock ∧ some k_ ≠ ((.slice Ao27 t356.length co27) : Value).ownBlock ∧ some k_ ≠ ((.slice Ao28 t359.length co28) : Value).ownBlock) (.slice Ao12 t336.length co12) t336) ∧ Aside0 (Kd.R (Kd.int .i64) 3 wc w.heap.size (fun k_ => some k_ ≠ ((.slice Ao9 t330.length co9) : Value).ownBlock ∧ some k_ ≠ ((.slice Ao11 t333.length co11) : Value).ownBlock ∧ some k_ ≠ ((.slice Ao12 t336.length co12) : Value).ownBlock ∧ some k_ ≠ ((.slice Ao18 t345.length co18) : Value).ownBlock ∧ some k_ ≠ ((.slice Ao19 t348.length co19) : Value).ownBlock ∧ some k_ ≠ ((.slice Ao23 t353.length co23) : Value).ownBlock ∧ some k_ ≠ ((.slice Ao27 t356.length co27) : Value).ownBlock ∧ some k_ ≠ ((.slice Ao28 t359.length co28) : Value).ownBlock) (.slice Ao15 t342.length co15) t342) ∧ Aside0 (Kd.R (Kd.int .i64) 3 wc w.heap.size (fun k_ => some k_ ≠ ((.slice Ao9 t330.length co9) : Value).ownBlock ∧ some k_ ≠ ((.slice Ao11 t333.length co11) : Value).ownBlock ∧ some k_ ≠ ((.slice Ao12 t336.length co12) : Value).ownBlock ∧ some k_ ≠ ((.slice Ao15 t342.length co15) : Value).ownBlock ∧ some k_ ≠ ((.slice Ao19 t348.length co19) : Value).ownBlock ∧ some k_ ≠ ((.slice Ao23 t353.length co23) : Value).ownBlock ∧ some k_ ≠ ((.slice Ao27 t356.length co27) : Value).ownBlock ∧ some k_ ≠ ((.slice Ao28 t359.length co28) : Value).ownBlock) (.slice Ao18 t345.length co18) t345) ∧ Aside0 (Kd.R (Kd.int .i64) 3 wc w.heap.size (fun k_ => some k_ ≠ ((.slice Ao9 t330.length co9) : Value).ownBlock ∧ some k_ ≠ ((.slice Ao11 t333.length co11) : Value).ownBlock ∧ some k_ ≠ ((.slice Ao12 t336.length co12) : Value).ownBlock ∧ some k_ ≠ ((.slice Ao15 t342.length co15) : Value).ownBlock ∧ some k_ ≠ ((.slice Ao18 t345.length co18) : Value).ownBlock ∧ some k_ ≠ ((.slice Ao23 t353.length co23) : Value).ownBlock ∧ some k_ ≠ ((.slice Ao27 t356.length co27) : Value).ownBlock ∧ some k_ ≠ ((.slice Ao28 t359.length co28) : Value).ownBlock) (.slice Ao19 t348.length co19) t348) ∧ Aside0 (Kd.R (Kd.int .i64) 3 wc w.heap.size (fun k_ => some k_ ≠ ((.slice Ao9 t330.length co9) : Value).ownBlock ∧ some k_ ≠ ((.slice Ao11 t333.length co11) : Value).ownBlock ∧ some k_ ≠ ((.slice Ao12 t336.length co12) : Value).ownBlock ∧ some k_ ≠ ((.slice Ao15 t342.length co15) : Value).ownBlock ∧ some k_ ≠ ((.slice Ao18 t345.length co18) : Value).ownBlock ∧ some k_ ≠ ((.slice Ao19 t348.length co19) : Value).ownBlock ∧ some k_ ≠ ((.slice Ao27 t356.length co27) : Value).ownBlock ∧ some k_ ≠ ((.slice Ao28 t359.length co28) : Value).ownBlock) (.slice Ao23 t353.length co23) t353) ∧ Aside0 (Kd.R (Kd.int .i64) 3 wc w.heap.size (fun k_ => some k_ ≠ ((.slice Ao9 t330.length co9) : Value).ownBlock ∧ some k_ ≠ ((.slice Ao11 t333.length co11) : Value).ownBlock ∧ some k_ ≠ ((.slice Ao12 t336.length co12) : Value).ownBlock ∧ some k_ ≠ ((.slice Ao15 t342.length co15) : Value).ownBlock ∧ some k_ ≠ ((.slice Ao18 t345.length co18) : Value).ownBlock ∧ some k_ ≠ ((.slice Ao19 t348.length co19) : Value).ownBlock ∧ some k_ ≠ ((.slice Ao23 t353.length co23) : Value).ownBlock ∧ some k_ ≠ ((.slice Ao28 t359.length co28) : Value).ownBlock) (.slice Ao27 t356.length co27) t356) ∧ Aside0 (Kd.R (Kd.int .i64) 3 wc w.heap.size (fun k_ => some k_ ≠ ((.slice Ao9 t330.length co9) : Value).ownBlock ∧ some k_ ≠ ((.slice Ao11 t333.length co11) : Value).ownBlock ∧ some k_ ≠ ((.slice Ao12 t336.length co12) : Value).ownBlock ∧ some k_ ≠ ((.slice Ao15 t342.length co15) : Value).ownBlock ∧ some k_ ≠ ((.slice Ao18 t345.length co18) : Value).ownBlock ∧ some k_ ≠ ((.slice Ao19 t348.length co19) : Value).ownBlock ∧ some k_ ≠ ((.slice Ao23 t353.length co23) : Value).ownBlock ∧ some k_ ≠ ((.slice Ao27 t356.length co27) : Value).ownBlock) (.slice Ao28 t359.length co28) t359) ∧ Aside0 (wc.heap[gb341]? = some (.cells #[(.slice Ao9 t330.length co9), (.slice Ao11 t333.length co11), (.slice Ao12 t336.length co12)] 25 (0, 0))) ∧ Aside0 (wc.heap[gb352]? = some (.cells #[(.slice Ao15 t342.length co15), (.slice Ao18 t345.length co18), (.slice Ao19 t348.length co19)] 25 (0, 0))) ∧ Aside0 (wc.heap[gb363]? = some (.cells #[(.slice Ao23 t353.length co23), (.slice Ao27 t356.length co27), (.slice Ao28 t359.length co28)] 25 (0, 0))) ∧ Aside0 (Below w.heap.size w wc))
  case first =>
   have H := HC6.out
   clear HC6
   replace H := Option.bind_eq_some_iff.mp H
   obtain ⟨t364, A290, H⟩ := H
   replace H : (if t364 = true then (if (t351 != t362) = true then (laws_FnPutRoot.j0 k t339 t340 t351 t362 true t330 t333 t336 t342 t345 t348 t353 t356 t359) else (laws_FnPutRoot.j0 k t339 t340 t351 t362 (!t351) t330 t333 t336 t342 t345 t348 t353 t356 t359)) else (laws_FnPutRoot.j0 k t339 t340 t351 t362 true t330 t333 t336 t342 t345 t348 t353 t356 t359)) = some r := H
   have A29 := am A290
   clear A290
   by_cases c30 : t364 = true
   ·subst c30
    have H1 : (if (t351 != t362) = true then (laws_FnPutRoot.j0 k t339 t340 t351 t362 true t330 t333 t336 t342 t345 t348 t353 t356 t359) else (laws_FnPutRoot.j0 k t339 t340 t351 t362 (!t351) t330 t333 t336 t342 t345 t348 t353 t356 t359)) = some r := by rw [if_pos rfl] at H; exact H
    clear H
    have H := H1
    clear H1
    by_cases c31 : (t351 != t362) = true
    ·rw [if_pos c31] at H
     have c31b0 : (t351 != t362) = true := c31
     (try (have c31b1 : decide (t351 = t362) = false := by simpa using c31))
     (try (have c31b2 : (t351 == t362) = false := by simpa using c31))
     (try (have c31b3 : ¬ (t351 = t362) := by simpa using c31))
     clear c31
     (first | rw [c31b0] | (simp only [i64_w, i32_w]; rw [c31b0]) | skip)
     have H' := am H
     clear H
     have hnb32 := NB352_341.out
     have hnc32 := NB341_352.out
     have hnb33 := NB352_363.out
     have hnc33 := NB363_352.out
     have hcz34_0 : w22.cell? ⟨gb352, 0, none⟩ = some (.slice Ao15 t342.length co15) := (blk_cell BK352.out 0).trans rfl
     have hcz34_1 : w22.cell? ⟨gb352, 1, none⟩ = some (.slice Ao18 t345.length co18) := (blk_cell BK352.out 1).trans rfl
     have hcz34_2 : w22.cell? ⟨gb352, 2, none⟩ = some (.slice Ao19 t348.length co19) := (blk_cell BK352.out 2).trans rfl
     have hfz34_0 := blk_frozen BK352.out 0
     have hfz34_1 := blk_frozen BK352.out 1
     have hfz34_2 := blk_frozen BK352.out 2
     have hnb35 := NB363_341.out
     have hnc35 := NB341_363.out
     have hcz36_0 : w22.cell? ⟨gb363, 0, none⟩ = some (.slice none 0 0) := (blk_cell BK363.out 0).trans rfl
     have hcz36_1 : w22.cell? ⟨gb363, 1, none⟩ = some (.slice none 0 0) := (blk_cell BK363.out 1).trans rfl
     have hcz36_2 : w22.cell? ⟨gb363, 2, none⟩ = some (.slice none 0 0) := (blk_cell BK363.out 2).trans rfl
     have hfz36_0 := blk_frozen BK363.out 0
     have hfz36_1 := blk_frozen BK363.out 1
     have hfz36_2 := blk_frozen BK363.out 2
     go_wp2_with (first | ((with_reducible refine gate_callee (f := 16) rfl ?_); refine goesL_ (some 37) rfl rfl Try.func16 (by kernel_rfl) rfl #[.agg #[.slice Ao15 t342.length co15, .slice Ao18 t345.length co18, .slice Ao19 t348.length co19], .agg #[.slice Ao23 t353.length co23, .slice Ao27 t356.length co27, .slice Ao28 t359.length co28]] rfl (by (try simp only [List.map_toArray, List.map_cons, List.map_nil]); first | done | rfl | (simp only [List.length_drop, List.length_take]; rfl)) ?_; (with_reducible refine (impl_HeapSame.calls k _ _ t342 _ _ t345 _ _ t348 _ _ t353 _ _ t356 _ _ t359 true _ ?side1 ?side2 ?side3 ?side4 ?side5 ?side6 ?side7 ?side8 ?side9 ?side10 ?side11 ?side12 A29.out).mono ?_); (case side1 => exact (Kd.R_reads' (rf1 BK363.out HO344.out)).2.2); (case side2 => exact (Kd.R_reads' HO344.out).2.1); (case side3 => exact (Kd.R_reads' (rf1 BK363.out HO347.out)).2.2); (case side4 => exact (Kd.R_reads' HO347.out).2.1); (case side5 => exact (Kd.R_reads' (rf1 BK363.out HO350.out)).2.2); (case side6 => exact (Kd.R_reads' HO350.out).2.1); (case side7 => exact (Kd.R_reads' (rf1 BK363.out HO355.out)).2.2); (case side8 => exact (Kd.R_reads' HO355.out).2.1); (case side9 => exact (Kd.R_reads' (rf1 BK363.out HO358.out)).2.2); (case side10 => exact (Kd.R_reads' HO358.out).2.1); (case side11 => exact (Kd.R_reads' (rf1 BK363.out HO361.out)).2.2); (case side12 => exact (Kd.R_reads' HO361.out).2.1); rintro e w37 ⟨rfl, hb⟩; refine ⟨_, rfl, ?_⟩; replace HO332 := am (Kd.R_below (rf1 BK363.out HO332.out) hb); replace HO335 := am (Kd.R_below (rf1 BK363.out HO335.out) hb); replace HO338 := am (Kd.R_below (rf1 BK363.out HO338.out) hb); replace HO344 := am (Kd.R_below (rf1 BK363.out HO344.out) hb); replace HO347 := am (Kd.R_below (rf1 BK363.out HO347.out) hb); replace HO350 := am (Kd.R_below (rf1 BK363.out HO350.out) hb); replace HO355 := am (Kd.R_below (rf1 BK363.out HO355.out) hb); replace HO358 := am (Kd.R_below (rf1 BK363.out HO358.out) hb); replace HO361 := am (Kd.R_below (rf1 BK363.out HO361.out) hb); replace BK341 := am (blk_below (g := gb341) (o := .cells #[.slice Ao9 t330.length co9, .slice Ao11 t333.length co11, .slice Ao12 t336.length co12] 25 (0, 0)) (kf1 NB341_363.out BK341.out) hb); replace BK352 := am (blk_below (g := gb352) (o := .cells #[.slice Ao15 t342.length co15, .slice Ao18 t345.length co18, .slice Ao19 t348.length co19] 25 (0, 0)) (kf1 NB352_363.out BK352.out) hb); replace BK363 := am (blk_below (g := gb363) (o := .cells #[.slice Ao23 t353.length co23, .slice Ao27 t356.length co27, .slice Ao28 t359.length co28] 25 (0, 0)) (kp3 (kf0 BK363.out)) hb); replace HB := am (below_step (bs3 GE341.out GE352.out GE363.out HB.out) hb); (try clear hb); (try clear hb2); (try clear hk); (try clear hi)))
     go_meet
     case rel => exact ⟨_, (true), (by first | rfl | (simp; done) | (simp [*]; done)), H', ⟨by first | omega | exact Nat.le_refl _⟩, ⟨rl (Kd.R_mono HO332.out (fun _ hk => by simp only [ne_eq] at hk ⊢; simp only [hk, not_false_eq_true, and_self]))⟩, ⟨rl (Kd.R_mono HO335.out (fun _ hk => by simp only [ne_eq] at hk ⊢; simp only [hk, not_false_eq_true, and_self]))⟩, ⟨rl (Kd.R_mono HO338.out (fun _ hk => by simp only [ne_eq] at hk ⊢; simp only [hk, not_false_eq_true, and_self]))⟩, ⟨rl (Kd.R_mono HO344.out (fun _ hk => by simp only [ne_eq] at hk ⊢; simp only [hk, not_false_eq_true, and_self]))⟩, ⟨rl (Kd.R_mono HO347.out (fun _ hk => by simp only [ne_eq] at hk ⊢; simp only [hk, not_false_eq_true, and_self]))⟩, ⟨rl (Kd.R_mono HO350.out (fun _ hk => by simp only [ne_eq] at hk ⊢; simp only [hk, not_false_eq_true, and_self]))⟩, ⟨rl (Kd.R_mono HO355.out (fun _ hk => by simp only [ne_eq] at hk ⊢; simp only [hk, not_false_eq_true, and_self]))⟩, ⟨rl (Kd.R_mono HO358.out (fun _ hk => by simp only [ne_eq] at hk ⊢; simp only [hk, not_false_eq_true, and_self]))⟩, ⟨rl (Kd.R_mono HO361.out (fun _ hk => by simp only [ne_eq] at hk ⊢; simp only [hk, not_false_eq_true, and_self]))⟩, ⟨kl BK341.out⟩, ⟨kl BK352.out⟩, ⟨kl BK363.out⟩, ⟨by exact bs3 GE341.out GE352.out GE363.out HB.out⟩⟩
    ·rw [if_neg c31] at H
     have c31b0 : (t351 != t362) = false := by simpa using c31
     (try (have c31b1 : decide (t351 = t362) = true := by simpa using c31))
     (try (have c31b2 : (t351 == t362) = true := by simpa using c31))
     clear c31
     (first | rw [c31b0] | (simp only [i64_w, i32_w]; rw [c31b0]) | skip)
     have H' := am H
     clear H
     have hnb38 := NB352_341.out
     have hnc38 := NB341_352.out
     have hnb39 := NB352_363.out
     have hnc39 := NB363_352.out
     have hcz40_0 : w22.cell? ⟨gb352, 0, none⟩ = some (.slice Ao15 t342.length co15) := (blk_cell BK352.out 0).trans rfl
     have hcz40_1 : w22.cell? ⟨gb352, 1, none⟩ = some (.slice Ao18 t345.length co18) := (blk_cell BK352.out 1).trans rfl
     have hcz40_2 : w22.cell? ⟨gb352, 2, none⟩ = some (.slice Ao19 t348.length co19) := (blk_cell BK352.out 2).trans rfl
     have hfz40_0 := blk_frozen BK352.out 0
     have hfz40_1 := blk_frozen BK352.out 1
     have hfz40_2 := blk_frozen BK352.out 2
     have hnb41 := NB363_341.out
     have hnc41 := NB341_363.out
     have hcz42_0 : w22.cell? ⟨gb363, 0, none⟩ = some (.slice none 0 0) := (blk_cell BK363.out 0).trans rfl
     have hcz42_1 : w22.cell? ⟨gb363, 1, none⟩ = some (.slice none 0 0) := (blk_cell BK363.out 1).trans rfl
     have hcz42_2 : w22.cell? ⟨gb363, 2, none⟩ = some (.slice none 0 0) := (blk_cell BK363.out 2).trans rfl
     have hfz42_0 := blk_frozen BK363.out 0
     have hfz42_1 := blk_frozen BK363.out 1
     have hfz42_2 := blk_frozen BK363.out 2
     go_wp2_with (first | ((with_reducible refine gate_callee (f := 16) rfl ?_); refine goesL_ (some 37) rfl rfl Try.func16 (by kernel_rfl) rfl #[.agg #[.slice Ao15 t342.length co15, .slice Ao18 t345.length co18, .slice Ao19 t348.length co19], .agg #[.slice Ao23 t353.length co23, .slice Ao27 t356.length co27, .slice Ao28 t359.length co28]] rfl (by (try simp only [List.map_toArray, List.map_cons, List.map_nil]); first | done | rfl | (simp only [List.length_drop, List.length_take]; rfl)) ?_; (with_reducible refine (impl_HeapSame.calls k _ _ t342 _ _ t345 _ _ t348 _ _ t353 _ _ t356 _ _ t359 true _ ?side1 ?side2 ?side3 ?side4 ?side5 ?side6 ?side7 ?side8 ?side9 ?side10 ?side11 ?side12 A29.out).mono ?_); (case side1 => exact (Kd.R_reads' (rf1 BK363.out HO344.out)).2.2); (case side2 => exact (Kd.R_reads' HO344.out).2.1); (case side3 => exact (Kd.R_reads' (rf1 BK363.out HO347.out)).2.2); (case side4 => exact (Kd.R_reads' HO347.out).2.1); (case side5 => exact (Kd.R_reads' (rf1 BK363.out HO350.out)).2.2); (case side6 => exact (Kd.R_reads' HO350.out).2.1); (case side7 => exact (Kd.R_reads' (rf1 BK363.out HO355.out)).2.2); (case side8 => exact (Kd.R_reads' HO355.out).2.1); (case side9 => exact (Kd.R_reads' (rf1 BK363.out HO358.out)).2.2); (case side10 => exact (Kd.R_reads' HO358.out).2.1); (case side11 => exact (Kd.R_reads' (rf1 BK363.out HO361.out)).2.2); (case side12 => exact (Kd.R_reads' HO361.out).2.1); rintro e w43 ⟨rfl, hb⟩; refine ⟨_, rfl, ?_⟩; replace HO332 := am (Kd.R_below (rf1 BK363.out HO332.out) hb); replace HO335 := am (Kd.R_below (rf1 BK363.out HO335.out) hb); replace HO338 := am (Kd.R_below (rf1 BK363.out HO338.out) hb); replace HO344 := am (Kd.R_below (rf1 BK363.out HO344.out) hb); replace HO347 := am (Kd.R_below (rf1 BK363.out HO347.out) hb); replace HO350 := am (Kd.R_below (rf1 BK363.out HO350.out) hb); replace HO355 := am (Kd.R_below (rf1 BK363.out HO355.out) hb); replace HO358 := am (Kd.R_below (rf1 BK363.out HO358.out) hb); replace HO361 := am (Kd.R_below (rf1 BK363.out HO361.out) hb); replace BK341 := am (blk_below (g := gb341) (o := .cells #[.slice Ao9 t330.length co9, .slice Ao11 t333.length co11, .slice Ao12 t336.length co12] 25 (0, 0)) (kf1 NB341_363.out BK341.out) hb); replace BK352 := am (blk_below (g := gb352) (o := .cells #[.slice Ao15 t342.length co15, .slice Ao18 t345.length co18, .slice Ao19 t348.length co19] 25 (0, 0)) (kf1 NB352_363.out BK352.out) hb); replace BK363 := am (blk_below (g := gb363) (o := .cells #[.slice Ao23 t353.length co23, .slice Ao27 t356.length co27, .slice Ao28 t359.length co28] 25 (0, 0)) (kp3 (kf0 BK363.out)) hb); replace HB := am (below_step (bs3 GE341.out GE352.out GE363.out HB.out) hb); (try clear hb); (try clear hb2); (try clear hk); (try clear hi)))
     go_meet
     case rel => exact ⟨_, (!t351), (by first | rfl | (simp; done) | (simp [*]; done)), H', ⟨by first | omega | exact Nat.le_refl _⟩, ⟨rl (Kd.R_mono HO332.out (fun _ hk => by simp only [ne_eq] at hk ⊢; simp only [hk, not_false_eq_true, and_self]))⟩, ⟨rl (Kd.R_mono HO335.out (fun _ hk => by simp only [ne_eq] at hk ⊢; simp only [hk, not_false_eq_true, and_self]))⟩, ⟨rl (Kd.R_mono HO338.out (fun _ hk => by simp only [ne_eq] at hk ⊢; simp only [hk, not_false_eq_true, and_self]))⟩, ⟨rl (Kd.R_mono HO344.out (fun _ hk => by simp only [ne_eq] at hk ⊢; simp only [hk, not_false_eq_true, and_self]))⟩, ⟨rl (Kd.R_mono HO347.out (fun _ hk => by simp only [ne_eq] at hk ⊢; simp only [hk, not_false_eq_true, and_self]))⟩, ⟨rl (Kd.R_mono HO350.out (fun _ hk => by simp only [ne_eq] at hk ⊢; simp only [hk, not_false_eq_true, and_self]))⟩, ⟨rl (Kd.R_mono HO355.out (fun _ hk => by simp only [ne_eq] at hk ⊢; simp only [hk, not_false_eq_true, and_self]))⟩, ⟨rl (Kd.R_mono HO358.out (fun _ hk => by simp only [ne_eq] at hk ⊢; simp only [hk, not_false_eq_true, and_self]))⟩, ⟨rl (Kd.R_mono HO361.out (fun _ hk => by simp only [ne_eq] at hk ⊢; simp only [hk, not_false_eq_true, and_self]))⟩, ⟨kl BK341.out⟩, ⟨kl BK352.out⟩, ⟨kl BK363.out⟩, ⟨by exact bs3 GE341.out GE352.out GE363.out HB.out⟩⟩
   ·replace c30 := Bool.eq_false_iff.mpr c30
    subst c30
    have H1 : (laws_FnPutRoot.j0 k t339 t340 t351 t362 true t330 t333 t336 t342 t345 t348 t353 t356 t359) = some r := by rw [if_neg (show ¬ (false = true) by decide)] at H; exact H
    clear H
    have H := H1
    clear H1
    have H' := am H
    clear H
    have hnb44 := NB352_341.out
    have hnc44 := NB341_352.out
    have hnb45 := NB352_363.out
    have hnc45 := NB363_352.out
    have hcz46_0 : w22.cell? ⟨gb352, 0, none⟩ = some (.slice Ao15 t342.length co15) := (blk_cell BK352.out 0).trans rfl
    have hcz46_1 : w22.cell? ⟨gb352, 1, none⟩ = some (.slice Ao18 t345.length co18) := (blk_cell BK352.out 1).trans rfl
    have hcz46_2 : w22.cell? ⟨gb352, 2, none⟩ = some (.slice Ao19 t348.length co19) := (blk_cell BK352.out 2).trans rfl
    have hfz46_0 := blk_frozen BK352.out 0
    have hfz46_1 := blk_frozen BK352.out 1
    have hfz46_2 := blk_frozen BK352.out 2
    have hnb47 := NB363_341.out
    have hnc47 := NB341_363.out
    have hcz48_0 : w22.cell? ⟨gb363, 0, none⟩ = some (.slice none 0 0) := (blk_cell BK363.out 0).trans rfl
    have hcz48_1 : w22.cell? ⟨gb363, 1, none⟩ = some (.slice none 0 0) := (blk_cell BK363.out 1).trans rfl
    have hcz48_2 : w22.cell? ⟨gb363, 2, none⟩ = some (.slice none 0 0) := (blk_cell BK363.out 2).trans rfl
    have hfz48_0 := blk_frozen BK363.out 0
    have hfz48_1 := blk_frozen BK363.out 1
    have hfz48_2 := blk_frozen BK363.out 2
    go_wp2_with (first | ((with_reducible refine gate_callee (f := 16) rfl ?_); refine goesL_ (some 37) rfl rfl Try.func16 (by kernel_rfl) rfl #[.agg #[.slice Ao15 t342.length co15, .slice Ao18 t345.length co18, .slice Ao19 t348.length co19], .agg #[.slice Ao23 t353.length co23, .slice Ao27 t356.length co27, .slice Ao28 t359.length co28]] rfl (by (try simp only [List.map_toArray, List.map_cons, List.map_nil]); first | done | rfl | (simp only [List.length_drop, List.length_take]; rfl)) ?_; (with_reducible refine (impl_HeapSame.calls k _ _ t342 _ _ t345 _ _ t348 _ _ t353 _ _ t356 _ _ t359 false _ ?side1 ?side2 ?side3 ?side4 ?side5 ?side6 ?side7 ?side8 ?side9 ?side10 ?side11 ?side12 A29.out).mono ?_); (case side1 => exact (Kd.R_reads' (rf1 BK363.out HO344.out)).2.2); (case side2 => exact (Kd.R_reads' HO344.out).2.1); (case side3 => exact (Kd.R_reads' (rf1 BK363.out HO347.out)).2.2); (case side4 => exact (Kd.R_reads' HO347.out).2.1); (case side5 => exact (Kd.R_reads' (rf1 BK363.out HO350.out)).2.2); (case side6 => exact (Kd.R_reads' HO350.out).2.1); (case side7 => exact (Kd.R_reads' (rf1 BK363.out HO355.out)).2.2); (case side8 => exact (Kd.R_reads' HO355.out).2.1); (case side9 => exact (Kd.R_reads' (rf1 BK363.out HO358.out)).2.2); (case side10 => exact (Kd.R_reads' HO358.out).2.1); (case side11 => exact (Kd.R_reads' (rf1 BK363.out HO361.out)).2.2); (case side12 => exact (Kd.R_reads' HO361.out).2.1); rintro e w49 ⟨rfl, hb⟩; refine ⟨_, rfl, ?_⟩; replace HO332 := am (Kd.R_below (rf1 BK363.out HO332.out) hb); replace HO335 := am (Kd.R_below (rf1 BK363.out HO335.out) hb); replace HO338 := am (Kd.R_below (rf1 BK363.out HO338.out) hb); replace HO344 := am (Kd.R_below (rf1 BK363.out HO344.out) hb); replace HO347 := am (Kd.R_below (rf1 BK363.out HO347.out) hb); replace HO350 := am (Kd.R_below (rf1 BK363.out HO350.out) hb); replace HO355 := am (Kd.R_below (rf1 BK363.out HO355.out) hb); replace HO358 := am (Kd.R_below (rf1 BK363.out HO358.out) hb); replace HO361 := am (Kd.R_below (rf1 BK363.out HO361.out) hb); replace BK341 := am (blk_below (g := gb341) (o := .cells #[.slice Ao9 t330.length co9, .slice Ao11 t333.length co11, .slice Ao12 t336.length co12] 25 (0, 0)) (kf1 NB341_363.out BK341.out) hb); replace BK352 := am (blk_below (g := gb352) (o := .cells #[.slice Ao15 t342.length co15, .slice Ao18 t345.length co18, .slice Ao19 t348.length co19] 25 (0, 0)) (kf1 NB352_363.out BK352.out) hb); replace BK363 := am (blk_below (g := gb363) (o := .cells #[.slice Ao23 t353.length co23, .slice Ao27 t356.length co27, .slice Ao28 t359.length co28] 25 (0, 0)) (kp3 (kf0 BK363.out)) hb); replace HB := am (below_step (bs3 GE341.out GE352.out GE363.out HB.out) hb); (try clear hb); (try clear hb2); (try clear hk); (try clear hi)))
    go_meet
    case rel => exact ⟨_, (true), (by first | rfl | (simp; done) | (simp [*]; done)), H', ⟨by first | omega | exact Nat.le_refl _⟩, ⟨rl (Kd.R_mono HO332.out (fun _ hk => by simp only [ne_eq] at hk ⊢; simp only [hk, not_false_eq_true, and_self]))⟩, ⟨rl (Kd.R_mono HO335.out (fun _ hk => by simp only [ne_eq] at hk ⊢; simp only [hk, not_false_eq_true, and_self]))⟩, ⟨rl (Kd.R_mono HO338.out (fun _ hk => by simp only [ne_eq] at hk ⊢; simp only [hk, not_false_eq_true, and_self]))⟩, ⟨rl (Kd.R_mono HO344.out (fun _ hk => by simp only [ne_eq] at hk ⊢; simp only [hk, not_false_eq_true, and_self]))⟩, ⟨rl (Kd.R_mono HO347.out (fun _ hk => by simp only [ne_eq] at hk ⊢; simp only [hk, not_false_eq_true, and_self]))⟩, ⟨rl (Kd.R_mono HO350.out (fun _ hk => by simp only [ne_eq] at hk ⊢; simp only [hk, not_false_eq_true, and_self]))⟩, ⟨rl (Kd.R_mono HO355.out (fun _ hk => by simp only [ne_eq] at hk ⊢; simp only [hk, not_false_eq_true, and_self]))⟩, ⟨rl (Kd.R_mono HO358.out (fun _ hk => by simp only [ne_eq] at hk ⊢; simp only [hk, not_false_eq_true, and_self]))⟩, ⟨rl (Kd.R_mono HO361.out (fun _ hk => by simp only [ne_eq] at hk ⊢; simp only [hk, not_false_eq_true, and_self]))⟩, ⟨kl BK341.out⟩, ⟨kl BK352.out⟩, ⟨kl BK363.out⟩, ⟨by exact bs3 GE341.out GE352.out GE363.out HB.out⟩⟩
  case rest =>
   clear HC6
   try clear c1
   try clear c2
   try clear c2b0
   try clear c2b1
   try clear p2
   try clear c3
   try clear c4
   try clear c13
   try clear c14
   try clear c15
   try clear c16
   try clear c24
   try clear c25
   try clear c30
   try clear c31
   try clear c31b0
   try clear c31b1
   try clear c31b2
   try clear c32
   try clear c33
   try clear c35
   try clear c38
   try clear c39
   try clear c41
   try clear c44
   try clear c45
   try clear c47
   try clear hcz10_0
   try clear hcz10_1
   try clear hcz10_2
   try clear hcz17_0
   try clear hcz17_1
   try clear hcz17_2
   try clear hcz20_0
   try clear hcz20_1
   try clear hcz20_2
   try clear hcz26_0
   try clear hcz26_1
   try clear hcz26_2
   try clear hcz34_0
   try clear hcz34_1
   try clear hcz34_2
   try clear hcz36_0
   try clear hcz36_1
   try clear hcz36_2
   try clear hcz40_0
   try clear hcz40_1
   try clear hcz40_2
   try clear hcz42_0
   try clear hcz42_1
   try clear hcz42_2
   try clear hcz46_0
   try clear hcz46_1
   try clear hcz46_2
   try clear hcz48_0
   try clear hcz48_1
   try clear hcz48_2
   try clear hfz10_0
   try clear hfz10_1
   try clear hfz10_2
   try clear hfz17_0
   try clear hfz17_1
   try clear hfz17_2
   try clear hfz20_0
   try clear hfz20_1
   try clear hfz20_2
   try clear hfz26_0
   try clear hfz26_1
   try clear hfz26_2
   try clear hfz34_0
   try clear hfz34_1
   try clear hfz34_2
   try clear hfz36_0
   try clear hfz36_1
   try clear hfz36_2
   try clear hfz40_0
   try clear hfz40_1
   try clear hfz40_2
   try clear hfz42_0
   try clear hfz42_1
   try clear hfz42_2
   try clear hfz46_0
   try clear hfz46_1
   try clear hfz46_2
   try clear hfz48_0
   try clear hfz48_1
   try clear hfz48_2
   obtain ⟨kq, x47_5, rfl, HA, HJ5, HO_342000, HO_342001, HO_342002, HO_353000, HO_353001, HO_353002, HO_364000, HO_364001, HO_364002, BK341, BK352, BK363, HB⟩ := hcut
   cases kq with
   | zero => exact absurd HA.out (by simp [laws_FnPutRoot.j0])
   | succ kj5 =>
    have H := HA.out
    clear HA
    simp only [laws_FnPutRoot.j0] at H
    by_cases c50 : x47_5 = true
    ·subst c50
     have H1 : ((impl_HeapSame.f kj5 t342 t345 t348 t353 t356 t359).bind fun t365 => (if t365 = true then (some (t351 == t362)) else (none))) = some r := by rw [if_pos rfl] at H; exact H
     clear H
     have H := H1
     clear H1
     replace H := Option.bind_eq_some_iff.mp H
     obtain ⟨t365, A510, H⟩ := H
     replace H : (if t365 = true then (some (t351 == t362)) else (none)) = some r := H
     have A51 := am A510
     clear A510
     by_cases c52 : t365 = true
     ·subst c52
      have H1 : (some (t351 == t362)) = some r := by rw [if_pos rfl] at H; exact H
      clear H
      have H := H1
      clear H1
      obtain rfl := Option.some.inj H
      have hnb53 := NB352_341.out
      have hnc53 := NB341_352.out
      have hnb54 := NB352_363.out
      have hnc54 := NB363_352.out
      have hcz55_0 : wc.cell? ⟨gb352, 0, none⟩ = some (.slice Ao15 t342.length co15) := (blk_cell BK352.out 0).trans rfl
      have hcz55_1 : wc.cell? ⟨gb352, 1, none⟩ = some (.slice Ao18 t345.length co18) := (blk_cell BK352.out 1).trans rfl
      have hcz55_2 : wc.cell? ⟨gb352, 2, none⟩ = some (.slice Ao19 t348.length co19) := (blk_cell BK352.out 2).trans rfl
      have hfz55_0 := blk_frozen BK352.out 0
      have hfz55_1 := blk_frozen BK352.out 1
      have hfz55_2 := blk_frozen BK352.out 2
      have hnb56 := NB363_341.out
      have hnc56 := NB341_363.out
      have hcz57_0 : wc.cell? ⟨gb363, 0, none⟩ = some (.slice Ao23 t353.length co23) := (blk_cell BK363.out 0).trans rfl
      have hcz57_1 : wc.cell? ⟨gb363, 1, none⟩ = some (.slice Ao27 t356.length co27) := (blk_cell BK363.out 1).trans rfl
      have hcz57_2 : wc.cell? ⟨gb363, 2, none⟩ = some (.slice Ao28 t359.length co28) := (blk_cell BK363.out 2).trans rfl
      have hfz57_0 := blk_frozen BK363.out 0
      have hfz57_1 := blk_frozen BK363.out 1
      have hfz57_2 := blk_frozen BK363.out 2
      go_wp2_with (first | ((with_reducible refine gate_callee (f := 16) rfl ?_); refine goesL_ (some 50) rfl rfl Try.func16 (by kernel_rfl) rfl #[.agg #[.slice Ao15 t342.length co15, .slice Ao18 t345.length co18, .slice Ao19 t348.length co19], .agg #[.slice Ao23 t353.length co23, .slice Ao27 t356.length co27, .slice Ao28 t359.length co28]] rfl (by (try simp only [List.map_toArray, List.map_cons, List.map_nil]); first | done | rfl | (simp only [List.length_drop, List.length_take]; rfl)) ?_; (with_reducible refine (impl_HeapSame.calls kj5 _ _ t342 _ _ t345 _ _ t348 _ _ t353 _ _ t356 _ _ t359 true _ ?side1 ?side2 ?side3 ?side4 ?side5 ?side6 ?side7 ?side8 ?side9 ?side10 ?side11 ?side12 A51.out).mono ?_); (case side1 => exact cl ((Kd.R_reads' HO_353000.out).2.2)); (case side2 => exact (Kd.R_reads' HO_353000.out).2.1); (case side3 => exact cl ((Kd.R_reads' HO_353001.out).2.2)); (case side4 => exact (Kd.R_reads' HO_353001.out).2.1); (case side5 => exact cl ((Kd.R_reads' HO_353002.out).2.2)); (case side6 => exact (Kd.R_reads' HO_353002.out).2.1); (case side7 => exact cl ((Kd.R_reads' HO_364000.out).2.2)); (case side8 => exact (Kd.R_reads' HO_364000.out).2.1); (case side9 => exact cl ((Kd.R_reads' HO_364001.out).2.2)); (case side10 => exact (Kd.R_reads' HO_364001.out).2.1); (case side11 => exact cl ((Kd.R_reads' HO_364002.out).2.2)); (case side12 => exact (Kd.R_reads' HO_364002.out).2.1); rintro e w58 ⟨rfl, hb⟩; refine ⟨_, rfl, ?_⟩; replace HO_342000 := am (Kd.R_below (rl HO_342000.out) hb); replace HO_342001 := am (Kd.R_below (rl HO_342001.out) hb); replace HO_342002 := am (Kd.R_below (rl HO_342002.out) hb); replace HO_353000 := am (Kd.R_below (rl HO_353000.out) hb); replace HO_353001 := am (Kd.R_below (rl HO_353001.out) hb); replace HO_353002 := am (Kd.R_below (rl HO_353002.out) hb); replace HO_364000 := am (Kd.R_below (rl HO_364000.out) hb); replace HO_364001 := am (Kd.R_below (rl HO_364001.out) hb); replace HO_364002 := am (Kd.R_below (rl HO_364002.out) hb); replace BK341 := am (blk_below (g := gb341) (o := .cells #[.slice Ao9 t330.length co9, .slice Ao11 t333.length co11, .slice Ao12 t336.length co12] 25 (0, 0)) (kl BK341.out) hb); replace BK352 := am (blk_below (g := gb352) (o := .cells #[.slice Ao15 t342.length co15, .slice Ao18 t345.length co18, .slice Ao19 t348.length co19] 25 (0, 0)) (kl BK352.out) hb); replace BK363 := am (blk_below (g := gb363) (o := .cells #[.slice Ao23 t353.length co23, .slice Ao27 t356.length co27, .slice Ao28 t359.length co28] 25 (0, 0)) (kl BK363.out) hb); replace HB := am (below_step (bs3 GE341.out GE352.out GE363.out HB.out) hb); (try clear hb); (try clear hb2); (try clear hk); (try clear hi)))
      go_ret
      exact ⟨by first | rfl | (simp [errW_none, errW_some] <;> rfl) | (simp [*, errW_none, errW_some] <;> rfl), by exact bs3 GE341.out GE352.out GE363.out HB.out⟩
     ·replace c52 := Bool.eq_false_iff.mpr c52
      subst c52
      have H1 : (none) = some r := by rw [if_neg (show ¬ (false = true) by decide)] at H; exact H
      clear H
      have H := H1
      clear H1
      exact absurd H (by simp)
    ·replace c50 := Bool.eq_false_iff.mpr c50
     subst c50
     have H1 : (if 0 ≤ t339 then (if t339 < (t336.length : Int) then ((impl_PutRoot.f kj5 t342 t345 t348 t339 (rd t336 t339)).bind fun bt367 => ((impl_HeapValid.f kj5 t342 t345 t348).bind fun t378 => (if t378 = true then (if t339 < (t348.length : Int) then (if (rd t348 t339) = t340 then (if bt367.2.2.2 = true then ((impl_HeapSame.f kj5 bt367.1 bt367.2.1 bt367.2.2.1 t330 t333 t336).bind fun t380 => (some t380)) else (none)) else (none)) else (none)) else (none)))) else (none)) else (none)) = some r := by rw [if_neg (show ¬ (false = true) by decide)] at H; exact H
     clear H
     have H := H1
     clear H1
     by_cases c59 : 0 ≤ t339
     ·rw [if_pos c59] at H
      have c59b0 : decide (0 ≤ t339) = true := decide_eq_true c59
      clear c59
      by_cases c60 : t339 < (t336.length : Int)
      ·rw [if_pos c60] at H
       have c60b0 : decide (t339 < (t336.length : Int)) = true := decide_eq_true c60
       clear c60
       replace H := Option.bind_eq_some_iff.mp H
       obtain ⟨⟨t367, t370, t373, t376⟩, A610, H⟩ := H
       replace H : ((impl_HeapValid.f kj5 t342 t345 t348).bind fun t378 => (if t378 = true then (if t339 < (t348.length : Int) then (if (rd t348 t339) = t340 then (if t376 = true then ((impl_HeapSame.f kj5 t367 t370 t373 t330 t333 t336).bind fun t380 => (some t380)) else (none)) else (none)) else (none)) else (none))) = some r := H
       have A61 := am A610
       clear A610
       replace H := Option.bind_eq_some_iff.mp H
       obtain ⟨t378, A620, H⟩ := H
       replace H : (if t378 = true then (if t339 < (t348.length : Int) then (if (rd t348 t339) = t340 then (if t376 = true then ((impl_HeapSame.f kj5 t367 t370 t373 t330 t333 t336).bind fun t380 => (some t380)) else (none)) else (none)) else (none)) else (none)) = some r := H
       have A62 := am A620
       clear A620
       by_cases c63 : t378 = true
       ·subst c63
        have H1 : (if t339 < (t348.length : Int) then (if (rd t348 t339) = t340 then (if t376 = true then ((impl_HeapSame.f kj5 t367 t370 t373 t330 t333 t336).bind fun t380 => (some t380)) else (none)) else (none)) else (none)) = some r := by rw [if_pos rfl] at H; exact H
        clear H
        have H := H1
        clear H1
        by_cases c64 : t339 < (t348.length : Int)
        ·rw [if_pos c64] at H
         have c64b0 : decide (t339 < (t348.length : Int)) = true := decide_eq_true c64
         clear c64
         by_cases c65 : (rd t348 t339) = t340
         ·rw [if_pos c65] at H
          have c65b0 : ((rd t348 t339) == t340) = true := beq_iff_eq.mpr c65
          have c65b1 : ((rd t348 t339) != t340) = false := bne_eq_false_iff_eq.mpr c65
          clear c65
          by_cases c66 : t376 = true
          ·subst c66
           have H1 : ((impl_HeapSame.f kj5 t367 t370 t373 t330 t333 t336).bind fun t380 => (some t380)) = some r := by rw [if_pos rfl] at H; exact H
           clear H
           have H := H1
           clear H1
           replace H := Option.bind_eq_some_iff.mp H
           obtain ⟨t380, A670, H⟩ := H
           replace H : (some t380) = some r := H
           have A67 := am A670
           clear A670
           obtain rfl := Option.some.inj H
           try go_wp2
           replace HO_342000 := am (Kd.R_drew HO_342000.out)
           replace HO_342001 := am (Kd.R_drew HO_342001.out)
           replace HO_342002 := am (Kd.R_drew HO_342002.out)
           replace HO_353000 := am (Kd.R_drew HO_353000.out)
           replace HO_353001 := am (Kd.R_drew HO_353001.out)
           replace HO_353002 := am (Kd.R_drew HO_353002.out)
           replace HO_364000 := am (Kd.R_drew HO_364000.out)
           replace HO_364001 := am (Kd.R_drew HO_364001.out)
           replace HO_364002 := am (Kd.R_drew HO_364002.out)
           replace BK341 := am (blk_drew BK341.out)
           replace BK352 := am (blk_drew BK352.out)
           replace BK363 := am (blk_drew BK363.out)
           replace HB := am (below_drew1 HB.out)
           have p366 : 0 ≤ (t339 : Int) := of_decide_eq_true (by first | (with_reducible assumption) | assumption)
           have q366 : t339 < (t336.length : Int) := of_decide_eq_true (by first | (with_reducible assumption) | assumption)
           obtain ⟨ad366, e366, hx366_0⟩ := Kd.at_int (Kd.R_reads' HO_342002.out).2.2 t339 p366 q366
           cases e366
           replace p366 := eq_true p366
           replace q366 := eq_true q366
           refine start_ (n := 14) (S := fun w' => True) (ds := []) #[false, false, false, false, false, false, false, false, false, false, false, false, false, false] (by kernel_rfl) rfl rfl trivial (fun hHeld => ?_); refine with_tabW laws_FnPutRoot.tab8 laws_FnPutRoot.bits8 (fun HT_ HW_ => ?_)
           generalize wc.drew = w68 at HO_342000 HO_342001 HO_342002 HO_353000 HO_353001 HO_353002 HO_364000 HO_364001 HO_364002 BK341 BK352 BK363 HB hx366_0 hHeld ⊢
           refine pure_ (i := 1) (N := some 58) (v := ?_) (a' := ?_) #[false, true, false, false, false, false, false, false, false, false, false, false, false, false] rfl rfl (any_of HT_.out (by kernel_rfl)) (fun _ _ _ h => h) (Or.inl ⟨by rfl, ?_⟩) ?_ ?_
           rotate_left
           ·intro w'
            go_simp
            with_reducible rfl
           rotate_left
           ·simp only [Act.put, List.setIfInBounds_toArray, List.set_cons_zero, List.set_cons_succ, i64_w, i32_w]
            rfl
           refine pure_ (i := 2) (N := some 59) (v := ?_) (a' := ?_) #[false, true, true, false, false, false, false, false, false, false, false, false, false, false] rfl rfl (any_of HT_.out (by kernel_rfl)) (fun _ _ _ h => h) (Or.inl ⟨by rfl, ?_⟩) ?_ ?_
           rotate_left
           ·intro w'
            go_simp
            with_reducible rfl
           rotate_left
           ·simp only [Act.put, List.setIfInBounds_toArray, List.set_cons_zero, List.set_cons_succ, i64_w, i32_w]
            rfl
           refine pure_ (i := 4) (N := some 61) (v := ?_) (a' := ?_) #[false, true, true, false, true, false, false, false, false, false, false, false, false, false] rfl rfl (any_of HT_.out (by kernel_rfl)) (fun _ _ _ h => h) (Or.inl ⟨by rfl, ?_⟩) ?_ ?_
           rotate_left
           ·intro w'
            go_simp
            with_reducible rfl
           rotate_left
           ·simp only [Act.put, List.setIfInBounds_toArray, List.set_cons_zero, List.set_cons_succ, i64_w, i32_w]
            rfl
           refine inv_at [0, 3, 5, 6, 7, 8, 9, 10, 11, 12, 13] (fun a0_ b a w' => ∃ (v368 : Value) (v371 : Value) (v374 : Value) (gb377 : Nat) (m7_ : Value) (m8_ : Value) (m9_ : Value) (m11_ : Value), a = putSel a0_ b [(0, 57, .agg #[.slice Ao15 t342.length co15, .slice Ao18 t345.length co18, .slice Ao19 t348.length co19]), (3, 60, .slice (some ad366) t336.length co12), (5, 62, .pointer (some (ad366.add (t339).toNat))), (6, 63, .int .i64 (rd t336 t339)), (7, 64, m7_), (8, 56, m8_), (9, 65, m9_), (10, 66, .bool true), (11, 10, m11_), (13, 11, .bool true)] ∧ (Kd.R (Kd.int .i64) 3 w' w.heap.size (fun k_ => some k_ ≠ (.slice Ao11 t333.length co11 : Value).ownBlock ∧ some k_ ≠ (.slice (some ad366) t336.length co12 : Value).ownBlock ∧ some k_ ≠ (.slice Ao15 t342.length co15 : Value).ownBlock ∧ some k_ ≠ (.slice Ao18 t345.length co18 : Value).ownBlock ∧ some k_ ≠ (.slice Ao19 t348.length co19 : Value).ownBlock ∧ some k_ ≠ (.slice Ao23 t353.length co23 : Value).ownBlock ∧ some k_ ≠ (.slice Ao27 t356.length co27 : Value).ownBlock ∧ some k_ ≠ (.slice Ao28 t359.length co28 : Value).ownBlock) (.slice Ao9 t330.length co9) t330) ∧ (Kd.R (Kd.int .i64) 3 w' w.heap.size (fun k_ => some k_ ≠ (.slice Ao9 t330.length co9 : Value).ownBlock ∧ some k_ ≠ (.slice (some ad366) t336.length co12 : Value).ownBlock ∧ some k_ ≠ (.slice Ao15 t342.length co15 : Value).ownBlock ∧ some k_ ≠ (.slice Ao18 t345.length co18 : Value).ownBlock ∧ some k_ ≠ (.slice Ao19 t348.length co19 : Value).ownBlock ∧ some k_ ≠ (.slice Ao23 t353.length co23 : Value).ownBlock ∧ some k_ ≠ (.slice Ao27 t356.length co27 : Value).ownBlock ∧ some k_ ≠ (.slice Ao28 t359.length co28 : Value).ownBlock) (.slice Ao11 t333.length co11) t333) ∧ (Kd.R (Kd.int .i64) 3 w' w.heap.size (fun k_ => some k_ ≠ (.slice Ao9 t330.length co9 : Value).ownBlock ∧ some k_ ≠ (.slice Ao11 t333.length co11 : Value).ownBlock ∧ some k_ ≠ (.slice Ao15 t342.length co15 : Value).ownBlock ∧ some k_ ≠ (.slice Ao18 t345.length co18 : Value).ownBlock ∧ some k_ ≠ (.slice Ao19 t348.length co19 : Value).ownBlock ∧ some k_ ≠ (.slice Ao23 t353.length co23 : Value).ownBlock ∧ some k_ ≠ (.slice Ao27 t356.length co27 : Value).ownBlock ∧ some k_ ≠ (.slice Ao28 t359.length co28 : Value).ownBlock) (.slice (some ad366) t336.length co12) t336) ∧ (Kd.R (Kd.int .i64) 3 w' w.heap.size (fun k_ => some k_ ≠ (.slice Ao9 t330.length co9 : Value).ownBlock ∧ some k_ ≠ (.slice Ao11 t333.length co11 : Value).ownBlock ∧ some k_ ≠ (.slice (some ad366) t336.length co12 : Value).ownBlock ∧ some k_ ≠ (.slice Ao18 t345.length co18 : Value).ownBlock ∧ some k_ ≠ (.slice Ao19 t348.length co19 : Value).ownBlock ∧ some k_ ≠ (.slice Ao23 t353.length co23 : Value).ownBlock ∧ some k_ ≠ (.slice Ao27 t356.length co27 : Value).ownBlock ∧ some k_ ≠ (.slice Ao28 t359.length co28 : Value).ownBlock) (.slice Ao15 t342.length co15) t342) ∧ (Kd.R (Kd.int .i64) 3 w' w.heap.size (fun k_ => some k_ ≠ (.slice Ao9 t330.length co9 : Value).ownBlock ∧ some k_ ≠ (.slice Ao11 t333.length co11 : Value).ownBlock ∧ some k_ ≠ (.slice (some ad366) t336.length co12 : Value).ownBlock ∧ some k_ ≠ (.slice Ao15 t342.length co15 : Value).ownBlock ∧ some k_ ≠ (.slice Ao19 t348.length co19 : Value).ownBlock ∧ some k_ ≠ (.slice Ao23 t353.length co23 : Value).ownBlock ∧ some k_ ≠ (.slice Ao27 t356.length co27 : Value).ownBlock ∧ some k_ ≠ (.slice Ao28 t359.length co28 : Value).ownBlock) (.slice Ao18 t345.length co18) t345) ∧ (Kd.R (Kd.int .i64) 3 w' w.heap.size (fun k_ => some k_ ≠ (.slice Ao9 t330.length co9 : Value).ownBlock ∧ some k_ ≠ (.slice Ao11 t333.length co11 : Value).ownBlock ∧ some k_ ≠ (.slice (some ad366) t336.length co12 : Value).ownBlock ∧ some k_ ≠ (.slice Ao15 t342.length co15 : Value).ownBlock ∧ some k_ ≠ (.slice Ao18 t345.length co18 : Value).ownBlock ∧ some k_ ≠ (.slice Ao23 t353.length co23 : Value).ownBlock ∧ some k_ ≠ (.slice Ao27 t356.length co27 : Value).ownBlock ∧ some k_ ≠ (.slice Ao28 t359.length co28 : Value).ownBlock) (.slice Ao19 t348.length co19) t348) ∧ (Kd.R (Kd.int .i64) 3 w' w.heap.size (fun k_ => some k_ ≠ (.slice Ao9 t330.length co9 : Value).ownBlock ∧ some k_ ≠ (.slice Ao11 t333.length co11 : Value).ownBlock ∧ some k_ ≠ (.slice (some ad366) t336.length co12 : Value).ownBlock ∧ some k_ ≠ (.slice Ao15 t342.length co15 : Value).ownBlock ∧ some k_ ≠ (.slice Ao18 t345.length co18 : Value).ownBlock ∧ some k_ ≠ (.slice Ao19 t348.length co19 : Value).ownBlock ∧ some k_ ≠ (.slice Ao27 t356.length co27 : Value).ownBlock ∧ some k_ ≠ (.slice Ao28 t359.length co28 : Value).ownBlock) (.slice Ao23 t353.length co23) t353) ∧ (Kd.R (Kd.int .i64) 3 w' w.heap.size (fun k_ => some k_ ≠ (.slice Ao9 t330.length co9 : Value).ownBlock ∧ some k_ ≠ (.slice Ao11 t333.length co11 : Value).ownBlock ∧ some k_ ≠ (.slice (some ad366) t336.length co12 : Value).ownBlock ∧ some k_ ≠ (.slice Ao15 t342.length co15 : Value).ownBlock ∧ some k_ ≠ (.slice Ao18 t345.length co18 : Value).ownBlock ∧ some k_ ≠ (.slice Ao19 t348.length co19 : Value).ownBlock ∧ some k_ ≠ (.slice Ao23 t353.length co23 : Value).ownBlock ∧ some k_ ≠ (.slice Ao28 t359.length co28 : Value).ownBlock) (.slice Ao27 t356.length co27) t356) ∧ (Kd.R (Kd.int .i64) 3 w' w.heap.size (fun k_ => some k_ ≠ (.slice Ao9 t330.length co9 : Value).ownBlock ∧ some k_ ≠ (.slice Ao11 t333.length co11 : Value).ownBlock ∧ some k_ ≠ (.slice (some ad366) t336.length co12 : Value).ownBlock ∧ some k_ ≠ (.slice Ao15 t342.length co15 : Value).ownBlock ∧ some k_ ≠ (.slice Ao18 t345.length co18 : Value).ownBlock ∧ some k_ ≠ (.slice Ao19 t348.length co19 : Value).ownBlock ∧ some k_ ≠ (.slice Ao23 t353.length co23 : Value).ownBlock ∧ some k_ ≠ (.slice Ao27 t356.length co27 : Value).ownBlock) (.slice Ao28 t359.length co28) t359) ∧ (w'.heap[gb341]? = some (.cells #[.slice Ao9 t330.length co9, .slice Ao11 t333.length co11, .slice (some ad366) t336.length co12] 25 (0, 0))) ∧ (w'.heap[gb352]? = some (.cells #[.slice Ao15 t342.length co15, .slice Ao18 t345.length co18, .slice Ao19 t348.length co19] 25 (0, 0))) ∧ (w'.heap[gb363]? = some (.cells #[.slice Ao23 t353.length co23, .slice Ao27 t356.length co27, .slice Ao28 t359.length co28] 25 (0, 0))) ∧ (Below w.heap.size w w') ∧ (b 7 = true → Kd.R (Kd.int .i64) 3 w' w.heap.size (fun k_ => some k_ ≠ (.slice Ao9 t330.length co9 : Value).ownBlock ∧ some k_ ≠ (.slice Ao11 t333.length co11 : Value).ownBlock ∧ some k_ ≠ (.slice (some ad366) t336.length co12 : Value).ownBlock ∧ some k_ ≠ (.slice Ao15 t342.length co15 : Value).ownBlock ∧ some k_ ≠ (.slice Ao18 t345.length co18 : Value).ownBlock ∧ some k_ ≠ (.slice Ao19 t348.length co19 : Value).ownBlock ∧ some k_ ≠ (.slice Ao23 t353.length co23 : Value).ownBlock ∧ some k_ ≠ (.slice Ao27 t356.length co27 : Value).ownBlock ∧ some k_ ≠ (.slice Ao28 t359.length co28 : Value).ownBlock) v368 t367) ∧ (b 7 = true → Kd.R (Kd.int .i64) 3 w' w.heap.size (fun k_ => some k_ ≠ (.slice Ao9 t330.length co9 : Value).ownBlock ∧ some k_ ≠ (.slice Ao11 t333.length co11 : Value).ownBlock ∧ some k_ ≠ (.slice (some ad366) t336.length co12 : Value).ownBlock ∧ some k_ ≠ (.slice Ao15 t342.length co15 : Value).ownBlock ∧ some k_ ≠ (.slice Ao18 t345.length co18 : Value).ownBlock ∧ some k_ ≠ (.slice Ao19 t348.length co19 : Value).ownBlock ∧ some k_ ≠ (.slice Ao23 t353.length co23 : Value).ownBlock ∧ some k_ ≠ (.slice Ao27 t356.length co27 : Value).ownBlock ∧ some k_ ≠ (.slice Ao28 t359.length co28 : Value).ownBlock) v371 t370) ∧ (b 7 = true → Kd.R (Kd.int .i64) 3 w' w.heap.size (fun k_ => some k_ ≠ (.slice Ao9 t330.length co9 : Value).ownBlock ∧ some k_ ≠ (.slice Ao11 t333.length co11 : Value).ownBlock ∧ some k_ ≠ (.slice (some ad366) t336.length co12 : Value).ownBlock ∧ some k_ ≠ (.slice Ao15 t342.length co15 : Value).ownBlock ∧ some k_ ≠ (.slice Ao18 t345.length co18 : Value).ownBlock ∧ some k_ ≠ (.slice Ao19 t348.length co19 : Value).ownBlock ∧ some k_ ≠ (.slice Ao23 t353.length co23 : Value).ownBlock ∧ some k_ ≠ (.slice Ao27 t356.length co27 : Value).ownBlock ∧ some k_ ≠ (.slice Ao28 t359.length co28 : Value).ownBlock) v374 t373) ∧ (b 11 = true → b 12 = false → w'.heap[gb377]? = some (.cells #[.slice none 0 0, .slice none 0 0, .slice none 0 0] 25 (0, 0))) ∧ (b 11 = true → w.heap.size ≤ gb377) ∧ (b 11 = true → w.heap.size ≤ gb377) ∧ (b 11 = true → gb341 ≠ gb377) ∧ (b 11 = true → gb377 ≠ gb341) ∧ (b 11 = true → gb352 ≠ gb377) ∧ (b 11 = true → gb377 ≠ gb352) ∧ (b 11 = true → gb363 ≠ gb377) ∧ (b 11 = true → gb377 ≠ gb363) ∧ (b 12 = true → w'.heap[gb377]? = some (.cells #[v368, v371, v374] 25 (0, 0))) ∧ (b 7 = true → (m7_ : Value) = .tuple #[.agg #[v368, v371, v374], .bool true]) ∧ (b 8 = true → (m8_ : Value) = .tuple #[.agg #[v368, v371, v374], .bool true]) ∧ (b 9 = true → (m9_ : Value) = .agg #[v368, v371, v374]) ∧ (b 11 = true → (m11_ : Value) = .pointer (some ⟨gb377, 0, none⟩))) HT_.out HW_.out (by kernel_rfl) (by kernel_rfl) ?_ ?_ ?_
           ·exact ⟨.bool false, .bool false, .bool false, 0, .bool false, .bool false, .bool false, .bool false, by simp only [putSel, Bool.false_eq_true, if_false], HO_342000.out, HO_342001.out, HO_342002.out, HO_353000.out, HO_353001.out, HO_353002.out, HO_364000.out, HO_364001.out, HO_364002.out, BK341.out, BK352.out, BK363.out, HB.out, fun h_ => absurd h_ (by decide), fun h_ => absurd h_ (by decide), fun h_ => absurd h_ (by decide), fun h_ => absurd h_ (by decide), fun h_ => absurd h_ (by decide), fun h_ => absurd h_ (by decide), fun h_ => absurd h_ (by decide), fun h_ => absurd h_ (by decide), fun h_ => absurd h_ (by decide), fun h_ => absurd h_ (by decide), fun h_ => absurd h_ (by decide), fun h_ => absurd h_ (by decide), fun h_ => absurd h_ (by decide), fun h_ => absurd h_ (by decide), fun h_ => absurd h_ (by decide), fun h_ => absurd h_ (by decide), fun h_ => absurd h_ (by decide)⟩
           ·skip
            clear BK341 BK352 BK363 HB HO_342000 HO_342001 HO_342002 HO_353000 HO_353001 HO_353002 HO_364000 HO_364001 HO_364002
            refine steps_cons ?_ ?_
            ·rintro b a w' ⟨v368, v371, v374, gb377, m7_, m8_, m9_, m11_, ha, Q_HO_342000, Q_HO_342001, Q_HO_342002, Q_HO_353000, Q_HO_353001, Q_HO_353002, Q_HO_364000, Q_HO_364001, Q_HO_364002, Q_BK341, Q_BK352, Q_BK363, Q_HB, Q_HO369, Q_HO372, Q_HO375, Q_BK377, Q_GW377, Q_GE377, Q_NB341_377, Q_NB377_341, Q_NB352_377, Q_NB377_352, Q_NB363_377, Q_NB377_363, Q_BK377_e12, Q_X7_, Q_X8_, Q_X9_, Q_X11_⟩ hb_ hon hoff
             refine ⟨_, rfl, fun K hK => ?_⟩
             have e6 : a.tmps[6]? = some (.pointer (some ⟨gb352, 0, none⟩)) := by rw [ha]; exact (putSel_off rfl).trans rfl
             replace ha := am ha
             have HO_342000 := am Q_HO_342000
             have HO_342001 := am Q_HO_342001
             have HO_342002 := am Q_HO_342002
             have HO_353000 := am Q_HO_353000
             have HO_353001 := am Q_HO_353001
             have HO_353002 := am Q_HO_353002
             have HO_364000 := am Q_HO_364000
             have HO_364001 := am Q_HO_364001
             have HO_364002 := am Q_HO_364002
             have BK341 := am Q_BK341
             have BK352 := am Q_BK352
             have BK363 := am Q_BK363
             have HB := am Q_HB
             have hc0_ : w'.cell? ⟨gb352, 0, none⟩ = some (.slice Ao15 t342.length co15) := (blk_cell BK352.out 0).trans rfl
             have hc1_ : w'.cell? ⟨gb352, 1, none⟩ = some (.slice Ao18 t345.length co18) := (blk_cell BK352.out 1).trans rfl
             have hc2_ : w'.cell? ⟨gb352, 2, none⟩ = some (.slice Ao19 t348.length co19) := (blk_cell BK352.out 2).trans rfl
             refine value_ (w1 := w') (v := .agg #[.slice Ao15 t342.length co15, .slice Ao18 t345.length co18, .slice Ao19 t348.length co19]) (by rfl) rfl ?_ ?_
             ·go_simp
              (try simp only [i64_w])
              try rfl
             refine hK.out _ _ ⟨v368, v371, v374, gb377, m7_, m8_, m9_, m11_, (by rw [ha.out]; exact putSel_upk 0 hb_ rfl rfl rfl), Q_HO_342000, Q_HO_342001, Q_HO_342002, Q_HO_353000, Q_HO_353001, Q_HO_353002, Q_HO_364000, Q_HO_364001, Q_HO_364002, Q_BK341, Q_BK352, Q_BK363, Q_HB, fun h0_ => absurd ((hoff 7 (by kernel_rfl)).symm.trans h0_) (by decide), fun h0_ => absurd ((hoff 7 (by kernel_rfl)).symm.trans h0_) (by decide), fun h0_ => absurd ((hoff 7 (by kernel_rfl)).symm.trans h0_) (by decide), Q_BK377, Q_GW377, Q_GE377, Q_NB341_377, Q_NB377_341, Q_NB352_377, Q_NB377_352, Q_NB363_377, Q_NB377_363, fun h0_ => absurd ((hoff 12 (by kernel_rfl)).symm.trans h0_) (by decide), fun h0_ => absurd ((hoff 7 (by kernel_rfl)).symm.trans h0_) (by decide), fun h0_ => absurd ((hoff 8 (by kernel_rfl)).symm.trans h0_) (by decide), fun h0_ => absurd ((hoff 9 (by kernel_rfl)).symm.trans h0_) (by decide), Q_X11_⟩
            refine steps_cons ?_ ?_
            ·rintro b a w' ⟨v368, v371, v374, gb377, m7_, m8_, m9_, m11_, ha, Q_HO_342000, Q_HO_342001, Q_HO_342002, Q_HO_353000, Q_HO_353001, Q_HO_353002, Q_HO_364000, Q_HO_364001, Q_HO_364002, Q_BK341, Q_BK352, Q_BK363, Q_HB, Q_HO369, Q_HO372, Q_HO375, Q_BK377, Q_GW377, Q_GE377, Q_NB341_377, Q_NB377_341, Q_NB352_377, Q_NB377_352, Q_NB363_377, Q_NB377_363, Q_BK377_e12, Q_X7_, Q_X8_, Q_X9_, Q_X11_⟩ hb_ hon hoff
             refine ⟨_, rfl, fun K hK => ?_⟩
             have e59 : a.tmps[59]? = some (.pointer (some ⟨gb341, 2, none⟩)) := by rw [ha]; exact (putSel_off rfl).trans rfl
             replace ha := am ha
             have HO_342000 := am Q_HO_342000
             have HO_342001 := am Q_HO_342001
             have HO_342002 := am Q_HO_342002
             have HO_353000 := am Q_HO_353000
             have HO_353001 := am Q_HO_353001
             have HO_353002 := am Q_HO_353002
             have HO_364000 := am Q_HO_364000
             have HO_364001 := am Q_HO_364001
             have HO_364002 := am Q_HO_364002
             have BK341 := am Q_BK341
             have BK352 := am Q_BK352
             have BK363 := am Q_BK363
             have HB := am Q_HB
             have hc0_ : w'.cell? ⟨gb341, 0, none⟩ = some (.slice Ao9 t330.length co9) := (blk_cell BK341.out 0).trans rfl
             have hc1_ : w'.cell? ⟨gb341, 1, none⟩ = some (.slice Ao11 t333.length co11) := (blk_cell BK341.out 1).trans rfl
             have hc2_ : w'.cell? ⟨gb341, 2, none⟩ = some (.slice (some ad366) t336.length co12) := (blk_cell BK341.out 2).trans rfl
             refine value_ (w1 := w') (v := .slice (some ad366) t336.length co12) (by rfl) rfl ?_ ?_
             ·go_simp
              (try simp only [i64_w])
              try rfl
             refine hK.out _ _ ⟨v368, v371, v374, gb377, m7_, m8_, m9_, m11_, (by rw [ha.out]; exact putSel_upk 1 hb_ rfl rfl rfl), Q_HO_342000, Q_HO_342001, Q_HO_342002, Q_HO_353000, Q_HO_353001, Q_HO_353002, Q_HO_364000, Q_HO_364001, Q_HO_364002, Q_BK341, Q_BK352, Q_BK363, Q_HB, fun h0_ => absurd ((hoff 7 (by kernel_rfl)).symm.trans h0_) (by decide), fun h0_ => absurd ((hoff 7 (by kernel_rfl)).symm.trans h0_) (by decide), fun h0_ => absurd ((hoff 7 (by kernel_rfl)).symm.trans h0_) (by decide), Q_BK377, Q_GW377, Q_GE377, Q_NB341_377, Q_NB377_341, Q_NB352_377, Q_NB377_352, Q_NB363_377, Q_NB377_363, fun h0_ => absurd ((hoff 12 (by kernel_rfl)).symm.trans h0_) (by decide), fun h0_ => absurd ((hoff 7 (by kernel_rfl)).symm.trans h0_) (by decide), fun h0_ => absurd ((hoff 8 (by kernel_rfl)).symm.trans h0_) (by decide), fun h0_ => absurd ((hoff 9 (by kernel_rfl)).symm.trans h0_) (by decide), Q_X11_⟩
            refine steps_cons ?_ ?_
            ·rintro b a w' ⟨v368, v371, v374, gb377, m7_, m8_, m9_, m11_, ha, Q_HO_342000, Q_HO_342001, Q_HO_342002, Q_HO_353000, Q_HO_353001, Q_HO_353002, Q_HO_364000, Q_HO_364001, Q_HO_364002, Q_BK341, Q_BK352, Q_BK363, Q_HB, Q_HO369, Q_HO372, Q_HO375, Q_BK377, Q_GW377, Q_GE377, Q_NB341_377, Q_NB377_341, Q_NB352_377, Q_NB377_352, Q_NB363_377, Q_NB377_363, Q_BK377_e12, Q_X7_, Q_X8_, Q_X9_, Q_X11_⟩ hb_ hon hoff
             refine ⟨_, rfl, fun K hK => ?_⟩
             have e60 : a.tmps[60]? = some (.slice (some ad366) t336.length co12) := by rw [ha]; exact putSel_on (e := (3, 60, .slice (some ad366) t336.length co12)) 1 rfl rfl (hon 3 (by kernel_rfl)) rfl
             have e61 : a.tmps[61]? = some (.int .i64 t339) := by rw [ha]; exact (putSel_off rfl).trans rfl
             replace ha := am ha
             have HO_342000 := am Q_HO_342000
             have HO_342001 := am Q_HO_342001
             have HO_342002 := am Q_HO_342002
             have HO_353000 := am Q_HO_353000
             have HO_353001 := am Q_HO_353001
             have HO_353002 := am Q_HO_353002
             have HO_364000 := am Q_HO_364000
             have HO_364001 := am Q_HO_364001
             have HO_364002 := am Q_HO_364002
             have BK341 := am Q_BK341
             have BK352 := am Q_BK352
             have BK363 := am Q_BK363
             have HB := am Q_HB
             refine value_ (w1 := w') (v := .pointer (some (ad366.add (t339).toNat))) (by rfl) rfl ?_ ?_
             ·go_simp
              (try simp only [i64_w])
              try rfl
             refine hK.out _ _ ⟨v368, v371, v374, gb377, m7_, m8_, m9_, m11_, (by rw [ha.out]; exact putSel_upk 2 hb_ rfl rfl rfl), Q_HO_342000, Q_HO_342001, Q_HO_342002, Q_HO_353000, Q_HO_353001, Q_HO_353002, Q_HO_364000, Q_HO_364001, Q_HO_364002, Q_BK341, Q_BK352, Q_BK363, Q_HB, fun h0_ => absurd ((hoff 7 (by kernel_rfl)).symm.trans h0_) (by decide), fun h0_ => absurd ((hoff 7 (by kernel_rfl)).symm.trans h0_) (by decide), fun h0_ => absurd ((hoff 7 (by kernel_rfl)).symm.trans h0_) (by decide), Q_BK377, Q_GW377, Q_GE377, Q_NB341_377, Q_NB377_341, Q_NB352_377, Q_NB377_352, Q_NB363_377, Q_NB377_363, fun h0_ => absurd ((hoff 12 (by kernel_rfl)).symm.trans h0_) (by decide), fun h0_ => absurd ((hoff 7 (by kernel_rfl)).symm.trans h0_) (by decide), fun h0_ => absurd ((hoff 8 (by kernel_rfl)).symm.trans h0_) (by decide), fun h0_ => absurd ((hoff 9 (by kernel_rfl)).symm.trans h0_) (by decide), Q_X11_⟩
            refine steps_cons ?_ ?_
            ·rintro b a w' ⟨v368, v371, v374, gb377, m7_, m8_, m9_, m11_, ha, Q_HO_342000, Q_HO_342001, Q_HO_342002, Q_HO_353000, Q_HO_353001, Q_HO_353002, Q_HO_364000, Q_HO_364001, Q_HO_364002, Q_BK341, Q_BK352, Q_BK363, Q_HB, Q_HO369, Q_HO372, Q_HO375, Q_BK377, Q_GW377, Q_GE377, Q_NB341_377, Q_NB377_341, Q_NB352_377, Q_NB377_352, Q_NB363_377, Q_NB377_363, Q_BK377_e12, Q_X7_, Q_X8_, Q_X9_, Q_X11_⟩ hb_ hon hoff
             refine ⟨_, rfl, fun K hK => ?_⟩
             have e62 : a.tmps[62]? = some (.pointer (some (ad366.add (t339).toNat))) := by rw [ha]; exact putSel_on (e := (5, 62, .pointer (some (ad366.add (t339).toNat)))) 2 rfl rfl (hon 5 (by kernel_rfl)) rfl
             replace ha := am ha
             have HO_342000 := am Q_HO_342000
             have HO_342001 := am Q_HO_342001
             have HO_342002 := am Q_HO_342002
             have HO_353000 := am Q_HO_353000
             have HO_353001 := am Q_HO_353001
             have HO_353002 := am Q_HO_353002
             have HO_364000 := am Q_HO_364000
             have HO_364001 := am Q_HO_364001
             have HO_364002 := am Q_HO_364002
             have BK341 := am Q_BK341
             have BK352 := am Q_BK352
             have BK363 := am Q_BK363
             have HB := am Q_HB
             obtain ⟨ad366_z, e366_z, hx366_0_z⟩ := Kd.at_int (Kd.R_reads' HO_342002.out).2.2 t339 (of_eq_true p366) (of_eq_true q366)
             cases e366_z
             have hs0_ : w'.cell? (ad366.add (t339).toNat) = some (.int .i64 (rd t336 t339)) := (by first | exact hx366_0_z | (have h_ := hx366_0_z; (try simp only [Int.reduceToNat, Nat.zero_mul, Nat.reduceMul, Nat.reduceEqDiff, Go.Addr.add, ↓reduceIte, Addr.add_zero'] at h_); exact h_))
             refine value_ (w1 := w') (v := .int .i64 (rd t336 t339)) (by rfl) rfl ?_ ?_
             ·go_simp
              (try simp only [i64_w])
              try rfl
             refine hK.out _ _ ⟨v368, v371, v374, gb377, m7_, m8_, m9_, m11_, (by rw [ha.out]; exact putSel_upk 3 hb_ rfl rfl rfl), Q_HO_342000, Q_HO_342001, Q_HO_342002, Q_HO_353000, Q_HO_353001, Q_HO_353002, Q_HO_364000, Q_HO_364001, Q_HO_364002, Q_BK341, Q_BK352, Q_BK363, Q_HB, fun h0_ => absurd ((hoff 7 (by kernel_rfl)).symm.trans h0_) (by decide), fun h0_ => absurd ((hoff 7 (by kernel_rfl)).symm.trans h0_) (by decide), fun h0_ => absurd ((hoff 7 (by kernel_rfl)).symm.trans h0_) (by decide), Q_BK377, Q_GW377, Q_GE377, Q_NB341_377, Q_NB377_341, Q_NB352_377, Q_NB377_352, Q_NB363_377, Q_NB377_363, fun h0_ => absurd ((hoff 12 (by kernel_rfl)).symm.trans h0_) (by decide), fun h0_ => absurd ((hoff 7 (by kernel_rfl)).symm.trans h0_) (by decide), fun h0_ => absurd ((hoff 8 (by kernel_rfl)).symm.trans h0_) (by decide), fun h0_ => absurd ((hoff 9 (by kernel_rfl)).symm.trans h0_) (by decide), Q_X11_⟩
            refine steps_cons ?_ ?_
            ·rintro b a w' ⟨v368, v371, v374, gb377, m7_, m8_, m9_, m11_, ha, Q_HO_342000, Q_HO_342001, Q_HO_342002, Q_HO_353000, Q_HO_353001, Q_HO_353002, Q_HO_364000, Q_HO_364001, Q_HO_364002, Q_BK341, Q_BK352, Q_BK363, Q_HB, Q_HO369, Q_HO372, Q_HO375, Q_BK377, Q_GW377, Q_GE377, Q_NB341_377, Q_NB377_341, Q_NB352_377, Q_NB377_352, Q_NB363_377, Q_NB377_363, Q_BK377_e12, Q_X7_, Q_X8_, Q_X9_, Q_X11_⟩ hb_ hon hoff
             refine ⟨_, rfl, fun K hK => ?_⟩
             have e57 : a.tmps[57]? = some (.agg #[.slice Ao15 t342.length co15, .slice Ao18 t345.length co18, .slice Ao19 t348.length co19]) := by rw [ha]; exact putSel_on (e := (0, 57, .agg #[.slice Ao15 t342.length co15, .slice Ao18 t345.length co18, .slice Ao19 t348.length co19])) 0 rfl rfl (hon 0 (by kernel_rfl)) rfl
             have e58 : a.tmps[58]? = some (.int .i64 t339) := by rw [ha]; exact (putSel_off rfl).trans rfl
             have e63 : a.tmps[63]? = some (.int .i64 (rd t336 t339)) := by rw [ha]; exact putSel_on (e := (6, 63, .int .i64 (rd t336 t339))) 3 rfl rfl (hon 6 (by kernel_rfl)) rfl
             replace ha := am ha
             have HO_342000 := am Q_HO_342000
             have HO_342001 := am Q_HO_342001
             have HO_342002 := am Q_HO_342002
             have HO_353000 := am Q_HO_353000
             have HO_353001 := am Q_HO_353001
             have HO_353002 := am Q_HO_353002
             have HO_364000 := am Q_HO_364000
             have HO_364001 := am Q_HO_364001
             have HO_364002 := am Q_HO_364002
             have BK341 := am Q_BK341
             have BK352 := am Q_BK352
             have BK363 := am Q_BK363
             have HB := am Q_HB
             refine goes_ Try.func14 (by kernel_rfl) rfl #[.agg #[.slice Ao15 t342.length co15, .slice Ao18 t345.length co18, .slice Ao19 t348.length co19], .int .i64 t339, .int .i64 (rd t336 t339)] (by rfl) rfl rfl (by first | (simp only [List.map_toArray, List.map_cons, List.map_nil, Act.eval, Array.getD_eq_getD_getElem?, Option.getD_some, e57, e58, e63]; done) | (simp only [List.map_toArray, List.map_cons, List.map_nil, Act.eval, Array.getD_eq_getD_getElem?, Option.getD_some, e57, e58, e63]; rfl)) ?_
             with_reducible refine (impl_PutRoot.calls kj5 _ _ t342 _ _ t345 _ _ t348 t339 (rd t336 t339) t367 t370 t373 true _ ?side1 ?side2 ?side3 ?side4 ?side5 ?side6 A61.out).mono ?_
             (case side1 => exact cl ((Kd.R_reads' HO_353000.out).2.2))
             (case side2 => exact (Kd.R_reads' HO_353000.out).2.1)
             (case side3 => exact cl ((Kd.R_reads' HO_353001.out).2.2))
             (case side4 => exact (Kd.R_reads' HO_353001.out).2.1)
             (case side5 => exact cl ((Kd.R_reads' HO_353002.out).2.2))
             (case side6 => exact (Kd.R_reads' HO_353002.out).2.1)
             rintro e w69 ⟨v368, v371, v374, rfl, ho0, ho1, ho2, hb⟩
             refine ⟨_, rfl, ?_⟩
             have n0_ := am (Kd.R_mono (Kd.R_told (Kd.R_told (Kd.R_told (Kd.R_old (rl HO_342000.out) hb) (Kd.R_base ho0)) (Kd.R_base ho1)) (Kd.R_base ho2)) (fun _ h_ => h_.1))
             have n1_ := am (Kd.R_mono (Kd.R_told (Kd.R_told (Kd.R_told (Kd.R_old (rl HO_342001.out) hb) (Kd.R_base ho0)) (Kd.R_base ho1)) (Kd.R_base ho2)) (fun _ h_ => h_.1))
             have n2_ := am (Kd.R_mono (Kd.R_told (Kd.R_told (Kd.R_told (Kd.R_old (rl HO_342002.out) hb) (Kd.R_base ho0)) (Kd.R_base ho1)) (Kd.R_base ho2)) (fun _ h_ => h_.1))
             have n3_ := am (Kd.R_mono (Kd.R_told (Kd.R_told (Kd.R_told (Kd.R_old (rl HO_353000.out) hb) (Kd.R_base ho0)) (Kd.R_base ho1)) (Kd.R_base ho2)) (fun _ h_ => h_.1))
             have n4_ := am (Kd.R_mono (Kd.R_told (Kd.R_told (Kd.R_told (Kd.R_old (rl HO_353001.out) hb) (Kd.R_base ho0)) (Kd.R_base ho1)) (Kd.R_base ho2)) (fun _ h_ => h_.1))
             have n5_ := am (Kd.R_mono (Kd.R_told (Kd.R_told (Kd.R_told (Kd.R_old (rl HO_353002.out) hb) (Kd.R_base ho0)) (Kd.R_base ho1)) (Kd.R_base ho2)) (fun _ h_ => h_.1))
             have n6_ := am (Kd.R_mono (Kd.R_told (Kd.R_told (Kd.R_told (Kd.R_old (rl HO_364000.out) hb) (Kd.R_base ho0)) (Kd.R_base ho1)) (Kd.R_base ho2)) (fun _ h_ => h_.1))
             have n7_ := am (Kd.R_mono (Kd.R_told (Kd.R_told (Kd.R_told (Kd.R_old (rl HO_364001.out) hb) (Kd.R_base ho0)) (Kd.R_base ho1)) (Kd.R_base ho2)) (fun _ h_ => h_.1))
             have n8_ := am (Kd.R_mono (Kd.R_told (Kd.R_told (Kd.R_told (Kd.R_old (rl HO_364002.out) hb) (Kd.R_base ho0)) (Kd.R_base ho1)) (Kd.R_base ho2)) (fun _ h_ => h_.1))
             have n9_ := am (Kd.R_lower (Kd.R_new' (Kd.R_new' (Kd.R_new' (Kd.R_new' (Kd.R_new' (Kd.R_new' (Kd.R_new' (Kd.R_new' (Kd.R_new' ho0 (Kd.R_lt (rl HO_342000.out))) (Kd.R_lt (rl HO_342001.out))) (Kd.R_lt (rl HO_342002.out))) (Kd.R_lt (rl HO_353000.out))) (Kd.R_lt (rl HO_353001.out))) (Kd.R_lt (rl HO_353002.out))) (Kd.R_lt (rl HO_364000.out))) (Kd.R_lt (rl HO_364001.out))) (Kd.R_lt (rl HO_364002.out))) (below_size (bs3 GE341.out GE352.out GE363.out HB.out)))
             have n10_ := am (Kd.R_lower (Kd.R_new' (Kd.R_new' (Kd.R_new' (Kd.R_new' (Kd.R_new' (Kd.R_new' (Kd.R_new' (Kd.R_new' (Kd.R_new' ho1 (Kd.R_lt (rl HO_342000.out))) (Kd.R_lt (rl HO_342001.out))) (Kd.R_lt (rl HO_342002.out))) (Kd.R_lt (rl HO_353000.out))) (Kd.R_lt (rl HO_353001.out))) (Kd.R_lt (rl HO_353002.out))) (Kd.R_lt (rl HO_364000.out))) (Kd.R_lt (rl HO_364001.out))) (Kd.R_lt (rl HO_364002.out))) (below_size (bs3 GE341.out GE352.out GE363.out HB.out)))
             have n11_ := am (Kd.R_lower (Kd.R_new' (Kd.R_new' (Kd.R_new' (Kd.R_new' (Kd.R_new' (Kd.R_new' (Kd.R_new' (Kd.R_new' (Kd.R_new' ho2 (Kd.R_lt (rl HO_342000.out))) (Kd.R_lt (rl HO_342001.out))) (Kd.R_lt (rl HO_342002.out))) (Kd.R_lt (rl HO_353000.out))) (Kd.R_lt (rl HO_353001.out))) (Kd.R_lt (rl HO_353002.out))) (Kd.R_lt (rl HO_364000.out))) (Kd.R_lt (rl HO_364001.out))) (Kd.R_lt (rl HO_364002.out))) (below_size (bs3 GE341.out GE352.out GE363.out HB.out)))
             have n12_ := am (blk_below (g := gb341) (o := .cells #[.slice Ao9 t330.length co9, .slice Ao11 t333.length co11, .slice (some ad366) t336.length co12] 25 (0, 0)) (kl BK341.out) hb)
             have n13_ := am (blk_below (g := gb352) (o := .cells #[.slice Ao15 t342.length co15, .slice Ao18 t345.length co18, .slice Ao19 t348.length co19] 25 (0, 0)) (kl BK352.out) hb)
             have n14_ := am (blk_below (g := gb363) (o := .cells #[.slice Ao23 t353.length co23, .slice Ao27 t356.length co27, .slice Ao28 t359.length co28] 25 (0, 0)) (kl BK363.out) hb)
             have n15_ := am (below_step (bs3 GE341.out GE352.out GE363.out HB.out) hb)
             have z_BK377 := fun (h0_ : b 11 = true) (h1_ : b 12 = false) => (show w69.heap[gb377]? = some (.cells #[.slice none 0 0, .slice none 0 0, .slice none 0 0] 25 (0, 0)) from by first | exact (blk_below (g := gb377) (o := .cells #[.slice none 0 0, .slice none 0 0, .slice none 0 0] 25 (0, 0)) (kl ((Q_BK377 h0_ h1_))) hb))
             clear HO_342000
             clear HO_342001
             clear HO_342002
             clear HO_353000
             clear HO_353001
             clear HO_353002
             clear HO_364000
             clear HO_364001
             clear HO_364002
             clear BK341
             clear BK352
             clear BK363
             clear HB
             have HO_342000 := n0_
             have HO_342001 := n1_
             have HO_342002 := n2_
             have HO_353000 := n3_
             have HO_353001 := n4_
             have HO_353002 := n5_
             have HO_364000 := n6_
             have HO_364001 := n7_
             have HO_364002 := n8_
             have HO369 := n9_
             have HO372 := n10_
             have HO375 := n11_
             have BK341 := n12_
             have BK352 := n13_
             have BK363 := n14_
             have HB := n15_
             clear n0_ n1_ n2_ n3_ n4_ n5_ n6_ n7_ n8_ n9_ n10_ n11_ n12_ n13_ n14_ n15_
             (try clear hb)
             (try clear hb2)
             (try clear hk)
             (try clear hi)
             (try clear ho0)
             (try clear ho1)
             (try clear ho2)
             refine hK.out _ _ ⟨v368, v371, v374, gb377, (.tuple #[.agg #[v368, v371, v374], .bool true]), m8_, m9_, m11_, (by rw [ha.out]; exact putSel_upk 4 hb_ rfl rfl rfl), (rl (Kd.R_mono HO_342000.out (fun _ hk => by simp only [ne_eq] at hk ⊢; simp only [hk, not_false_eq_true, and_self]))), (rl (Kd.R_mono HO_342001.out (fun _ hk => by simp only [ne_eq] at hk ⊢; simp only [hk, not_false_eq_true, and_self]))), (rl (Kd.R_mono HO_342002.out (fun _ hk => by simp only [ne_eq] at hk ⊢; simp only [hk, not_false_eq_true, and_self]))), (rl (Kd.R_mono HO_353000.out (fun _ hk => by simp only [ne_eq] at hk ⊢; simp only [hk, not_false_eq_true, and_self]))), (rl (Kd.R_mono HO_353001.out (fun _ hk => by simp only [ne_eq] at hk ⊢; simp only [hk, not_false_eq_true, and_self]))), (rl (Kd.R_mono HO_353002.out (fun _ hk => by simp only [ne_eq] at hk ⊢; simp only [hk, not_false_eq_true, and_self]))), (rl (Kd.R_mono HO_364000.out (fun _ hk => by simp only [ne_eq] at hk ⊢; simp only [hk, not_false_eq_true, and_self]))), (rl (Kd.R_mono HO_364001.out (fun _ hk => by simp only [ne_eq] at hk ⊢; simp only [hk, not_false_eq_true, and_self]))), (rl (Kd.R_mono HO_364002.out (fun _ hk => by simp only [ne_eq] at hk ⊢; simp only [hk, not_false_eq_true, and_self]))), (kl BK341.out), (kl BK352.out), (kl BK363.out), (bs3 GE341.out GE352.out GE363.out HB.out), fun _ => (rl (Kd.R_mono HO369.out (fun _ hk => by simp only [ne_eq] at hk ⊢; simp only [hk, not_false_eq_true, and_self]))), fun _ => (rl (Kd.R_mono HO372.out (fun _ hk => by simp only [ne_eq] at hk ⊢; simp only [hk, not_false_eq_true, and_self]))), fun _ => (rl (Kd.R_mono HO375.out (fun _ hk => by simp only [ne_eq] at hk ⊢; simp only [hk, not_false_eq_true, and_self]))), z_BK377, Q_GW377, Q_GE377, Q_NB341_377, Q_NB377_341, Q_NB352_377, Q_NB377_352, Q_NB363_377, Q_NB377_363, fun h0_ => absurd ((hoff 12 (by kernel_rfl)).symm.trans h0_) (by decide), fun _ => rfl, fun h0_ => absurd ((hoff 8 (by kernel_rfl)).symm.trans h0_) (by decide), fun h0_ => absurd ((hoff 9 (by kernel_rfl)).symm.trans h0_) (by decide), Q_X11_⟩
            refine steps_cons ?_ ?_
            ·rintro b a w' ⟨v368, v371, v374, gb377, m7_, m8_, m9_, m11_, ha, Q_HO_342000, Q_HO_342001, Q_HO_342002, Q_HO_353000, Q_HO_353001, Q_HO_353002, Q_HO_364000, Q_HO_364001, Q_HO_364002, Q_BK341, Q_BK352, Q_BK363, Q_HB, Q_HO369, Q_HO372, Q_HO375, Q_BK377, Q_GW377, Q_GE377, Q_NB341_377, Q_NB377_341, Q_NB352_377, Q_NB377_352, Q_NB363_377, Q_NB377_363, Q_BK377_e12, Q_X7_, Q_X8_, Q_X9_, Q_X11_⟩ hb_ hon hoff
             refine ⟨_, rfl, fun K hK => ?_⟩
             have e64 : a.tmps[64]? = some (m7_) := by rw [ha]; exact putSel_on (e := (7, 64, m7_)) 4 rfl rfl (hon 7 (by kernel_rfl)) rfl
             rw [Q_X7_ (hon 7 (by kernel_rfl))] at e64
             replace ha := am ha
             have HO_342000 := am Q_HO_342000
             have HO_342001 := am Q_HO_342001
             have HO_342002 := am Q_HO_342002
             have HO_353000 := am Q_HO_353000
             have HO_353001 := am Q_HO_353001
             have HO_353002 := am Q_HO_353002
             have HO_364000 := am Q_HO_364000
             have HO_364001 := am Q_HO_364001
             have HO_364002 := am Q_HO_364002
             have BK341 := am Q_BK341
             have BK352 := am Q_BK352
             have BK363 := am Q_BK363
             have HB := am Q_HB
             have HO369 := am (Q_HO369 (hon 7 (by kernel_rfl)))
             have HO372 := am (Q_HO372 (hon 7 (by kernel_rfl)))
             have HO375 := am (Q_HO375 (hon 7 (by kernel_rfl)))
             refine value_ (w1 := w') (v := .tuple #[.agg #[v368, v371, v374], .bool true]) (by rfl) rfl ?_ ?_
             ·go_simp
              (try simp only [i64_w])
              try rfl
             refine hK.out _ _ ⟨v368, v371, v374, gb377, m7_, (.tuple #[.agg #[v368, v371, v374], .bool true]), m9_, m11_, (by rw [ha.out]; exact putSel_upk 5 hb_ rfl rfl rfl), Q_HO_342000, Q_HO_342001, Q_HO_342002, Q_HO_353000, Q_HO_353001, Q_HO_353002, Q_HO_364000, Q_HO_364001, Q_HO_364002, Q_BK341, Q_BK352, Q_BK363, Q_HB, Q_HO369, Q_HO372, Q_HO375, Q_BK377, Q_GW377, Q_GE377, Q_NB341_377, Q_NB377_341, Q_NB352_377, Q_NB377_352, Q_NB363_377, Q_NB377_363, fun h0_ => absurd ((hoff 12 (by kernel_rfl)).symm.trans h0_) (by decide), Q_X7_, fun _ => rfl, fun h0_ => absurd ((hoff 9 (by kernel_rfl)).symm.trans h0_) (by decide), Q_X11_⟩
            refine steps_cons ?_ ?_
            ·rintro b a w' ⟨v368, v371, v374, gb377, m7_, m8_, m9_, m11_, ha, Q_HO_342000, Q_HO_342001, Q_HO_342002, Q_HO_353000, Q_HO_353001, Q_HO_353002, Q_HO_364000, Q_HO_364001, Q_HO_364002, Q_BK341, Q_BK352, Q_BK363, Q_HB, Q_HO369, Q_HO372, Q_HO375, Q_BK377, Q_GW377, Q_GE377, Q_NB341_377, Q_NB377_341, Q_NB352_377, Q_NB377_352, Q_NB363_377, Q_NB377_363, Q_BK377_e12, Q_X7_, Q_X8_, Q_X9_, Q_X11_⟩ hb_ hon hoff
             refine ⟨_, rfl, fun K hK => ?_⟩
             have e56 : a.tmps[56]? = some (m8_) := by rw [ha]; exact putSel_on (e := (8, 56, m8_)) 5 rfl rfl (hon 8 (by kernel_rfl)) rfl
             rw [Q_X8_ (hon 8 (by kernel_rfl))] at e56
             replace ha := am ha
             have HO_342000 := am Q_HO_342000
             have HO_342001 := am Q_HO_342001
             have HO_342002 := am Q_HO_342002
             have HO_353000 := am Q_HO_353000
             have HO_353001 := am Q_HO_353001
             have HO_353002 := am Q_HO_353002
             have HO_364000 := am Q_HO_364000
             have HO_364001 := am Q_HO_364001
             have HO_364002 := am Q_HO_364002
             have BK341 := am Q_BK341
             have BK352 := am Q_BK352
             have BK363 := am Q_BK363
             have HB := am Q_HB
             have HO369 := am (Q_HO369 (hon 7 (by kernel_rfl)))
             have HO372 := am (Q_HO372 (hon 7 (by kernel_rfl)))
             have HO375 := am (Q_HO375 (hon 7 (by kernel_rfl)))
             refine value_ (w1 := w') (v := .agg #[v368, v371, v374]) (by rfl) rfl ?_ ?_
             ·go_simp
              (try simp only [i64_w])
              try rfl
             refine hK.out _ _ ⟨v368, v371, v374, gb377, m7_, m8_, (.agg #[v368, v371, v374]), m11_, (by rw [ha.out]; exact putSel_upk 6 hb_ rfl rfl rfl), Q_HO_342000, Q_HO_342001, Q_HO_342002, Q_HO_353000, Q_HO_353001, Q_HO_353002, Q_HO_364000, Q_HO_364001, Q_HO_364002, Q_BK341, Q_BK352, Q_BK363, Q_HB, Q_HO369, Q_HO372, Q_HO375, Q_BK377, Q_GW377, Q_GE377, Q_NB341_377, Q_NB377_341, Q_NB352_377, Q_NB377_352, Q_NB363_377, Q_NB377_363, fun h0_ => absurd ((hoff 12 (by kernel_rfl)).symm.trans h0_) (by decide), Q_X7_, Q_X8_, fun _ => rfl, Q_X11_⟩
            refine steps_cons ?_ ?_
            ·rintro b a w' ⟨v368, v371, v374, gb377, m7_, m8_, m9_, m11_, ha, Q_HO_342000, Q_HO_342001, Q_HO_342002, Q_HO_353000, Q_HO_353001, Q_HO_353002, Q_HO_364000, Q_HO_364001, Q_HO_364002, Q_BK341, Q_BK352, Q_BK363, Q_HB, Q_HO369, Q_HO372, Q_HO375, Q_BK377, Q_GW377, Q_GE377, Q_NB341_377, Q_NB377_341, Q_NB352_377, Q_NB377_352, Q_NB363_377, Q_NB377_363, Q_BK377_e12, Q_X7_, Q_X8_, Q_X9_, Q_X11_⟩ hb_ hon hoff
             refine ⟨_, rfl, fun K hK => ?_⟩
             have e56 : a.tmps[56]? = some (m8_) := by rw [ha]; exact putSel_on (e := (8, 56, m8_)) 5 rfl rfl (hon 8 (by kernel_rfl)) rfl
             rw [Q_X8_ (hon 8 (by kernel_rfl))] at e56
             replace ha := am ha
             have HO_342000 := am Q_HO_342000
             have HO_342001 := am Q_HO_342001
             have HO_342002 := am Q_HO_342002
             have HO_353000 := am Q_HO_353000
             have HO_353001 := am Q_HO_353001
             have HO_353002 := am Q_HO_353002
             have HO_364000 := am Q_HO_364000
             have HO_364001 := am Q_HO_364001
             have HO_364002 := am Q_HO_364002
             have BK341 := am Q_BK341
             have BK352 := am Q_BK352
             have BK363 := am Q_BK363
             have HB := am Q_HB
             have HO369 := am (Q_HO369 (hon 7 (by kernel_rfl)))
             have HO372 := am (Q_HO372 (hon 7 (by kernel_rfl)))
             have HO375 := am (Q_HO375 (hon 7 (by kernel_rfl)))
             refine value_ (w1 := w') (v := .bool true) (by rfl) rfl ?_ ?_
             ·go_simp
              (try simp only [i64_w])
              try rfl
             refine hK.out _ _ ⟨v368, v371, v374, gb377, m7_, m8_, m9_, m11_, (by rw [ha.out]; exact putSel_upk 7 hb_ rfl rfl rfl), Q_HO_342000, Q_HO_342001, Q_HO_342002, Q_HO_353000, Q_HO_353001, Q_HO_353002, Q_HO_364000, Q_HO_364001, Q_HO_364002, Q_BK341, Q_BK352, Q_BK363, Q_HB, Q_HO369, Q_HO372, Q_HO375, Q_BK377, Q_GW377, Q_GE377, Q_NB341_377, Q_NB377_341, Q_NB352_377, Q_NB377_352, Q_NB363_377, Q_NB377_363, Q_BK377_e12, Q_X7_, Q_X8_, Q_X9_, Q_X11_⟩
            refine steps_cons ?_ ?_
            ·rintro b a w' ⟨v368, v371, v374, gb377, m7_, m8_, m9_, m11_, ha, Q_HO_342000, Q_HO_342001, Q_HO_342002, Q_HO_353000, Q_HO_353001, Q_HO_353002, Q_HO_364000, Q_HO_364001, Q_HO_364002, Q_BK341, Q_BK352, Q_BK363, Q_HB, Q_HO369, Q_HO372, Q_HO375, Q_BK377, Q_GW377, Q_GE377, Q_NB341_377, Q_NB377_341, Q_NB352_377, Q_NB377_352, Q_NB363_377, Q_NB377_363, Q_BK377_e12, Q_X7_, Q_X8_, Q_X9_, Q_X11_⟩ hb_ hon hoff
             refine ⟨_, rfl, fun K hK => ?_⟩
             replace ha := am ha
             have HO_342000 := am Q_HO_342000
             have HO_342001 := am Q_HO_342001
             have HO_342002 := am Q_HO_342002
             have HO_353000 := am Q_HO_353000
             have HO_353001 := am Q_HO_353001
             have HO_353002 := am Q_HO_353002
             have HO_364000 := am Q_HO_364000
             have HO_364001 := am Q_HO_364001
             have HO_364002 := am Q_HO_364002
             have BK341 := am Q_BK341
             have BK352 := am Q_BK352
             have BK363 := am Q_BK363
             have HB := am Q_HB
             refine box_step ?hg (N := 10) ?hd (cs := #[.slice none 0 0, .slice none 0 0, .slice none 0 0]) (t := 25) ?hr ?_; (case hd => rfl); (case hg => rfl); (case hr => first | (go_simp; done) | (go_simp; rfl))
             intro gb377 hg w69 hbox hb
             have n0_ := am (Kd.R_below (rl HO_342000.out) hb)
             have n1_ := am (Kd.R_below (rl HO_342001.out) hb)
             have n2_ := am (Kd.R_below (rl HO_342002.out) hb)
             have n3_ := am (Kd.R_below (rl HO_353000.out) hb)
             have n4_ := am (Kd.R_below (rl HO_353001.out) hb)
             have n5_ := am (Kd.R_below (rl HO_353002.out) hb)
             have n6_ := am (Kd.R_below (rl HO_364000.out) hb)
             have n7_ := am (Kd.R_below (rl HO_364001.out) hb)
             have n8_ := am (Kd.R_below (rl HO_364002.out) hb)
             have n9_ := am (blk_below (g := gb341) (o := .cells #[.slice Ao9 t330.length co9, .slice Ao11 t333.length co11, .slice (some ad366) t336.length co12] 25 (0, 0)) (kl BK341.out) hb)
             have n10_ := am (blk_below (g := gb352) (o := .cells #[.slice Ao15 t342.length co15, .slice Ao18 t345.length co18, .slice Ao19 t348.length co19] 25 (0, 0)) (kl BK352.out) hb)
             have n11_ := am (blk_below (g := gb363) (o := .cells #[.slice Ao23 t353.length co23, .slice Ao27 t356.length co27, .slice Ao28 t359.length co28] 25 (0, 0)) (kl BK363.out) hb)
             have n12_ := am (below_step (bs3 GE341.out GE352.out GE363.out HB.out) hb)
             have n13_ := am (hbox)
             have n14_ := am ((by rw [hg]; exact (below_size (bs3 GE341.out GE352.out GE363.out HB.out)) : w.heap.size ≤ gb377))
             have n15_ := am ((by rw [hg]; exact (below_size (bs3 GE341.out GE352.out GE363.out HB.out)) : w.heap.size ≤ gb377))
             have n16_ := am ((by rw [hg]; exact Nat.ne_of_lt (blk_lt (g := gb341) (o := .cells #[.slice Ao9 t330.length co9, .slice Ao11 t333.length co11, .slice (some ad366) t336.length co12] 25 (0, 0)) (kl BK341.out)) : gb341 ≠ gb377))
             have n17_ := am ((by rw [hg]; exact Nat.ne_of_gt (blk_lt (g := gb341) (o := .cells #[.slice Ao9 t330.length co9, .slice Ao11 t333.length co11, .slice (some ad366) t336.length co12] 25 (0, 0)) (kl BK341.out)) : gb377 ≠ gb341))
             have n18_ := am ((by rw [hg]; exact Nat.ne_of_lt (blk_lt (g := gb352) (o := .cells #[.slice Ao15 t342.length co15, .slice Ao18 t345.length co18, .slice Ao19 t348.length co19] 25 (0, 0)) (kl BK352.out)) : gb352 ≠ gb377))
             have n19_ := am ((by rw [hg]; exact Nat.ne_of_gt (blk_lt (g := gb352) (o := .cells #[.slice Ao15 t342.length co15, .slice Ao18 t345.length co18, .slice Ao19 t348.length co19] 25 (0, 0)) (kl BK352.out)) : gb377 ≠ gb352))
             have n20_ := am ((by rw [hg]; exact Nat.ne_of_lt (blk_lt (g := gb363) (o := .cells #[.slice Ao23 t353.length co23, .slice Ao27 t356.length co27, .slice Ao28 t359.length co28] 25 (0, 0)) (kl BK363.out)) : gb363 ≠ gb377))
             have n21_ := am ((by rw [hg]; exact Nat.ne_of_gt (blk_lt (g := gb363) (o := .cells #[.slice Ao23 t353.length co23, .slice Ao27 t356.length co27, .slice Ao28 t359.length co28] 25 (0, 0)) (kl BK363.out)) : gb377 ≠ gb363))
             have z_HO369 := fun (h0_ : b 7 = true) => (show Kd.R (Kd.int .i64) 3 w69 w.heap.size (fun k_ => some k_ ≠ (.slice Ao9 t330.length co9 : Value).ownBlock ∧ some k_ ≠ (.slice Ao11 t333.length co11 : Value).ownBlock ∧ some k_ ≠ (.slice (some ad366) t336.length co12 : Value).ownBlock ∧ some k_ ≠ (.slice Ao15 t342.length co15 : Value).ownBlock ∧ some k_ ≠ (.slice Ao18 t345.length co18 : Value).ownBlock ∧ some k_ ≠ (.slice Ao19 t348.length co19 : Value).ownBlock ∧ some k_ ≠ (.slice Ao23 t353.length co23 : Value).ownBlock ∧ some k_ ≠ (.slice Ao27 t356.length co27 : Value).ownBlock ∧ some k_ ≠ (.slice Ao28 t359.length co28 : Value).ownBlock) v368 t367 from by first | exact (Kd.R_below (rl ((Q_HO369 h0_))) hb) | exact Kd.R_mono (Kd.R_below (rl ((Q_HO369 h0_))) hb) (fun _ h_ => by first | trivial | exact h_ | exact h_.1))
             have z_HO372 := fun (h0_ : b 7 = true) => (show Kd.R (Kd.int .i64) 3 w69 w.heap.size (fun k_ => some k_ ≠ (.slice Ao9 t330.length co9 : Value).ownBlock ∧ some k_ ≠ (.slice Ao11 t333.length co11 : Value).ownBlock ∧ some k_ ≠ (.slice (some ad366) t336.length co12 : Value).ownBlock ∧ some k_ ≠ (.slice Ao15 t342.length co15 : Value).ownBlock ∧ some k_ ≠ (.slice Ao18 t345.length co18 : Value).ownBlock ∧ some k_ ≠ (.slice Ao19 t348.length co19 : Value).ownBlock ∧ some k_ ≠ (.slice Ao23 t353.length co23 : Value).ownBlock ∧ some k_ ≠ (.slice Ao27 t356.length co27 : Value).ownBlock ∧ some k_ ≠ (.slice Ao28 t359.length co28 : Value).ownBlock) v371 t370 from by first | exact (Kd.R_below (rl ((Q_HO372 h0_))) hb) | exact Kd.R_mono (Kd.R_below (rl ((Q_HO372 h0_))) hb) (fun _ h_ => by first | trivial | exact h_ | exact h_.1))
             have z_HO375 := fun (h0_ : b 7 = true) => (show Kd.R (Kd.int .i64) 3 w69 w.heap.size (fun k_ => some k_ ≠ (.slice Ao9 t330.length co9 : Value).ownBlock ∧ some k_ ≠ (.slice Ao11 t333.length co11 : Value).ownBlock ∧ some k_ ≠ (.slice (some ad366) t336.length co12 : Value).ownBlock ∧ some k_ ≠ (.slice Ao15 t342.length co15 : Value).ownBlock ∧ some k_ ≠ (.slice Ao18 t345.length co18 : Value).ownBlock ∧ some k_ ≠ (.slice Ao19 t348.length co19 : Value).ownBlock ∧ some k_ ≠ (.slice Ao23 t353.length co23 : Value).ownBlock ∧ some k_ ≠ (.slice Ao27 t356.length co27 : Value).ownBlock ∧ some k_ ≠ (.slice Ao28 t359.length co28 : Value).ownBlock) v374 t373 from by first | exact (Kd.R_below (rl ((Q_HO375 h0_))) hb) | exact Kd.R_mono (Kd.R_below (rl ((Q_HO375 h0_))) hb) (fun _ h_ => by first | trivial | exact h_ | exact h_.1))
             clear HO_342000
             clear HO_342001
             clear HO_342002
             clear HO_353000
             clear HO_353001
             clear HO_353002
             clear HO_364000
             clear HO_364001
             clear HO_364002
             clear BK341
             clear BK352
             clear BK363
             clear HB
             have HO_342000 := n0_
             have HO_342001 := n1_
             have HO_342002 := n2_
             have HO_353000 := n3_
             have HO_353001 := n4_
             have HO_353002 := n5_
             have HO_364000 := n6_
             have HO_364001 := n7_
             have HO_364002 := n8_
             have BK341 := n9_
             have BK352 := n10_
             have BK363 := n11_
             have HB := n12_
             have BK377 := n13_
             have GW377 := n14_
             have GE377 := n15_
             have NB341_377 := n16_
             have NB377_341 := n17_
             have NB352_377 := n18_
             have NB377_352 := n19_
             have NB363_377 := n20_
             have NB377_363 := n21_
             clear n0_ n1_ n2_ n3_ n4_ n5_ n6_ n7_ n8_ n9_ n10_ n11_ n12_ n13_ n14_ n15_ n16_ n17_ n18_ n19_ n20_ n21_
             clear hb hbox hg
             refine hK.out _ _ ⟨v368, v371, v374, gb377, m7_, m8_, m9_, (.pointer (some ⟨gb377, 0, none⟩)), (by rw [ha.out]; exact putSel_upk 8 hb_ rfl rfl rfl), (rl HO_342000.out), (rl HO_342001.out), (rl HO_342002.out), (rl HO_353000.out), (rl HO_353001.out), (rl HO_353002.out), (rl HO_364000.out), (rl HO_364001.out), (rl HO_364002.out), (kl BK341.out), (kl BK352.out), (kl BK363.out), (bs4 GE341.out GE352.out GE363.out GE377.out HB.out), z_HO369, z_HO372, z_HO375, fun _ _ => (kl BK377.out), fun _ => GW377.out, fun _ => GE377.out, fun _ => NB341_377.out, fun _ => NB377_341.out, fun _ => NB352_377.out, fun _ => NB377_352.out, fun _ => NB363_377.out, fun _ => NB377_363.out, fun h0_ => absurd ((hoff 12 (by kernel_rfl)).symm.trans h0_) (by decide), Q_X7_, Q_X8_, Q_X9_, fun _ => rfl⟩
            refine steps_cons ?_ ?_
            ·rintro b a w' ⟨v368, v371, v374, gb377, m7_, m8_, m9_, m11_, ha, Q_HO_342000, Q_HO_342001, Q_HO_342002, Q_HO_353000, Q_HO_353001, Q_HO_353002, Q_HO_364000, Q_HO_364001, Q_HO_364002, Q_BK341, Q_BK352, Q_BK363, Q_HB, Q_HO369, Q_HO372, Q_HO375, Q_BK377, Q_GW377, Q_GE377, Q_NB341_377, Q_NB377_341, Q_NB352_377, Q_NB377_352, Q_NB363_377, Q_NB377_363, Q_BK377_e12, Q_X7_, Q_X8_, Q_X9_, Q_X11_⟩ hb_ hon hoff
             refine ⟨_, rfl, fun K hK => ?_⟩
             have e10 : a.tmps[10]? = some (m11_) := by rw [ha]; exact putSel_on (e := (11, 10, m11_)) 8 rfl rfl (hon 11 (by kernel_rfl)) rfl
             rw [Q_X11_ (hon 11 (by kernel_rfl))] at e10
             have e65 : a.tmps[65]? = some (m9_) := by rw [ha]; exact putSel_on (e := (9, 65, m9_)) 6 rfl rfl (hon 9 (by kernel_rfl)) rfl
             rw [Q_X9_ (hon 9 (by kernel_rfl))] at e65
             replace ha := am ha
             have HO_342000 := am Q_HO_342000
             have HO_342001 := am Q_HO_342001
             have HO_342002 := am Q_HO_342002
             have HO_353000 := am Q_HO_353000
             have HO_353001 := am Q_HO_353001
             have HO_353002 := am Q_HO_353002
             have HO_364000 := am Q_HO_364000
             have HO_364001 := am Q_HO_364001
             have HO_364002 := am Q_HO_364002
             have BK341 := am Q_BK341
             have BK352 := am Q_BK352
             have BK363 := am Q_BK363
             have HB := am Q_HB
             have HO369 := am (Q_HO369 (hon 7 (by kernel_rfl)))
             have HO372 := am (Q_HO372 (hon 7 (by kernel_rfl)))
             have HO375 := am (Q_HO375 (hon 7 (by kernel_rfl)))
             have BK377 := am (Q_BK377 (hon 11 (by kernel_rfl)) hb_)
             have GW377 := am (Q_GW377 (hon 11 (by kernel_rfl)))
             have GE377 := am (Q_GE377 (hon 11 (by kernel_rfl)))
             have NB341_377 := am (Q_NB341_377 (hon 11 (by kernel_rfl)))
             have NB377_341 := am (Q_NB377_341 (hon 11 (by kernel_rfl)))
             have NB352_377 := am (Q_NB352_377 (hon 11 (by kernel_rfl)))
             have NB377_352 := am (Q_NB377_352 (hon 11 (by kernel_rfl)))
             have NB363_377 := am (Q_NB363_377 (hon 11 (by kernel_rfl)))
             have NB377_363 := am (Q_NB377_363 (hon 11 (by kernel_rfl)))
             obtain ⟨Ao72, co72, eo72⟩ := Kd.R_slice HO369.out
             (first | subst eo72 | (injection eo72 with f1_ f2_ f3_; have f4_ := f1_.symm; have f5_ := f3_.symm; clear f1_ f2_ f3_; subst f4_; subst f5_))
             obtain ⟨Ao74, co74, eo74⟩ := Kd.R_slice HO372.out
             (first | subst eo74 | (injection eo74 with f1_ f2_ f3_; have f4_ := f1_.symm; have f5_ := f3_.symm; clear f1_ f2_ f3_; subst f4_; subst f5_))
             obtain ⟨Ao76, co76, eo76⟩ := Kd.R_slice HO375.out
             (first | subst eo76 | (injection eo76 with f1_ f2_ f3_; have f4_ := f1_.symm; have f5_ := f3_.symm; clear f1_ f2_ f3_; subst f4_; subst f5_))
             have hs73 : w'.cell? ⟨gb377, 0, none⟩ = some (.slice none 0 0) := (blk_cell BK377.out 0).trans rfl
             have hfs73 := blk_frozen BK377.out 0
             have hns73_0 := NB341_377.out
             have hns73_1 := NB352_377.out
             have hns73_2 := NB363_377.out
             have hms73_0 := NB377_341.out
             have hms73_1 := NB377_352.out
             have hms73_2 := NB377_363.out
             have hs75 : w'.cell? ⟨gb377, 1, none⟩ = some (.slice none 0 0) := (blk_cell BK377.out 1).trans rfl
             have hfs75 := blk_frozen BK377.out 1
             have hns75_0 := NB341_377.out
             have hns75_1 := NB352_377.out
             have hns75_2 := NB363_377.out
             have hms75_0 := NB377_341.out
             have hms75_1 := NB377_352.out
             have hms75_2 := NB377_363.out
             have hs77 : w'.cell? ⟨gb377, 2, none⟩ = some (.slice none 0 0) := (blk_cell BK377.out 2).trans rfl
             have hfs77 := blk_frozen BK377.out 2
             have hns77_0 := NB341_377.out
             have hns77_1 := NB352_377.out
             have hns77_2 := NB363_377.out
             have hms77_0 := NB377_341.out
             have hms77_1 := NB377_352.out
             have hms77_2 := NB377_363.out
             refine skip_ (w1 := ?_) (by rfl) rfl ?_ ?_
             rotate_left
             ·go_simp
              rfl
             refine hK.out _ _ ⟨.slice Ao72 t367.length co72, .slice Ao74 t370.length co74, .slice Ao76 t373.length co76, gb377, m7_, m8_, m9_, m11_, (by rw [ha.out]; exact putSel_none (v := undef) rfl), (rl (Kd.R_mono (Kd.R_far (p := ⟨gb377, 2, none⟩) (Kd.R_far (p := ⟨gb377, 1, none⟩) (Kd.R_far (p := ⟨gb377, 0, none⟩) (Kd.R_types HO_342000.out BK377.out (by decide)) (fun _ hk => hk.2) (.slice Ao72 t367.length co72)) (fun _ hk => hk.2) (.slice Ao74 t370.length co74)) (fun _ hk => hk.2) (.slice Ao76 t373.length co76)) (fun _ hk => by simp only [ne_eq] at hk ⊢; simp only [hk, not_false_eq_true, and_self]))), (rl (Kd.R_mono (Kd.R_far (p := ⟨gb377, 2, none⟩) (Kd.R_far (p := ⟨gb377, 1, none⟩) (Kd.R_far (p := ⟨gb377, 0, none⟩) (Kd.R_types HO_342001.out BK377.out (by decide)) (fun _ hk => hk.2) (.slice Ao72 t367.length co72)) (fun _ hk => hk.2) (.slice Ao74 t370.length co74)) (fun _ hk => hk.2) (.slice Ao76 t373.length co76)) (fun _ hk => by simp only [ne_eq] at hk ⊢; simp only [hk, not_false_eq_true, and_self]))), (rl (Kd.R_mono (Kd.R_far (p := ⟨gb377, 2, none⟩) (Kd.R_far (p := ⟨gb377, 1, none⟩) (Kd.R_far (p := ⟨gb377, 0, none⟩) (Kd.R_types HO_342002.out BK377.out (by decide)) (fun _ hk => hk.2) (.slice Ao72 t367.length co72)) (fun _ hk => hk.2) (.slice Ao74 t370.length co74)) (fun _ hk => hk.2) (.slice Ao76 t373.length co76)) (fun _ hk => by simp only [ne_eq] at hk ⊢; simp only [hk, not_false_eq_true, and_self]))), (rl (Kd.R_mono (Kd.R_far (p := ⟨gb377, 2, none⟩) (Kd.R_far (p := ⟨gb377, 1, none⟩) (Kd.R_far (p := ⟨gb377, 0, none⟩) (Kd.R_types HO_353000.out BK377.out (by decide)) (fun _ hk => hk.2) (.slice Ao72 t367.length co72)) (fun _ hk => hk.2) (.slice Ao74 t370.length co74)) (fun _ hk => hk.2) (.slice Ao76 t373.length co76)) (fun _ hk => by simp only [ne_eq] at hk ⊢; simp only [hk, not_false_eq_true, and_self]))), (rl (Kd.R_mono (Kd.R_far (p := ⟨gb377, 2, none⟩) (Kd.R_far (p := ⟨gb377, 1, none⟩) (Kd.R_far (p := ⟨gb377, 0, none⟩) (Kd.R_types HO_353001.out BK377.out (by decide)) (fun _ hk => hk.2) (.slice Ao72 t367.length co72)) (fun _ hk => hk.2) (.slice Ao74 t370.length co74)) (fun _ hk => hk.2) (.slice Ao76 t373.length co76)) (fun _ hk => by simp only [ne_eq] at hk ⊢; simp only [hk, not_false_eq_true, and_self]))), (rl (Kd.R_mono (Kd.R_far (p := ⟨gb377, 2, none⟩) (Kd.R_far (p := ⟨gb377, 1, none⟩) (Kd.R_far (p := ⟨gb377, 0, none⟩) (Kd.R_types HO_353002.out BK377.out (by decide)) (fun _ hk => hk.2) (.slice Ao72 t367.length co72)) (fun _ hk => hk.2) (.slice Ao74 t370.length co74)) (fun _ hk => hk.2) (.slice Ao76 t373.length co76)) (fun _ hk => by simp only [ne_eq] at hk ⊢; simp only [hk, not_false_eq_true, and_self]))), (rl (Kd.R_mono (Kd.R_far (p := ⟨gb377, 2, none⟩) (Kd.R_far (p := ⟨gb377, 1, none⟩) (Kd.R_far (p := ⟨gb377, 0, none⟩) (Kd.R_types HO_364000.out BK377.out (by decide)) (fun _ hk => hk.2) (.slice Ao72 t367.length co72)) (fun _ hk => hk.2) (.slice Ao74 t370.length co74)) (fun _ hk => hk.2) (.slice Ao76 t373.length co76)) (fun _ hk => by simp only [ne_eq] at hk ⊢; simp only [hk, not_false_eq_true, and_self]))), (rl (Kd.R_mono (Kd.R_far (p := ⟨gb377, 2, none⟩) (Kd.R_far (p := ⟨gb377, 1, none⟩) (Kd.R_far (p := ⟨gb377, 0, none⟩) (Kd.R_types HO_364001.out BK377.out (by decide)) (fun _ hk => hk.2) (.slice Ao72 t367.length co72)) (fun _ hk => hk.2) (.slice Ao74 t370.length co74)) (fun _ hk => hk.2) (.slice Ao76 t373.length co76)) (fun _ hk => by simp only [ne_eq] at hk ⊢; simp only [hk, not_false_eq_true, and_self]))), (rl (Kd.R_mono (Kd.R_far (p := ⟨gb377, 2, none⟩) (Kd.R_far (p := ⟨gb377, 1, none⟩) (Kd.R_far (p := ⟨gb377, 0, none⟩) (Kd.R_types HO_364002.out BK377.out (by decide)) (fun _ hk => hk.2) (.slice Ao72 t367.length co72)) (fun _ hk => hk.2) (.slice Ao74 t370.length co74)) (fun _ hk => hk.2) (.slice Ao76 t373.length co76)) (fun _ hk => by simp only [ne_eq] at hk ⊢; simp only [hk, not_false_eq_true, and_self]))), (kf1 NB341_377.out BK341.out), (kf1 NB352_377.out BK352.out), (kf1 NB363_377.out BK363.out), (bs4 GE341.out GE352.out GE363.out GE377.out HB.out), fun _ => (rl (Kd.R_mono (Kd.R_far (p := ⟨gb377, 2, none⟩) (Kd.R_far (p := ⟨gb377, 1, none⟩) (Kd.R_far (p := ⟨gb377, 0, none⟩) (Kd.R_types HO369.out BK377.out (by decide)) (fun _ hk => hk.2) (.slice Ao72 t367.length co72)) (fun _ hk => hk.2) (.slice Ao74 t370.length co74)) (fun _ hk => hk.2) (.slice Ao76 t373.length co76)) (fun _ hk => by simp only [ne_eq] at hk ⊢; simp only [hk, not_false_eq_true, and_self]))), fun _ => (rl (Kd.R_mono (Kd.R_far (p := ⟨gb377, 2, none⟩) (Kd.R_far (p := ⟨gb377, 1, none⟩) (Kd.R_far (p := ⟨gb377, 0, none⟩) (Kd.R_types HO372.out BK377.out (by decide)) (fun _ hk => hk.2) (.slice Ao72 t367.length co72)) (fun _ hk => hk.2) (.slice Ao74 t370.length co74)) (fun _ hk => hk.2) (.slice Ao76 t373.length co76)) (fun _ hk => by simp only [ne_eq] at hk ⊢; simp only [hk, not_false_eq_true, and_self]))), fun _ => (rl (Kd.R_mono (Kd.R_far (p := ⟨gb377, 2, none⟩) (Kd.R_far (p := ⟨gb377, 1, none⟩) (Kd.R_far (p := ⟨gb377, 0, none⟩) (Kd.R_types HO375.out BK377.out (by decide)) (fun _ hk => hk.2) (.slice Ao72 t367.length co72)) (fun _ hk => hk.2) (.slice Ao74 t370.length co74)) (fun _ hk => hk.2) (.slice Ao76 t373.length co76)) (fun _ hk => by simp only [ne_eq] at hk ⊢; simp only [hk, not_false_eq_true, and_self]))), fun _ h1_ => absurd ((up_self b 12).symm.trans h1_) (by decide), fun _ => GW377.out, fun _ => GE377.out, fun _ => NB341_377.out, fun _ => NB377_341.out, fun _ => NB352_377.out, fun _ => NB377_352.out, fun _ => NB363_377.out, fun _ => NB377_363.out, fun _ => (kp3 (kf0 BK377.out)), Q_X7_, Q_X8_, Q_X9_, Q_X11_⟩
            refine steps_cons ?_ ?_
            ·rintro b a w' ⟨v368, v371, v374, gb377, m7_, m8_, m9_, m11_, ha, Q_HO_342000, Q_HO_342001, Q_HO_342002, Q_HO_353000, Q_HO_353001, Q_HO_353002, Q_HO_364000, Q_HO_364001, Q_HO_364002, Q_BK341, Q_BK352, Q_BK363, Q_HB, Q_HO369, Q_HO372, Q_HO375, Q_BK377, Q_GW377, Q_GE377, Q_NB341_377, Q_NB377_341, Q_NB352_377, Q_NB377_352, Q_NB363_377, Q_NB377_363, Q_BK377_e12, Q_X7_, Q_X8_, Q_X9_, Q_X11_⟩ hb_ hon hoff
             refine ⟨_, rfl, fun K hK => ?_⟩
             have e66 : a.tmps[66]? = some (.bool true) := by rw [ha]; exact putSel_on (e := (10, 66, .bool true)) 7 rfl rfl (hon 10 (by kernel_rfl)) rfl
             replace ha := am ha
             have HO_342000 := am Q_HO_342000
             have HO_342001 := am Q_HO_342001
             have HO_342002 := am Q_HO_342002
             have HO_353000 := am Q_HO_353000
             have HO_353001 := am Q_HO_353001
             have HO_353002 := am Q_HO_353002
             have HO_364000 := am Q_HO_364000
             have HO_364001 := am Q_HO_364001
             have HO_364002 := am Q_HO_364002
             have BK341 := am Q_BK341
             have BK352 := am Q_BK352
             have BK363 := am Q_BK363
             have HB := am Q_HB
             have HO369 := am (Q_HO369 (hon 7 (by kernel_rfl)))
             have HO372 := am (Q_HO372 (hon 7 (by kernel_rfl)))
             have HO375 := am (Q_HO375 (hon 7 (by kernel_rfl)))
             have GW377 := am (Q_GW377 (hon 11 (by kernel_rfl)))
             have GE377 := am (Q_GE377 (hon 11 (by kernel_rfl)))
             have NB341_377 := am (Q_NB341_377 (hon 11 (by kernel_rfl)))
             have NB377_341 := am (Q_NB377_341 (hon 11 (by kernel_rfl)))
             have NB352_377 := am (Q_NB352_377 (hon 11 (by kernel_rfl)))
             have NB377_352 := am (Q_NB377_352 (hon 11 (by kernel_rfl)))
             have NB363_377 := am (Q_NB363_377 (hon 11 (by kernel_rfl)))
             have NB377_363 := am (Q_NB377_363 (hon 11 (by kernel_rfl)))
             have BK377 := am (Q_BK377_e12 (hon 12 (by kernel_rfl)))
             refine value_ (w1 := w') (v := .bool true) (by rfl) rfl ?_ ?_
             ·go_simp
              (try simp only [i64_w])
              try rfl
             refine hK.out _ _ ⟨v368, v371, v374, gb377, m7_, m8_, m9_, m11_, (by rw [ha.out]; exact putSel_upk 9 hb_ rfl rfl rfl), Q_HO_342000, Q_HO_342001, Q_HO_342002, Q_HO_353000, Q_HO_353001, Q_HO_353002, Q_HO_364000, Q_HO_364001, Q_HO_364002, Q_BK341, Q_BK352, Q_BK363, Q_HB, Q_HO369, Q_HO372, Q_HO375, fun _ h1_ => absurd ((hon 12 (by kernel_rfl)).symm.trans h1_) (by decide), Q_GW377, Q_GE377, Q_NB341_377, Q_NB377_341, Q_NB352_377, Q_NB377_352, Q_NB363_377, Q_NB377_363, Q_BK377_e12, Q_X7_, Q_X8_, Q_X9_, Q_X11_⟩
            exact steps_nil
           rintro b a w77 hall ⟨v368, v371, v374, gb377, m7_, m8_, m9_, m11_, ha, Q_HO_342000, Q_HO_342001, Q_HO_342002, Q_HO_353000, Q_HO_353001, Q_HO_353002, Q_HO_364000, Q_HO_364001, Q_HO_364002, Q_BK341, Q_BK352, Q_BK363, Q_HB, Q_HO369, Q_HO372, Q_HO375, Q_BK377, Q_GW377, Q_GE377, Q_NB341_377, Q_NB377_341, Q_NB352_377, Q_NB377_352, Q_NB363_377, Q_NB377_363, Q_BK377_e12, Q_X7_, Q_X8_, Q_X9_, Q_X11_⟩
           clear BK341 BK352 BK363 HB HO_342000 HO_342001 HO_342002 HO_353000 HO_353001 HO_353002 HO_364000 HO_364001 HO_364002
           have hb0_ := hall 0 (by kernel_rfl)
           have hb3_ := hall 3 (by kernel_rfl)
           have hb5_ := hall 5 (by kernel_rfl)
           have hb6_ := hall 6 (by kernel_rfl)
           have hb7_ := hall 7 (by kernel_rfl)
           have hb8_ := hall 8 (by kernel_rfl)
           have hb9_ := hall 9 (by kernel_rfl)
           have hb10_ := hall 10 (by kernel_rfl)
           have hb11_ := hall 11 (by kernel_rfl)
           have hb12_ := hall 12 (by kernel_rfl)
           have hb13_ := hall 13 (by kernel_rfl)
           subst ha
           obtain rfl := Q_X7_ hb7_
           obtain rfl := Q_X8_ hb8_
           obtain rfl := Q_X9_ hb9_
           obtain rfl := Q_X11_ hb11_
           simp only [putSel, hb0_, hb3_, hb5_, hb6_, hb7_, hb8_, hb9_, hb10_, hb11_, hb12_, hb13_, if_true, Act.put, List.setIfInBounds_toArray, List.set_cons_zero, List.set_cons_succ]
           have HO_342000 := am Q_HO_342000
           clear Q_HO_342000
           have HO_342001 := am Q_HO_342001
           clear Q_HO_342001
           have HO_342002 := am Q_HO_342002
           clear Q_HO_342002
           have HO_353000 := am Q_HO_353000
           clear Q_HO_353000
           have HO_353001 := am Q_HO_353001
           clear Q_HO_353001
           have HO_353002 := am Q_HO_353002
           clear Q_HO_353002
           have HO_364000 := am Q_HO_364000
           clear Q_HO_364000
           have HO_364001 := am Q_HO_364001
           clear Q_HO_364001
           have HO_364002 := am Q_HO_364002
           clear Q_HO_364002
           have BK341 := am Q_BK341
           clear Q_BK341
           have BK352 := am Q_BK352
           clear Q_BK352
           have BK363 := am Q_BK363
           clear Q_BK363
           have HB := am Q_HB
           clear Q_HB
           have HO369 := am (Q_HO369 hb7_)
           clear Q_HO369
           have HO372 := am (Q_HO372 hb7_)
           clear Q_HO372
           have HO375 := am (Q_HO375 hb7_)
           clear Q_HO375
           clear Q_BK377
           have GW377 := am (Q_GW377 hb11_)
           clear Q_GW377
           have GE377 := am (Q_GE377 hb11_)
           clear Q_GE377
           have NB341_377 := am (Q_NB341_377 hb11_)
           clear Q_NB341_377
           have NB377_341 := am (Q_NB377_341 hb11_)
           clear Q_NB377_341
           have NB352_377 := am (Q_NB352_377 hb11_)
           clear Q_NB352_377
           have NB377_352 := am (Q_NB377_352 hb11_)
           clear Q_NB377_352
           have NB363_377 := am (Q_NB363_377 hb11_)
           clear Q_NB363_377
           have NB377_363 := am (Q_NB377_363 hb11_)
           clear Q_NB377_363
           have BK377 := am (Q_BK377_e12 hb12_)
           clear Q_BK377_e12
           clear hall hb0_ hb3_ hb5_ hb6_ hb7_ hb8_ hb9_ hb10_ hb11_ hb12_ hb13_
           have hnb78 := NB352_341.out
           have hnc78 := NB341_352.out
           have hnb79 := NB352_363.out
           have hnc79 := NB363_352.out
           have hnb80 := NB352_377.out
           have hnc80 := NB377_352.out
           have hcz81_0 : w77.cell? ⟨gb352, 0, none⟩ = some (.slice Ao15 t342.length co15) := (blk_cell BK352.out 0).trans rfl
           have hcz81_1 : w77.cell? ⟨gb352, 1, none⟩ = some (.slice Ao18 t345.length co18) := (blk_cell BK352.out 1).trans rfl
           have hcz81_2 : w77.cell? ⟨gb352, 2, none⟩ = some (.slice Ao19 t348.length co19) := (blk_cell BK352.out 2).trans rfl
           have hfz81_0 := blk_frozen BK352.out 0
           have hfz81_1 := blk_frozen BK352.out 1
           have hfz81_2 := blk_frozen BK352.out 2
           try go_wp2_with (first | ((with_reducible refine gate_callee (f := 17) rfl ?_); refine goesL_ (some 68) rfl rfl Try.func17 (by kernel_rfl) rfl #[.agg #[.slice Ao15 t342.length co15, .slice Ao18 t345.length co18, .slice Ao19 t348.length co19]] rfl (by (try simp only [List.map_toArray, List.map_cons, List.map_nil]); first | done | rfl | (simp only [List.length_drop, List.length_take]; rfl)) ?_; (with_reducible refine (impl_HeapValid.calls kj5 (fun k_ => some k_ = (.slice Ao15 t342.length co15 : Value).ownBlock) _ _ t342 (fun k_ => some k_ = (.slice Ao18 t345.length co18 : Value).ownBlock) _ _ t345 (fun k_ => some k_ = (.slice Ao19 t348.length co19 : Value).ownBlock) _ _ t348 true _ ?side1 ?side2 ?side3 A62.out).mono ?_); (case side1 => exact Kd.R_V (Kd.R_tight rfl (Kd.R_types (Kd.R_types (Kd.R_types (Kd.R_types (HO_353000.out) BK341.out (by decide)) BK352.out (by decide)) BK363.out (by decide)) BK377.out (by decide)))); (case side2 => exact Kd.R_V (Kd.R_tight rfl (Kd.R_types (Kd.R_types (Kd.R_types (Kd.R_types (HO_353001.out) BK341.out (by decide)) BK352.out (by decide)) BK363.out (by decide)) BK377.out (by decide)))); (case side3 => exact Kd.R_V (Kd.R_tight rfl (Kd.R_types (Kd.R_types (Kd.R_types (Kd.R_types (HO_353002.out) BK341.out (by decide)) BK352.out (by decide)) BK363.out (by decide)) BK377.out (by decide)))); rintro e w82 ⟨rfl, hb⟩; refine ⟨_, rfl, ?_⟩; replace HO_342000 := am (Kd.R_below (rl HO_342000.out) hb); replace HO_342001 := am (Kd.R_below (rl HO_342001.out) hb); replace HO_342002 := am (Kd.R_below (rl HO_342002.out) hb); replace HO_353000 := am (Kd.R_below (rl HO_353000.out) hb); replace HO_353001 := am (Kd.R_below (rl HO_353001.out) hb); replace HO_353002 := am (Kd.R_below (rl HO_353002.out) hb); replace HO_364000 := am (Kd.R_below (rl HO_364000.out) hb); replace HO_364001 := am (Kd.R_below (rl HO_364001.out) hb); replace HO_364002 := am (Kd.R_below (rl HO_364002.out) hb); replace HO369 := am (Kd.R_below (rl HO369.out) hb); replace HO372 := am (Kd.R_below (rl HO372.out) hb); replace HO375 := am (Kd.R_below (rl HO375.out) hb); replace BK341 := am (blk_below (g := gb341) (o := .cells #[.slice Ao9 t330.length co9, .slice Ao11 t333.length co11, .slice (some ad366) t336.length co12] 25 (0, 0)) (kl BK341.out) hb); replace BK352 := am (blk_below (g := gb352) (o := .cells #[.slice Ao15 t342.length co15, .slice Ao18 t345.length co18, .slice Ao19 t348.length co19] 25 (0, 0)) (kl BK352.out) hb); replace BK363 := am (blk_below (g := gb363) (o := .cells #[.slice Ao23 t353.length co23, .slice Ao27 t356.length co27, .slice Ao28 t359.length co28] 25 (0, 0)) (kl BK363.out) hb); replace BK377 := am (blk_below (g := gb377) (o := .cells #[v368, v371, v374] 25 (0, 0)) (kl BK377.out) hb); replace HB := am (below_step (bs4 GE341.out GE352.out GE363.out GE377.out HB.out) hb); (try clear hb); (try clear hb2); (try clear hk); (try clear hi); have hcz83_0 : w82.cell? ⟨gb352, 0, none⟩ = some (.slice Ao15 t342.length co15) := (blk_cell BK352.out 0).trans rfl; have hcz83_1 : w82.cell? ⟨gb352, 1, none⟩ = some (.slice Ao18 t345.length co18) := (blk_cell BK352.out 1).trans rfl; have hcz83_2 : w82.cell? ⟨gb352, 2, none⟩ = some (.slice Ao19 t348.length co19) := (blk_cell BK352.out 2).trans rfl; have hfz83_0 := blk_frozen BK352.out 0; have hfz83_1 := blk_frozen BK352.out 1; have hfz83_2 := blk_frozen BK352.out 2; have p379 : 0 ≤ (t339 : Int) := of_decide_eq_true (by first | (with_reducible assumption) | assumption); have q379 : t339 < (t348.length : Int) := of_decide_eq_true (by first | (with_reducible assumption) | assumption); obtain ⟨ad379, e379, hx379_0⟩ := Kd.at_int (Kd.R_reads' HO_353002.out).2.2 t339 p379 q379; cases e379; replace p379 := eq_true p379; replace q379 := eq_true q379; have hnb84 := NB377_341.out; have hnc84 := NB341_377.out; have hnb85 := NB377_363.out; have hnc85 := NB363_377.out; have hcz86_0 : w82.cell? ⟨gb377, 0, none⟩ = some (v368) := (blk_cell BK377.out 0).trans rfl; have hcz86_1 : w82.cell? ⟨gb377, 1, none⟩ = some (v371) := (blk_cell BK377.out 1).trans rfl; have hcz86_2 : w82.cell? ⟨gb377, 2, none⟩ = some (v374) := (blk_cell BK377.out 2).trans rfl; have hfz86_0 := blk_frozen BK377.out 0; have hfz86_1 := blk_frozen BK377.out 1; have hfz86_2 := blk_frozen BK377.out 2; have hnb87 := NB341_363.out; have hnc87 := NB363_341.out; have hcz88_0 : w82.cell? ⟨gb341, 0, none⟩ = some (.slice Ao9 t330.length co9) := (blk_cell BK341.out 0).trans rfl; have hcz88_1 : w82.cell? ⟨gb341, 1, none⟩ = some (.slice Ao11 t333.length co11) := (blk_cell BK341.out 1).trans rfl; have hcz88_2 : w82.cell? ⟨gb341, 2, none⟩ = some (.slice (some ad366) t336.length co12) := (blk_cell BK341.out 2).trans rfl; have hfz88_0 := blk_frozen BK341.out 0; have hfz88_1 := blk_frozen BK341.out 1; have hfz88_2 := blk_frozen BK341.out 2; obtain ⟨Ao89, co89, eo89⟩ := Kd.R_slice HO369.out; subst eo89; obtain ⟨Ao90, co90, eo90⟩ := Kd.R_slice HO372.out; subst eo90; obtain ⟨Ao91, co91, eo91⟩ := Kd.R_slice HO375.out; subst eo91) | (go_at_call 16; (with_reducible refine (impl_HeapSame.calls kj5 _ _ t367 _ _ t370 _ _ t373 _ _ t330 _ _ t333 _ _ t336 t380 _ ?side1 ?side2 ?side3 ?side4 ?side5 ?side6 ?side7 ?side8 ?side9 ?side10 ?side11 ?side12 A67.out).mono ?_); (case side1 => exact cl ((Kd.R_reads' HO369.out).2.2)); (case side2 => exact (Kd.R_reads' HO369.out).2.1); (case side3 => exact cl ((Kd.R_reads' HO372.out).2.2)); (case side4 => exact (Kd.R_reads' HO372.out).2.1); (case side5 => exact cl ((Kd.R_reads' HO375.out).2.2)); (case side6 => exact (Kd.R_reads' HO375.out).2.1); (case side7 => exact cl ((Kd.R_reads' HO_342000.out).2.2)); (case side8 => exact (Kd.R_reads' HO_342000.out).2.1); (case side9 => exact cl ((Kd.R_reads' HO_342001.out).2.2)); (case side10 => exact (Kd.R_reads' HO_342001.out).2.1); (case side11 => exact cl ((Kd.R_reads' HO_342002.out).2.2)); (case side12 => exact (Kd.R_reads' HO_342002.out).2.1); rintro e w92 ⟨rfl, hb⟩; replace HO_342000 := am (Kd.R_below (rl HO_342000.out) hb); replace HO_342001 := am (Kd.R_below (rl HO_342001.out) hb); replace HO_342002 := am (Kd.R_below (rl HO_342002.out) hb); replace HO_353000 := am (Kd.R_below (rl HO_353000.out) hb); replace HO_353001 := am (Kd.R_below (rl HO_353001.out) hb); replace HO_353002 := am (Kd.R_below (rl HO_353002.out) hb); replace HO_364000 := am (Kd.R_below (rl HO_364000.out) hb); replace HO_364001 := am (Kd.R_below (rl HO_364001.out) hb); replace HO_364002 := am (Kd.R_below (rl HO_364002.out) hb); replace HO369 := am (Kd.R_below (rl HO369.out) hb); replace HO372 := am (Kd.R_below (rl HO372.out) hb); replace HO375 := am (Kd.R_below (rl HO375.out) hb); replace BK341 := am (blk_below (g := gb341) (o := .cells #[.slice Ao9 t330.length co9, .slice Ao11 t333.length co11, .slice (some ad366) t336.length co12] 25 (0, 0)) (kl BK341.out) hb); replace BK352 := am (blk_below (g := gb352) (o := .cells #[.slice Ao15 t342.length co15, .slice Ao18 t345.length co18, .slice (some ad379) t348.length co19] 25 (0, 0)) (kl BK352.out) hb); replace BK363 := am (blk_below (g := gb363) (o := .cells #[.slice Ao23 t353.length co23, .slice Ao27 t356.length co27, .slice Ao28 t359.length co28] 25 (0, 0)) (kl BK363.out) hb); replace BK377 := am (blk_below (g := gb377) (o := .cells #[.slice Ao89 t367.length co89, .slice Ao90 t370.length co90, .slice Ao91 t373.length co91] 25 (0, 0)) (kl BK377.out) hb); replace HB := am (below_step (bs4 GE341.out GE352.out GE363.out GE377.out HB.out) hb); (try clear hb); (try clear hb2); (try clear hk); (try clear hi)))
           go_ret
           exact ⟨by first | rfl | (simp [errW_none, errW_some] <;> rfl) | (simp [*, errW_none, errW_some] <;> rfl), by exact bs4 GE341.out GE352.out GE363.out GE377.out HB.out⟩
          ·replace c66 := Bool.eq_false_iff.mpr c66
           subst c66
           have H1 : (none) = some r := by rw [if_neg (show ¬ (false = true) by decide)] at H; exact H
           clear H
           have H := H1
           clear H1
           exact absurd H (by simp)
         ·rw [if_neg c65] at H
          exact absurd H (by simp)
        ·rw [if_neg c64] at H
         exact absurd H (by simp)
       ·replace c63 := Bool.eq_false_iff.mpr c63
        subst c63
        have H1 : (none) = some r := by rw [if_neg (show ¬ (false = true) by decide)] at H; exact H
        clear H
        have H := H1
        clear H1
        exact absurd H (by simp)
      ·rw [if_neg c60] at H
       exact absurd H (by simp)
     ·rw [if_neg c59] at H
      exact absurd H (by simp)

/-- THE ONE PURE STATEMENT of laws_FnPutRoot: yours. -/
def laws_FnPutRoot.Pure : Prop := ∀ (l0 : List Int), l0.length ≤ maxLen → l0.length * 1 ≤ 140737488351232 → (∀ x ∈ l0, (Lit.int .u8 x).wf = true) → ∃ k, laws_FnPutRoot.f k l0 = some true
theorem laws_FnPutRoot.walk (P : laws_FnPutRoot.Pure) (a0 : Option Addr) (len0 cap0 : Nat) (z0 : List Int) (w : World) (w0 : (a0 = none ∧ len0 = 0 ∧ cap0 = 0 ∧ z0 = []) ∨ ∃ x, a0 = some x ∧ len0 ≤ cap0 ∧ cap0 ≤ maxLen ∧ z0.length = cap0 ∧ (∀ i, i < z0.length → w.cell? (x.add i) = some (.int .u8 (z0.getD i 0))) ∧ ∀ n ∈ z0, (Lit.int .u8 n).wf = true) (y0 : len0 * 1 ≤ 140737488351232) :
  Calls Try.prog 3 #[.slice a0 len0 cap0] w fun e w' => e = .returned (.bool true) ∧ Below w.heap.size w w' := by
 obtain ⟨l0, rfl, hr0, hm0, hw0, hc0⟩ := ReadsInt.ofRowC w0
 obtain ⟨k, h⟩ := P l0 hm0 y0 hw0
 refine (laws_FnPutRoot.calls k _ _ l0 true w (Kd.C_of_reads (d := (0 : Int)) (h1 := fun _ => rfl) hr0) hc0 h).mono ?_
 rintro e w' ⟨rfl, hd⟩
 exact ⟨rfl, hd⟩

end Go.Proofs.Ytghgpinhghhlgaa.A
