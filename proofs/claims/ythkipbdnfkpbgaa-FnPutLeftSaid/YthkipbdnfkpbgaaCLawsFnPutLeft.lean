/- Contracts of functions of the given program (CLawsFnPutLeft). No conditions beyond those stated. -/
import Derived.Test.YthkipbdnfkpbgaaA0
import Derived.Test.YthkipbdnfkpbgaaAImplHeapSame
import Derived.Test.YthkipbdnfkpbgaaAImplHeapValid
import Derived.Test.YthkipbdnfkpbgaaAImplPutLeft
import Derived.Test.YthkipbdnfkpbgaaASpecDrawPutLeft
import Derived.Test.YthkipbdnfkpbgaaASpecPutLeft
import Derived.Test.YthkipbdnfkpbgaaA0
namespace Go.Proofs.Ythkipbdnfkpbgaa.A
open Go.RowKit Go.Proofs.YthkipbdnfkpbgaaW.PrintWords Go.Proofs.YthkipbdnfkpbgaaW.PrintLast Go.Proofs.YthkipbdnfkpbgaaW.PrintMore
attribute [local go_sem] max2_int min2_int max_two min_two max_three min_three max_four min_four   -- for this text's walks alone
set_option linter.unusedVariables false
set_option linter.unusedSimpArgs false

/-! ### laws_FnPutLeft -/
def laws_FnPutLeft.j0 : Nat → Int → Int → Bool → Bool → Bool → List Int → List Int → List Int → List Int → List Int → List Int → List Int → List Int → List Int → Option (Bool)
  | 0, _, _, _, _, _, _, _, _, _, _, _, _, _, _ => none
  | k + 1, x4, x5, x7, x9, x47, x1015000, x1015001, x1015002, x1026000, x1026001, x1026002, x1037000, x1037001, x1037002 => if x47 = true then ((impl_HeapSame.f k x1026000 x1026001 x1026002 x1037000 x1037001 x1037002).bind fun t1038 => (if t1038 = true then (some (x7 == x9)) else (none))) else (if 0 ≤ x4 then (if x4 < (x1015000.length : Int) then ((impl_PutLeft.f k x1026000 x1026001 x1026002 x4 (rd x1015000 x4)).bind fun bt1040 => ((impl_HeapValid.f k x1026000 x1026001 x1026002).bind fun t1051 => (if t1051 = true then (if x4 < (x1026000.length : Int) then (if (rd x1026000 x4) = x5 then (if bt1040.2.2.2 = true then ((impl_HeapSame.f k bt1040.1 bt1040.2.1 bt1040.2.2.1 x1015000 x1015001 x1015002).bind fun t1053 => (some t1053)) else (none)) else (none)) else (none)) else (none)))) else (none)) else (none))
def laws_FnPutLeft.f (k : Nat) (l0 : List Int) : Option (Bool) := if (l0.length : Int) > 1048576 then (some true) else ((spec_DrawPutLeft.f k l0).bind fun bt1003 => ((impl_PutLeft.f k bt1003.1 bt1003.2.1 bt1003.2.2.1 bt1003.2.2.2.1 bt1003.2.2.2.2).bind fun bt1015 => ((spec_PutLeft.f k bt1003.1 bt1003.2.1 bt1003.2.2.1 bt1003.2.2.2.1 bt1003.2.2.2.2).bind fun bt1026 => ((impl_HeapSame.f k bt1015.1 bt1015.2.1 bt1015.2.2.1 bt1026.1 bt1026.2.1 bt1026.2.2.1).bind fun t1037 => (if t1037 = true then (if (bt1015.2.2.2 != bt1026.2.2.2) = true then (laws_FnPutLeft.j0 k bt1003.2.2.2.1 bt1003.2.2.2.2 bt1015.2.2.2 bt1026.2.2.2 true bt1003.1 bt1003.2.1 bt1003.2.2.1 bt1015.1 bt1015.2.1 bt1015.2.2.1 bt1026.1 bt1026.2.1 bt1026.2.2.1) else (laws_FnPutLeft.j0 k bt1003.2.2.2.1 bt1003.2.2.2.2 bt1015.2.2.2 bt1026.2.2.2 (!bt1015.2.2.2) bt1003.1 bt1003.2.1 bt1003.2.2.1 bt1015.1 bt1015.2.1 bt1015.2.2.1 bt1026.1 bt1026.2.1 bt1026.2.2.1)) else (laws_FnPutLeft.j0 k bt1003.2.2.2.1 bt1003.2.2.2.2 bt1015.2.2.2 bt1026.2.2.2 true bt1003.1 bt1003.2.1 bt1003.2.2.1 bt1015.1 bt1015.2.1 bt1015.2.2.1 bt1026.1 bt1026.2.1 bt1026.2.2.1))))))
theorem laws_FnPutLeft.mono_l : ∀ k, (∀ y0 y1 y2 y3 y4 y5 y6 y7 y8 y9 y10 y11 y12 y13, LeO (laws_FnPutLeft.j0 k y0 y1 y2 y3 y4 y5 y6 y7 y8 y9 y10 y11 y12 y13) (laws_FnPutLeft.j0 (k + 1) y0 y1 y2 y3 y4 y5 y6 y7 y8 y9 y10 y11 y12 y13))
  | 0 => fun _ _ _ _ _ _ _ _ _ _ _ _ _ _ r h => by simp [laws_FnPutLeft.j0] at h
  | k + 1 => by
    have ih0 := laws_FnPutLeft.mono_l k
    · intro y0 y1 y2 y3 y4 y5 y6 y7 y8 y9 y10 y11 y12 y13
      unfold laws_FnPutLeft.j0
      repeat' first
      | (with_reducible exact ih0 _ _ _ _ _ _ _ _ _ _ _ _ _ _)
      | (with_reducible exact impl_HeapSame.mono _ _ _ _ _ _ _)
      | (with_reducible exact impl_HeapValid.mono _ _ _ _)
      | (with_reducible exact impl_PutLeft.mono _ _ _ _ _ _)
      | (with_reducible exact spec_DrawPutLeft.mono _ _)
      | (with_reducible exact spec_PutLeft.mono _ _ _ _ _ _)
      | (with_reducible exact LeO.refl _)
      | (with_reducible exact LeO.none _)
      | (with_reducible refine LeO.ite ?_ ?_)
      | (with_reducible refine LeO.bind ?_ (fun _ => ?_))
      | exact ih0 _ _ _ _ _ _ _ _ _ _ _ _ _ _
      | exact impl_HeapSame.mono _ _ _ _ _ _ _
      | exact impl_HeapValid.mono _ _ _ _
      | exact impl_PutLeft.mono _ _ _ _ _ _
      | exact spec_DrawPutLeft.mono _ _
      | exact spec_PutLeft.mono _ _ _ _ _ _
      | exact LeO.none _
      | refine LeO.ite ?_ ?_
      | refine LeO.bind ?_ (fun _ => ?_)
theorem laws_FnPutLeft.mono : ∀ a0 k, LeO (laws_FnPutLeft.f k a0) (laws_FnPutLeft.f (k + 1) a0) := by
  intro a0 k
  have ih0 := laws_FnPutLeft.mono_l k
  unfold laws_FnPutLeft.f
  repeat' first
      | (with_reducible exact ih0 _ _ _ _ _ _ _ _ _ _ _ _ _ _)
      | (with_reducible exact impl_HeapSame.mono _ _ _ _ _ _ _)
      | (with_reducible exact impl_HeapValid.mono _ _ _ _)
      | (with_reducible exact impl_PutLeft.mono _ _ _ _ _ _)
      | (with_reducible exact spec_DrawPutLeft.mono _ _)
      | (with_reducible exact spec_PutLeft.mono _ _ _ _ _ _)
      | (with_reducible exact LeO.refl _)
      | (with_reducible exact LeO.none _)
      | (with_reducible refine LeO.ite ?_ ?_)
      | (with_reducible refine LeO.bind ?_ (fun _ => ?_))
      | exact ih0 _ _ _ _ _ _ _ _ _ _ _ _ _ _
      | exact impl_HeapSame.mono _ _ _ _ _ _ _
      | exact impl_HeapValid.mono _ _ _ _
      | exact impl_PutLeft.mono _ _ _ _ _ _
      | exact spec_DrawPutLeft.mono _ _
      | exact spec_PutLeft.mono _ _ _ _ _ _
      | exact LeO.none _
      | refine LeO.ite ?_ ?_
      | refine LeO.bind ?_ (fun _ => ?_)
def laws_FnPutLeft.T8 : Bool × List (List Nat × List Nat) := (true, [([], []), ([], []), ([], []), ([2], [2]), ([], []), ([3, 4], [3, 4]), ([5], [5]), ([0, 1, 6], [0, 1, 6]), ([7], [7]), ([8], [8]), ([8], [8]), ([], []), ([11, 9, 7, 0, 1, 2, 3, 4, 5, 6, 7, 8, 9, 11], [9, 11]), ([10, 12, 0, 1, 2, 3, 4, 5, 6, 7, 8, 9, 10, 11, 12], [10])])
def laws_FnPutLeft.B8 : List Nat := [0, 0, 0, 4, 0, 28, 60, 127, 255, 511, 511, 0, 3071, 8191]
theorem laws_FnPutLeft.tab8 : rtab .any (opsOf Try.f13 8) = laws_FnPutLeft.T8 := by kernel_rfl
theorem laws_FnPutLeft.bits8 : waitsOk laws_FnPutLeft.T8.2 laws_FnPutLeft.B8 = true := by kernel_rfl
set_option maxHeartbeats 8000000 in
set_option maxRecDepth 100000 in
theorem laws_FnPutLeft.calls (k : Nat) (A0 : Option Addr) (c0 : Nat) (l0 : List Int) (r : Bool) (w : World) (hr0 : Kd.C (Kd.int .u8) w A0 l0.length l0) (hc0 : l0.length ≤ c0) (h : laws_FnPutLeft.f k l0 = some r) :
    Calls Try.prog 13 #[.slice A0 l0.length c0] w fun e w' => e = .returned (.bool r) ∧ Below w.heap.size w w' := by
  have hu28 := Try.underlying28
  have HR0 := am hr0
  have HC0 := am hc0
  clear hr0 hc0
  have HB := am (Below.refl w.heap.size w)
  have H : (if (l0.length : Int) > 1048576 then (some true) else ((spec_DrawPutLeft.f k l0).bind fun bt1003 => ((impl_PutLeft.f k bt1003.1 bt1003.2.1 bt1003.2.2.1 bt1003.2.2.2.1 bt1003.2.2.2.2).bind fun bt1015 => ((spec_PutLeft.f k bt1003.1 bt1003.2.1 bt1003.2.2.1 bt1003.2.2.2.1 bt1003.2.2.2.2).bind fun bt1026 => ((impl_HeapSame.f k bt1015.1 bt1015.2.1 bt1015.2.2.1 bt1026.1 bt1026.2.1 bt1026.2.2.1).bind fun t1037 => (if t1037 = true then (if (bt1015.2.2.2 != bt1026.2.2.2) = true then (laws_FnPutLeft.j0 k bt1003.2.2.2.1 bt1003.2.2.2.2 bt1015.2.2.2 bt1026.2.2.2 true bt1003.1 bt1003.2.1 bt1003.2.2.1 bt1015.1 bt1015.2.1 bt1015.2.2.1 bt1026.1 bt1026.2.1 bt1026.2.2.1) else (laws_FnPutLeft.j0 k bt1003.2.2.2.1 bt1003.2.2.2.2 bt1015.2.2.2 bt1026.2.2.2 (!bt1015.2.2.2) bt1003.1 bt1003.2.1 bt1003.2.2.1 bt1015.1 bt1015.2.1 bt1015.2.2.1 bt1026.1 bt1026.2.1 bt1026.2.2.1)) else (laws_FnPutLeft.j0 k bt1003.2.2.2.1 bt1003.2.2.2.2 bt1015.2.2.2 bt1026.2.2.2 true bt1003.1 bt1003.2.1 bt1003.2.2.1 bt1015.1 bt1015.2.1 bt1015.2.2.1 bt1026.1 bt1026.2.1 bt1026.2.2.1))))))) = some r := h
  clear h
  by_cases c2 : (l0.length : Int) > 1048576
  · rw [if_pos c2] at H
    have c2b0 : decide (1048576 < (l0.length : Int)) = true := decide_eq_true c2
    have c2b1 : decide (1048576 < l0.length) = true := decide_eq_true (by omega)
    clear c2
    obtain rfl := Option.some.inj H
    go_enter Try.func13, Try.ntmps13
    go_wp2
    go_ret
    exact ⟨by first | rfl | (simp [errW_none, errW_some] <;> rfl) | (simp [*, errW_none, errW_some] <;> rfl), by repeat (first | (with_reducible first | exact HB.out | apply below_alloc | apply pw_below_drewN | apply below_drew1) | exact HB.out)⟩
  · rw [if_neg c2] at H
    have c2b0 : decide (1048576 < (l0.length : Int)) = false := decide_eq_false c2
    have c2b1 : decide (1048576 < l0.length) = false := decide_eq_false (by omega)
    clear c2
    replace H := Option.bind_eq_some_iff.mp H
    obtain ⟨⟨t1003, t1006, t1009, t1012, t1013⟩, A30, H⟩ := H
    replace H : ((impl_PutLeft.f k t1003 t1006 t1009 t1012 t1013).bind fun bt1015 => ((spec_PutLeft.f k t1003 t1006 t1009 t1012 t1013).bind fun bt1026 => ((impl_HeapSame.f k bt1015.1 bt1015.2.1 bt1015.2.2.1 bt1026.1 bt1026.2.1 bt1026.2.2.1).bind fun t1037 => (if t1037 = true then (if (bt1015.2.2.2 != bt1026.2.2.2) = true then (laws_FnPutLeft.j0 k t1012 t1013 bt1015.2.2.2 bt1026.2.2.2 true t1003 t1006 t1009 bt1015.1 bt1015.2.1 bt1015.2.2.1 bt1026.1 bt1026.2.1 bt1026.2.2.1) else (laws_FnPutLeft.j0 k t1012 t1013 bt1015.2.2.2 bt1026.2.2.2 (!bt1015.2.2.2) t1003 t1006 t1009 bt1015.1 bt1015.2.1 bt1015.2.2.1 bt1026.1 bt1026.2.1 bt1026.2.2.1)) else (laws_FnPutLeft.j0 k t1012 t1013 bt1015.2.2.2 bt1026.2.2.2 true t1003 t1006 t1009 bt1015.1 bt1015.2.1 bt1015.2.2.1 bt1026.1 bt1026.2.1 bt1026.2.2.1))))) = some r := H
    have A3 := am A30
    clear A30
    replace H := Option.bind_eq_some_iff.mp H
    obtain ⟨⟨t1015, t1018, t1021, t1024⟩, A40, H⟩ := H
    replace H : ((spec_PutLeft.f k t1003 t1006 t1009 t1012 t1013).bind fun bt1026 => ((impl_HeapSame.f k t1015 t1018 t1021 bt1026.1 bt1026.2.1 bt1026.2.2.1).bind fun t1037 => (if t1037 = true then (if (t1024 != bt1026.2.2.2) = true then (laws_FnPutLeft.j0 k t1012 t1013 t1024 bt1026.2.2.2 true t1003 t1006 t1009 t1015 t1018 t1021 bt1026.1 bt1026.2.1 bt1026.2.2.1) else (laws_FnPutLeft.j0 k t1012 t1013 t1024 bt1026.2.2.2 (!t1024) t1003 t1006 t1009 t1015 t1018 t1021 bt1026.1 bt1026.2.1 bt1026.2.2.1)) else (laws_FnPutLeft.j0 k t1012 t1013 t1024 bt1026.2.2.2 true t1003 t1006 t1009 t1015 t1018 t1021 bt1026.1 bt1026.2.1 bt1026.2.2.1)))) = some r := H
    have A4 := am A40
    clear A40
    replace H := Option.bind_eq_some_iff.mp H
    obtain ⟨⟨t1026, t1029, t1032, t1035⟩, A50, H⟩ := H
    replace H : ((impl_HeapSame.f k t1015 t1018 t1021 t1026 t1029 t1032).bind fun t1037 => (if t1037 = true then (if (t1024 != t1035) = true then (laws_FnPutLeft.j0 k t1012 t1013 t1024 t1035 true t1003 t1006 t1009 t1015 t1018 t1021 t1026 t1029 t1032) else (laws_FnPutLeft.j0 k t1012 t1013 t1024 t1035 (!t1024) t1003 t1006 t1009 t1015 t1018 t1021 t1026 t1029 t1032)) else (laws_FnPutLeft.j0 k t1012 t1013 t1024 t1035 true t1003 t1006 t1009 t1015 t1018 t1021 t1026 t1029 t1032))) = some r := H
    have A5 := am A50
    clear A50
    have HC6 := am H
    clear H
    go_enter Try.func13, Try.ntmps13
    go_upto_region 6 with (first | ((with_reducible refine gate_callee (f := 43) rfl ?_); refine goesL_ (some 17) rfl rfl Try.func43 (by kernel_rfl) rfl #[.slice A0 l0.length c0] rfl (by (try simp only [List.map_toArray, List.map_cons, List.map_nil]); first | done | rfl | (simp only [List.length_drop, List.length_take]; rfl)) ?_; (with_reducible refine (spec_DrawPutLeft.calls k _ _ l0 t1003 t1006 t1009 t1012 t1013 _ ?side1 ?side2 A3.out).mono ?_); (case side1 => repeat (first | exact HR0.out | (with_reducible refine Kd.C_alloc ?_ _) | (with_reducible refine Kd.C_drewN ?_ _) | (with_reducible refine Kd.C_drew ?_))); (case side2 => exact HC0.out); rintro e w7 ⟨v1004, v1007, v1010, rfl, ho0, ho1, ho2, hb⟩; refine ⟨_, rfl, ?_⟩; have n0_ := am (Kd.R_lower ho0 (below_size (bl HB.out))); have n1_ := am (Kd.R_lower ho1 (below_size (bl HB.out))); have n2_ := am (Kd.R_lower ho2 (below_size (bl HB.out))); have n3_ := am (below_step (bl HB.out) hb); clear HB; have HO1005 := n0_; have HO1008 := n1_; have HO1011 := n2_; have HB := n3_; clear n0_ n1_ n2_ n3_; (try clear hb); (try clear hb2); (try clear hk); (try clear hi); (try clear ho0); (try clear ho1); (try clear ho2)) | ((with_reducible refine gate_dst (N := 3) rfl ?_); refine box_event ?hg (N := 3) ?hd (cs := #[.slice none 0 0, .slice none 0 0, .slice none 0 0]) (t := 28) ?hr ?_; (case hd => rfl); (case hg => rfl); (case hr => first | (go_simp; done) | (go_simp; rfl)); intro gb1014 hg w8 hbox hb; have n0_ := am (Kd.R_below (rl HO1005.out) hb); have n1_ := am (Kd.R_below (rl HO1008.out) hb); have n2_ := am (Kd.R_below (rl HO1011.out) hb); have n3_ := am (below_step (bl HB.out) hb); have n4_ := am (hbox); have n5_ := am ((by rw [hg]; exact (below_size (bl HB.out)) : w.heap.size ≤ gb1014)); have n6_ := am ((by rw [hg]; exact (below_size (bl HB.out)) : w.heap.size ≤ gb1014)); clear HO1005; clear HO1008; clear HO1011; clear HB; have HO1005 := n0_; have HO1008 := n1_; have HO1011 := n2_; have HB := n3_; have BK1014 := n4_; have GW1014 := n5_; have GE1014 := n6_; clear n0_ n1_ n2_ n3_ n4_ n5_ n6_; clear hb hbox hg; obtain ⟨Ao9, co9, eo9⟩ := Kd.R_slice HO1005.out; subst eo9; have hcz10_0 : w8.cell? ⟨gb1014, 0, none⟩ = some (.slice none 0 0) := (blk_cell BK1014.out 0).trans rfl; have hcz10_1 : w8.cell? ⟨gb1014, 1, none⟩ = some (.slice none 0 0) := (blk_cell BK1014.out 1).trans rfl; have hcz10_2 : w8.cell? ⟨gb1014, 2, none⟩ = some (.slice none 0 0) := (blk_cell BK1014.out 2).trans rfl; have hfz10_0 := blk_frozen BK1014.out 0; have hfz10_1 := blk_frozen BK1014.out 1; have hfz10_2 := blk_frozen BK1014.out 2; obtain ⟨Ao11, co11, eo11⟩ := Kd.R_slice HO1008.out; subst eo11; obtain ⟨Ao12, co12, eo12⟩ := Kd.R_slice HO1011.out; subst eo12) | ((with_reducible refine gate_callee (f := 44) rfl ?_); refine goesL_ (some 25) rfl rfl Try.func44 (by kernel_rfl) rfl #[.agg #[.slice Ao9 t1003.length co9, .slice Ao11 t1006.length co11, .slice Ao12 t1009.length co12], .int .i64 t1012, .int .i64 t1013] rfl (by (try simp only [List.map_toArray, List.map_cons, List.map_nil]); first | done | rfl | (simp only [List.length_drop, List.length_take]; rfl)) ?_; (with_reducible refine (impl_PutLeft.calls k _ _ t1003 _ _ t1006 _ _ t1009 t1012 t1013 t1015 t1018 t1021 t1024 _ ?side1 ?side2 ?side3 ?side4 ?side5 ?side6 A4.out).mono ?_); (case side1 => exact (Kd.R_reads' (rl ((far3 HO1005.out BK1014.out (by decide) (.slice Ao9 t1003.length co9) (.slice Ao11 t1006.length co11) (.slice Ao12 t1009.length co12))))).2.2); (case side2 => exact (Kd.R_reads' HO1005.out).2.1); (case side3 => exact (Kd.R_reads' (rl ((far3 HO1008.out BK1014.out (by decide) (.slice Ao9 t1003.length co9) (.slice Ao11 t1006.length co11) (.slice Ao12 t1009.length co12))))).2.2); (case side4 => exact (Kd.R_reads' HO1008.out).2.1); (case side5 => exact (Kd.R_reads' (rl ((far3 HO1011.out BK1014.out (by decide) (.slice Ao9 t1003.length co9) (.slice Ao11 t1006.length co11) (.slice Ao12 t1009.length co12))))).2.2); (case side6 => exact (Kd.R_reads' HO1011.out).2.1); rintro e w13 ⟨v1016, v1019, v1022, rfl, ho0, ho1, ho2, hb⟩; refine ⟨_, rfl, ?_⟩; have n0_ := am (Kd.R_mono (Kd.R_told (Kd.R_told (Kd.R_told (Kd.R_old (rl ((far3 HO1005.out BK1014.out (by decide) (.slice Ao9 t1003.length co9) (.slice Ao11 t1006.length co11) (.slice Ao12 t1009.length co12)))) hb) (Kd.R_base ho0)) (Kd.R_base ho1)) (Kd.R_base ho2)) (fun _ h_ => h_.1)); have n1_ := am (Kd.R_mono (Kd.R_told (Kd.R_told (Kd.R_told (Kd.R_old (rl ((far3 HO1008.out BK1014.out (by decide) (.slice Ao9 t1003.length co9) (.slice Ao11 t1006.length co11) (.slice Ao12 t1009.length co12)))) hb) (Kd.R_base ho0)) (Kd.R_base ho1)) (Kd.R_base ho2)) (fun _ h_ => h_.1)); have n2_ := am (Kd.R_mono (Kd.R_told (Kd.R_told (Kd.R_told (Kd.R_old (rl ((far3 HO1011.out BK1014.out (by decide) (.slice Ao9 t1003.length co9) (.slice Ao11 t1006.length co11) (.slice Ao12 t1009.length co12)))) hb) (Kd.R_base ho0)) (Kd.R_base ho1)) (Kd.R_base ho2)) (fun _ h_ => h_.1)); have n3_ := am (Kd.R_lower (Kd.R_new' (Kd.R_new' (Kd.R_new' ho0 (Kd.R_lt (rl ((far3 HO1005.out BK1014.out (by decide) (.slice Ao9 t1003.length co9) (.slice Ao11 t1006.length co11) (.slice Ao12 t1009.length co12)))))) (Kd.R_lt (rl ((far3 HO1008.out BK1014.out (by decide) (.slice Ao9 t1003.length co9) (.slice Ao11 t1006.length co11) (.slice Ao12 t1009.length co12)))))) (Kd.R_lt (rl ((far3 HO1011.out BK1014.out (by decide) (.slice Ao9 t1003.length co9) (.slice Ao11 t1006.length co11) (.slice Ao12 t1009.length co12)))))) (below_size (by repeat (first | (with_reducible first | exact HB.out | apply below_alloc | apply pw_below_drewN | apply below_drew1 | refine below_set ?_ GE1014.out) | exact HB.out)))); have n4_ := am (Kd.R_lower (Kd.R_new' (Kd.R_new' (Kd.R_new' ho1 (Kd.R_lt (rl ((far3 HO1005.out BK1014.out (by decide) (.slice Ao9 t1003.length co9) (.slice Ao11 t1006.length co11) (.slice Ao12 t1009.length co12)))))) (Kd.R_lt (rl ((far3 HO1008.out BK1014.out (by decide) (.slice Ao9 t1003.length co9) (.slice Ao11 t1006.length co11) (.slice Ao12 t1009.length co12)))))) (Kd.R_lt (rl ((far3 HO1011.out BK1014.out (by decide) (.slice Ao9 t1003.length co9) (.slice Ao11 t1006.length co11) (.slice Ao12 t1009.length co12)))))) (below_size (by repeat (first | (with_reducible first | exact HB.out | apply below_alloc | apply pw_below_drewN | apply below_drew1 | refine below_set ?_ GE1014.out) | exact HB.out)))); have n5_ := am (Kd.R_lower (Kd.R_new' (Kd.R_new' (Kd.R_new' ho2 (Kd.R_lt (rl ((far3 HO1005.out BK1014.out (by decide) (.slice Ao9 t1003.length co9) (.slice Ao11 t1006.length co11) (.slice Ao12 t1009.length co12)))))) (Kd.R_lt (rl ((far3 HO1008.out BK1014.out (by decide) (.slice Ao9 t1003.length co9) (.slice Ao11 t1006.length co11) (.slice Ao12 t1009.length co12)))))) (Kd.R_lt (rl ((far3 HO1011.out BK1014.out (by decide) (.slice Ao9 t1003.length co9) (.slice Ao11 t1006.length co11) (.slice Ao12 t1009.length co12)))))) (below_size (by repeat (first | (with_reducible first | exact HB.out | apply below_alloc | apply pw_below_drewN | apply below_drew1 | refine below_set ?_ GE1014.out) | exact HB.out)))); have n6_ := am (blk_below (g := gb1014) (o := .cells #[.slice Ao9 t1003.length co9, .slice Ao11 t1006.length co11, .slice Ao12 t1009.length co12] 28 (0, 0)) (by (with_reducible repeat (first | refine blk_drewN ?_ _ | refine blk_drew ?_ | refine blk_alloc ?_ _)); refine blk_put (cs := #[.slice Ao9 t1003.length co9, .slice Ao11 t1006.length co11, .slice none 0 0]) ?_ 2 _ rfl; (with_reducible repeat (first | refine blk_drewN ?_ _ | refine blk_drew ?_ | refine blk_alloc ?_ _)); refine blk_put (cs := #[.slice Ao9 t1003.length co9, .slice none 0 0, .slice none 0 0]) ?_ 1 _ rfl; (with_reducible repeat (first | refine blk_drewN ?_ _ | refine blk_drew ?_ | refine blk_alloc ?_ _)); refine blk_put (cs := #[.slice none 0 0, .slice none 0 0, .slice none 0 0]) ?_ 0 _ rfl; (with_reducible repeat (first | refine blk_drewN ?_ _ | refine blk_drew ?_ | refine blk_alloc ?_ _)); exact BK1014.out) hb); have n7_ := am (below_step (by repeat (first | (with_reducible first | exact HB.out | apply below_alloc | apply pw_below_drewN | apply below_drew1 | refine below_set ?_ GE1014.out) | exact HB.out)) hb); clear HO1005; clear HO1008; clear HO1011; clear BK1014; clear HB; have HO1005 := n0_; have HO1008 := n1_; have HO1011 := n2_; have HO1017 := n3_; have HO1020 := n4_; have HO1023 := n5_; have BK1014 := n6_; have HB := n7_; clear n0_ n1_ n2_ n3_ n4_ n5_ n6_ n7_; (try clear hb); (try clear hb2); (try clear hk); (try clear hi); (try clear ho0); (try clear ho1); (try clear ho2)) | ((with_reducible refine gate_dst (N := 6) rfl ?_); refine box_event ?hg (N := 6) ?hd (cs := #[.slice none 0 0, .slice none 0 0, .slice none 0 0]) (t := 28) ?hr ?_; (case hd => rfl); (case hg => rfl); (case hr => first | (go_simp; done) | (go_simp; rfl)); intro gb1025 hg w14 hbox hb; have n0_ := am (Kd.R_below (rl HO1005.out) hb); have n1_ := am (Kd.R_below (rl HO1008.out) hb); have n2_ := am (Kd.R_below (rl HO1011.out) hb); have n3_ := am (Kd.R_below (rl HO1017.out) hb); have n4_ := am (Kd.R_below (rl HO1020.out) hb); have n5_ := am (Kd.R_below (rl HO1023.out) hb); have n6_ := am (blk_below (g := gb1014) (o := .cells #[.slice Ao9 t1003.length co9, .slice Ao11 t1006.length co11, .slice Ao12 t1009.length co12] 28 (0, 0)) (kl BK1014.out) hb); have n7_ := am (below_step (by repeat (first | (with_reducible first | exact HB.out | apply below_alloc | apply pw_below_drewN | apply below_drew1 | refine below_set ?_ GE1014.out) | exact HB.out)) hb); have n8_ := am (hbox); have n9_ := am ((by rw [hg]; exact (below_size (by repeat (first | (with_reducible first | exact HB.out | apply below_alloc | apply pw_below_drewN | apply below_drew1 | refine below_set ?_ GE1014.out) | exact HB.out))) : w.heap.size ≤ gb1025)); have n10_ := am ((by rw [hg]; exact (below_size (by repeat (first | (with_reducible first | exact HB.out | apply below_alloc | apply pw_below_drewN | apply below_drew1 | refine below_set ?_ GE1014.out) | exact HB.out))) : w.heap.size ≤ gb1025)); have n11_ := am ((by rw [hg]; exact Nat.ne_of_lt (blk_lt (g := gb1014) (o := .cells #[.slice Ao9 t1003.length co9, .slice Ao11 t1006.length co11, .slice Ao12 t1009.length co12] 28 (0, 0)) (kl BK1014.out)) : gb1014 ≠ gb1025)); have n12_ := am ((by rw [hg]; exact Nat.ne_of_gt (blk_lt (g := gb1014) (o := .cells #[.slice Ao9 t1003.length co9, .slice Ao11 t1006.length co11, .slice Ao12 t1009.length co12] 28 (0, 0)) (kl BK1014.out)) : gb1025 ≠ gb1014)); clear HO1005; clear HO1008; clear HO1011; clear HO1017; clear HO1020; clear HO1023; clear BK1014; clear HB; have HO1005 := n0_; have HO1008 := n1_; have HO1011 := n2_; have HO1017 := n3_; have HO1020 := n4_; have HO1023 := n5_; have BK1014 := n6_; have HB := n7_; have BK1025 := n8_; have GW1025 := n9_; have GE1025 := n10_; have NB1014_1025 := n11_; have NB1025_1014 := n12_; clear n0_ n1_ n2_ n3_ n4_ n5_ n6_ n7_ n8_ n9_ n10_ n11_ n12_; clear hb hbox hg; obtain ⟨Ao15, co15, eo15⟩ := Kd.R_slice HO1017.out; subst eo15; have hnb16 := NB1025_1014.out; have hnc16 := NB1014_1025.out; have hcz17_0 : w14.cell? ⟨gb1025, 0, none⟩ = some (.slice none 0 0) := (blk_cell BK1025.out 0).trans rfl; have hcz17_1 : w14.cell? ⟨gb1025, 1, none⟩ = some (.slice none 0 0) := (blk_cell BK1025.out 1).trans rfl; have hcz17_2 : w14.cell? ⟨gb1025, 2, none⟩ = some (.slice none 0 0) := (blk_cell BK1025.out 2).trans rfl; have hfz17_0 := blk_frozen BK1025.out 0; have hfz17_1 := blk_frozen BK1025.out 1; have hfz17_2 := blk_frozen BK1025.out 2; obtain ⟨Ao18, co18, eo18⟩ := Kd.R_slice HO1020.out; subst eo18; obtain ⟨Ao19, co19, eo19⟩ := Kd.R_slice HO1023.out; subst eo19; have hcz20_0 : w14.cell? ⟨gb1014, 0, none⟩ = some (.slice Ao9 t1003.length co9) := (blk_cell BK1014.out 0).trans rfl; have hcz20_1 : w14.cell? ⟨gb1014, 1, none⟩ = some (.slice Ao11 t1006.length co11) := (blk_cell BK1014.out 1).trans rfl; have hcz20_2 : w14.cell? ⟨gb1014, 2, none⟩ = some (.slice Ao12 t1009.length co12) := (blk_cell BK1014.out 2).trans rfl; have hfz20_0 := blk_frozen BK1014.out 0; have hfz20_1 := blk_frozen BK1014.out 1; have hfz20_2 := blk_frozen BK1014.out 2) | ((with_reducible refine gate_callee (f := 45) rfl ?_); refine goesL_ (some 32) rfl rfl Try.func45 (by kernel_rfl) rfl #[.agg #[.slice Ao9 t1003.length co9, .slice Ao11 t1006.length co11, .slice Ao12 t1009.length co12], .int .i64 t1012, .int .i64 t1013] rfl (by (try simp only [List.map_toArray, List.map_cons, List.map_nil]); first | done | rfl | (simp only [List.length_drop, List.length_take]; rfl)) ?_; (with_reducible refine (spec_PutLeft.calls k _ _ t1003 _ _ t1006 _ _ t1009 t1012 t1013 t1026 t1029 t1032 t1035 _ ?side1 ?side2 ?side3 ?side4 ?side5 ?side6 A5.out).mono ?_); (case side1 => exact (Kd.R_reads' (rl ((far3 HO1005.out BK1025.out (by decide) (.slice Ao15 t1015.length co15) (.slice Ao18 t1018.length co18) (.slice Ao19 t1021.length co19))))).2.2); (case side2 => exact (Kd.R_reads' HO1005.out).2.1); (case side3 => exact (Kd.R_reads' (rl ((far3 HO1008.out BK1025.out (by decide) (.slice Ao15 t1015.length co15) (.slice Ao18 t1018.length co18) (.slice Ao19 t1021.length co19))))).2.2); (case side4 => exact (Kd.R_reads' HO1008.out).2.1); (case side5 => exact (Kd.R_reads' (rl ((far3 HO1011.out BK1025.out (by decide) (.slice Ao15 t1015.length co15) (.slice Ao18 t1018.length co18) (.slice Ao19 t1021.length co19))))).2.2); (case side6 => exact (Kd.R_reads' HO1011.out).2.1); rintro e w21 ⟨v1027, v1030, v1033, rfl, ho0, ho1, ho2, hb⟩; refine ⟨_, rfl, ?_⟩; have n0_ := am (Kd.R_mono (Kd.R_told (Kd.R_told (Kd.R_told (Kd.R_old (rl ((far3 HO1005.out BK1025.out (by decide) (.slice Ao15 t1015.length co15) (.slice Ao18 t1018.length co18) (.slice Ao19 t1021.length co19)))) hb) (Kd.R_base ho0)) (Kd.R_base ho1)) (Kd.R_base ho2)) (fun _ h_ => h_.1)); have n1_ := am (Kd.R_mono (Kd.R_told (Kd.R_told (Kd.R_told (Kd.R_old (rl ((far3 HO1008.out BK1025.out (by decide) (.slice Ao15 t1015.length co15) (.slice Ao18 t1018.length co18) (.slice Ao19 t1021.length co19)))) hb) (Kd.R_base ho0)) (Kd.R_base ho1)) (Kd.R_base ho2)) (fun _ h_ => h_.1)); have n2_ := am (Kd.R_mono (Kd.R_told (Kd.R_told (Kd.R_told (Kd.R_old (rl ((far3 HO1011.out BK1025.out (by decide) (.slice Ao15 t1015.length co15) (.slice Ao18 t1018.length co18) (.slice Ao19 t1021.length co19)))) hb) (Kd.R_base ho0)) (Kd.R_base ho1)) (Kd.R_base ho2)) (fun _ h_ => h_.1)); have n3_ := am (Kd.R_mono (Kd.R_told (Kd.R_told (Kd.R_told (Kd.R_old (rl ((far3 HO1017.out BK1025.out (by decide) (.slice Ao15 t1015.length co15) (.slice Ao18 t1018.length co18) (.slice Ao19 t1021.length co19)))) hb) (Kd.R_base ho0)) (Kd.R_base ho1)) (Kd.R_base ho2)) (fun _ h_ => h_.1)); have n4_ := am (Kd.R_mono (Kd.R_told (Kd.R_told (Kd.R_told (Kd.R_old (rl ((far3 HO1020.out BK1025.out (by decide) (.slice Ao15 t1015.length co15) (.slice Ao18 t1018.length co18) (.slice Ao19 t1021.length co19)))) hb) (Kd.R_base ho0)) (Kd.R_base ho1)) (Kd.R_base ho2)) (fun _ h_ => h_.1)); have n5_ := am (Kd.R_mono (Kd.R_told (Kd.R_told (Kd.R_told (Kd.R_old (rl ((far3 HO1023.out BK1025.out (by decide) (.slice Ao15 t1015.length co15) (.slice Ao18 t1018.length co18) (.slice Ao19 t1021.length co19)))) hb) (Kd.R_base ho0)) (Kd.R_base ho1)) (Kd.R_base ho2)) (fun _ h_ => h_.1)); have n6_ := am (Kd.R_lower (Kd.R_new' (Kd.R_new' (Kd.R_new' (Kd.R_new' (Kd.R_new' (Kd.R_new' ho0 (Kd.R_lt (rl ((far3 HO1005.out BK1025.out (by decide) (.slice Ao15 t1015.length co15) (.slice Ao18 t1018.length co18) (.slice Ao19 t1021.length co19)))))) (Kd.R_lt (rl ((far3 HO1008.out BK1025.out (by decide) (.slice Ao15 t1015.length co15) (.slice Ao18 t1018.length co18) (.slice Ao19 t1021.length co19)))))) (Kd.R_lt (rl ((far3 HO1011.out BK1025.out (by decide) (.slice Ao15 t1015.length co15) (.slice Ao18 t1018.length co18) (.slice Ao19 t1021.length co19)))))) (Kd.R_lt (rl ((far3 HO1017.out BK1025.out (by decide) (.slice Ao15 t1015.length co15) (.slice Ao18 t1018.length co18) (.slice Ao19 t1021.length co19)))))) (Kd.R_lt (rl ((far3 HO1020.out BK1025.out (by decide) (.slice Ao15 t1015.length co15) (.slice Ao18 t1018.length co18) (.slice Ao19 t1021.length co19)))))) (Kd.R_lt (rl ((far3 HO1023.out BK1025.out (by decide) (.slice Ao15 t1015.length co15) (.slice Ao18 t1018.length co18) (.slice Ao19 t1021.length co19)))))) (below_size (by repeat (first | (with_reducible first | exact HB.out | apply below_alloc | apply pw_below_drewN | apply below_drew1 | refine below_set ?_ GE1014.out | refine below_set ?_ GE1025.out) | exact HB.out)))); have n7_ := am (Kd.R_lower (Kd.R_new' (Kd.R_new' (Kd.R_new' (Kd.R_new' (Kd.R_new' (Kd.R_new' ho1 (Kd.R_lt (rl ((far3 HO1005.out BK1025.out (by decide) (.slice Ao15 t1015.length co15) (.slice Ao18 t1018.length co18) (.slice Ao19 t1021.length co19)))))) (Kd.R_lt (rl ((far3 HO1008.out BK1025.out (by decide) (.slice Ao15 t1015.length co15) (.slice Ao18 t1018.length co18) (.slice Ao19 t1021.length co19)))))) (Kd.R_lt (rl ((far3 HO1011.out BK1025.out (by decide) (.slice Ao15 t1015.length co15) (.slice Ao18 t1018.length co18) (.slice Ao19 t1021.length co19)))))) (Kd.R_lt (rl ((far3 HO1017.out BK1025.out (by decide) (.slice Ao15 t1015.length co15) (.slice Ao18 t1018.length co18) (.slice Ao19 t1021.length co19)))))) (Kd.R_lt (rl ((far3 HO1020.out BK1025.out (by decide) (.slice Ao15 t1015.length co15) (.slice Ao18 t1018.length co18) (.slice Ao19 t1021.length co19)))))) (Kd.R_lt (rl ((far3 HO1023.out BK1025.out (by decide) (.slice Ao15 t1015.length co15) (.slice Ao18 t1018.length co18) (.slice Ao19 t1021.length co19)))))) (below_size (by repeat (first | (with_reducible first | exact HB.out | apply below_alloc | apply pw_below_drewN | apply below_drew1 | refine below_set ?_ GE1014.out | refine below_set ?_ GE1025.out) | exact HB.out)))); have n8_ := am (Kd.R_lower (Kd.R_new' (Kd.R_new' (Kd.R_new' (Kd.R_new' (Kd.R_new' (Kd.R_new' ho2 (Kd.R_lt (rl ((far3 HO1005.out BK1025.out (by decide) (.slice Ao15 t1015.length co15) (.slice Ao18 t1018.length co18) (.slice Ao19 t1021.length co19)))))) (Kd.R_lt (rl ((far3 HO1008.out BK1025.out (by decide) (.slice Ao15 t1015.length co15) (.slice Ao18 t1018.length co18) (.slice Ao19 t1021.length co19)))))) (Kd.R_lt (rl ((far3 HO1011.out BK1025.out (by decide) (.slice Ao15 t1015.length co15) (.slice Ao18 t1018.length co18) (.slice Ao19 t1021.length co19)))))) (Kd.R_lt (rl ((far3 HO1017.out BK1025.out (by decide) (.slice Ao15 t1015.length co15) (.slice Ao18 t1018.length co18) (.slice Ao19 t1021.length co19)))))) (Kd.R_lt (rl ((far3 HO1020.out BK1025.out (by decide) (.slice Ao15 t1015.length co15) (.slice Ao18 t1018.length co18) (.slice Ao19 t1021.length co19)))))) (Kd.R_lt (rl ((far3 HO1023.out BK1025.out (by decide) (.slice Ao15 t1015.length co15) (.slice Ao18 t1018.length co18) (.slice Ao19 t1021.length co19)))))) (below_size (by repeat (first | (with_reducible first | exact HB.out | apply below_alloc | apply pw_below_drewN | apply below_drew1 | refine below_set ?_ GE1014.out | refine below_set ?_ GE1025.out) | exact HB.out)))); have n9_ := am (blk_below (g := gb1014) (o := .cells #[.slice Ao9 t1003.length co9, .slice Ao11 t1006.length co11, .slice Ao12 t1009.length co12] 28 (0, 0)) (by (with_reducible repeat (first | refine blk_drewN ?_ _ | refine blk_drew ?_ | refine blk_alloc ?_ _)); refine blk_far ?_ NB1014_1025.out _; (with_reducible repeat (first | refine blk_drewN ?_ _ | refine blk_drew ?_ | refine blk_alloc ?_ _)); refine blk_far ?_ NB1014_1025.out _; (with_reducible repeat (first | refine blk_drewN ?_ _ | refine blk_drew ?_ | refine blk_alloc ?_ _)); refine blk_far ?_ NB1014_1025.out _; (with_reducible repeat (first | refine blk_drewN ?_ _ | refine blk_drew ?_ | refine blk_alloc ?_ _)); exact BK1014.out) hb); have n10_ := am (blk_below (g := gb1025) (o := .cells #[.slice Ao15 t1015.length co15, .slice Ao18 t1018.length co18, .slice Ao19 t1021.length co19] 28 (0, 0)) (by (with_reducible repeat (first | refine blk_drewN ?_ _ | refine blk_drew ?_ | refine blk_alloc ?_ _)); refine blk_put (cs := #[.slice Ao15 t1015.length co15, .slice Ao18 t1018.length co18, .slice none 0 0]) ?_ 2 _ rfl; (with_reducible repeat (first | refine blk_drewN ?_ _ | refine blk_drew ?_ | refine blk_alloc ?_ _)); refine blk_put (cs := #[.slice Ao15 t1015.length co15, .slice none 0 0, .slice none 0 0]) ?_ 1 _ rfl; (with_reducible repeat (first | refine blk_drewN ?_ _ | refine blk_drew ?_ | refine blk_alloc ?_ _)); refine blk_put (cs := #[.slice none 0 0, .slice none 0 0, .slice none 0 0]) ?_ 0 _ rfl; (with_reducible repeat (first | refine blk_drewN ?_ _ | refine blk_drew ?_ | refine blk_alloc ?_ _)); exact BK1025.out) hb); have n11_ := am (below_step (by repeat (first | (with_reducible first | exact HB.out | apply below_alloc | apply pw_below_drewN | apply below_drew1 | refine below_set ?_ GE1014.out | refine below_set ?_ GE1025.out) | exact HB.out)) hb); clear HO1005; clear HO1008; clear HO1011; clear HO1017; clear HO1020; clear HO1023; clear BK1014; clear BK1025; clear HB; have HO1005 := n0_; have HO1008 := n1_; have HO1011 := n2_; have HO1017 := n3_; have HO1020 := n4_; have HO1023 := n5_; have HO1028 := n6_; have HO1031 := n7_; have HO1034 := n8_; have BK1014 := n9_; have BK1025 := n10_; have HB := n11_; clear n0_ n1_ n2_ n3_ n4_ n5_ n6_ n7_ n8_ n9_ n10_ n11_; (try clear hb); (try clear hb2); (try clear hk); (try clear hi); (try clear ho0); (try clear ho1); (try clear ho2)) | ((with_reducible refine gate_dst (N := 8) rfl ?_); refine box_event ?hg (N := 8) ?hd (cs := #[.slice none 0 0, .slice none 0 0, .slice none 0 0]) (t := 28) ?hr ?_; (case hd => rfl); (case hg => rfl); (case hr => first | (go_simp; done) | (go_simp; rfl)); intro gb1036 hg w22 hbox hb; have n0_ := am (Kd.R_below (rl HO1005.out) hb); have n1_ := am (Kd.R_below (rl HO1008.out) hb); have n2_ := am (Kd.R_below (rl HO1011.out) hb); have n3_ := am (Kd.R_below (rl HO1017.out) hb); have n4_ := am (Kd.R_below (rl HO1020.out) hb); have n5_ := am (Kd.R_below (rl HO1023.out) hb); have n6_ := am (Kd.R_below (rl HO1028.out) hb); have n7_ := am (Kd.R_below (rl HO1031.out) hb); have n8_ := am (Kd.R_below (rl HO1034.out) hb); have n9_ := am (blk_below (g := gb1014) (o := .cells #[.slice Ao9 t1003.length co9, .slice Ao11 t1006.length co11, .slice Ao12 t1009.length co12] 28 (0, 0)) (kl BK1014.out) hb); have n10_ := am (blk_below (g := gb1025) (o := .cells #[.slice Ao15 t1015.length co15, .slice Ao18 t1018.length co18, .slice Ao19 t1021.length co19] 28 (0, 0)) (kl BK1025.out) hb); have n11_ := am (below_step (by repeat (first | (with_reducible first | exact HB.out | apply below_alloc | apply pw_below_drewN | apply below_drew1 | refine below_set ?_ GE1014.out | refine below_set ?_ GE1025.out) | exact HB.out)) hb); have n12_ := am (hbox); have n13_ := am ((by rw [hg]; exact (below_size (by repeat (first | (with_reducible first | exact HB.out | apply below_alloc | apply pw_below_drewN | apply below_drew1 | refine below_set ?_ GE1014.out | refine below_set ?_ GE1025.out) | exact HB.out))) : w.heap.size ≤ gb1036)); have n14_ := am ((by rw [hg]; exact (below_size (by repeat (first | (with_reducible first | exact HB.out | apply below_alloc | apply pw_below_drewN | apply below_drew1 | refine below_set ?_ GE1014.out | refine below_set ?_ GE1025.out) | exact HB.out))) : w.heap.size ≤ gb1036)); have n15_ := am ((by rw [hg]; exact Nat.ne_of_lt (blk_lt (g := gb1014) (o := .cells #[.slice Ao9 t1003.length co9, .slice Ao11 t1006.length co11, .slice Ao12 t1009.length co12] 28 (0, 0)) (kl BK1014.out)) : gb1014 ≠ gb1036)); have n16_ := am ((by rw [hg]; exact Nat.ne_of_gt (blk_lt (g := gb1014) (o := .cells #[.slice Ao9 t1003.length co9, .slice Ao11 t1006.length co11, .slice Ao12 t1009.length co12] 28 (0, 0)) (kl BK1014.out)) : gb1036 ≠ gb1014)); have n17_ := am ((by rw [hg]; exact Nat.ne_of_lt (blk_lt (g := gb1025) (o := .cells #[.slice Ao15 t1015.length co15, .slice Ao18 t1018.length co18, .slice Ao19 t1021.length co19] 28 (0, 0)) (kl BK1025.out)) : gb1025 ≠ gb1036)); have n18_ := am ((by rw [hg]; exact Nat.ne_of_gt (blk_lt (g := gb1025) (o := .cells #[.slice Ao15 t1015.length co15, .slice Ao18 t1018.length co18, .slice Ao19 t1021.length co19] 28 (0, 0)) (kl BK1025.out)) : gb1036 ≠ gb1025)); clear HO1005; clear HO1008; clear HO1011; clear HO1017; clear HO1020; clear HO1023; clear HO1028; clear HO1031; clear HO1034; clear BK1014; clear BK1025; clear HB; have HO1005 := n0_; have HO1008 := n1_; have HO1011 := n2_; have HO1017 := n3_; have HO1020 := n4_; have HO1023 := n5_; have HO1028 := n6_; have HO1031 := n7_; have HO1034 := n8_; have BK1014 := n9_; have BK1025 := n10_; have HB := n11_; have BK1036 := n12_; have GW1036 := n13_; have GE1036 := n14_; have NB1014_1036 := n15_; have NB1036_1014 := n16_; have NB1025_1036 := n17_; have NB1036_1025 := n18_; clear n0_ n1_ n2_ n3_ n4_ n5_ n6_ n7_ n8_ n9_ n10_ n11_ n12_ n13_ n14_ n15_ n16_ n17_ n18_; clear hb hbox hg; obtain ⟨Ao23, co23, eo23⟩ := Kd.R_slice HO1028.out; subst eo23; have hnb24 := NB1036_1014.out; have hnc24 := NB1014_1036.out; have hnb25 := NB1036_1025.out; have hnc25 := NB1025_1036.out; have hcz26_0 : w22.cell? ⟨gb1036, 0, none⟩ = some (.slice none 0 0) := (blk_cell BK1036.out 0).trans rfl; have hcz26_1 : w22.cell? ⟨gb1036, 1, none⟩ = some (.slice none 0 0) := (blk_cell BK1036.out 1).trans rfl; have hcz26_2 : w22.cell? ⟨gb1036, 2, none⟩ = some (.slice none 0 0) := (blk_cell BK1036.out 2).trans rfl; have hfz26_0 := blk_frozen BK1036.out 0; have hfz26_1 := blk_frozen BK1036.out 1; have hfz26_2 := blk_frozen BK1036.out 2; obtain ⟨Ao27, co27, eo27⟩ := Kd.R_slice HO1031.out; subst eo27; obtain ⟨Ao28, co28, eo28⟩ := Kd.R_slice HO1034.out; subst eo28))
    (try simp only [Act.put, List.setIfInBounds_toArray, List.set_cons_zero, List.set_cons_succ])
    go_cut [47] (fun v47 wc => ∃ (kq : Nat) (x47_5 : Bool), v47 = .bool x47_5 ∧ Aside0 (laws_FnPutLeft.j0 kq t1012 t1013 t1024 t1035 x47_5 t1003 t1006 t1009 t1015 t1018 t1021 t1026 t1029 t1032 = some r) ∧ Aside0 (kq ≤ k) ∧ Aside0 (Kd.R (Kd.int .i64) 3 wc w.heap.size (fun k_ => some k_ ≠ ((.slice Ao11 t1006.length co11) : Value).ownBlock ∧ some k_ ≠ ((.slice Ao12 t1009.length co12) : Value).ownBlock ∧ some k_ ≠ ((.slice Ao15 t1015.length co15) : Value).ownBlock ∧ some k_ ≠ ((.slice Ao18 t1018.length co18) : Value).ownBlock ∧ some k_ ≠ ((.slice Ao19 t1021.length co19) : Value).ownBlock ∧ some k_ ≠ ((.slice Ao23 t1026.length co23) : Value).ownBlock ∧ some k_ ≠ ((.slice Ao27 t1029.length co27) : Value).ownBlock ∧ some k_ ≠ ((.slice Ao28 t1032.length co28) : Value).ownBlock) (.slice Ao9 t1003.length co9) t1003) ∧ Aside0 (Kd.R (Kd.int .i64) 3 wc w.heap.size (fun k_ => some k_ ≠ ((.slice Ao9 t1003.length co9) : Value).ownBlock ∧ some k_ ≠ ((.slice Ao12 t1009.length co12) : Value).ownBlock ∧ some k_ ≠ ((.slice Ao15 t1015.length co15) : Value).ownBlock ∧ some k_ ≠ ((.slice Ao18 t1018.length co18) : Value).ownBlock ∧ some k_ ≠ ((.slice Ao19 t1021.length co19) : Value).ownBlock ∧ some k_ ≠ ((.slice Ao23 t1026.length co23) : Value).ownBlock ∧ some k_ ≠ ((.slice Ao27 t1029.length co27) : Value).ownBlock ∧ some k_ ≠ ((.slice Ao28 t1032.length co28) : Value).ownBlock) (.slice Ao11 t1006.length co11) t1006) ∧ Aside0 (Kd.R (Kd.int .i64) 3 wc w.heap.size (fun k_ => some k_ ≠ ((.slice Ao9 t1003.length co9) : Value).ownBlock ∧ some k_ ≠ ((.slice Ao11 t1006.length co11) : Value).ownBlock ∧ some k_ ≠ ((.slice Ao15 t1015.length co15) : Value).ownBlock ∧ some k_ ≠ ((.slice Ao18 t1018.length co18) : Value).ownBlock ∧ some k_ ≠ ((.slice Ao19 t1021.length co19) : Value).ownBlock ∧ some k_ ≠ ((.slice Ao23 t1026.length co23) : Value).ownBlock ∧ some k_ ≠ ((.slice Ao27 t1029.length co27) : Value).ownBlock ∧ some k_ ≠ ((.slice Ao28 t1032.length co28) : Value).ownBlock) (.slice Ao12 t1009.length co12) t1009) ∧ Aside0 (Kd.R (Kd.int .i64) 3 wc w.heap.size (fun k_ => some k_ ≠ ((.slice Ao9 t1003.length co9) : Value).ownBlock ∧ some k_ ≠ ((.slice Ao11 t1006.length co11) : Value).ownBlock ∧ some k_ ≠ ((.slice Ao12 t1009.length co12) : Value).ownBlock ∧ some k_ ≠ ((.slice Ao18 t1018.length co18) : Value).ownBlock ∧ some k_ ≠ ((.slice Ao19 t1021.length co19) : Value).ownBlock ∧ some k_ ≠ ((.slice Ao23 t1026.length co23) : Value).ownBlock ∧ some k_ ≠ ((.slice Ao27 t1029.length co27) : Value).ownBlock ∧ some k_ ≠ ((.slice Ao28 t1032.length co28) : Value).ownBlock) (.slice Ao15 t1015.length co15) t1015) ∧ Aside0 (Kd.R (Kd.int .i64) 3 wc w.heap.size (fun k_ => some k_ ≠ ((.slice Ao9 t1003.length co9) : Value).ownBlock ∧ some k_ ≠ ((.slice Ao11 t1006.length co11) : Value).ownBlock ∧ some k_ ≠ ((.slice Ao12 t1009.length co12) : Value).ownBlock ∧ some k_ ≠ ((.slice Ao15 t1015.length co15) : Value).ownBlock ∧ some k_ ≠ ((.slice Ao19 t1021.length co19) : Value).ownBlock ∧ some k_ ≠ ((.slice Ao23 t1026.length co23) : Value).ownBlock ∧ some k_ ≠ ((.slice Ao27 t1029.length co27) : Value).ownBlock ∧ some k_ ≠ ((.slice Ao28 t1032.length co28) : Value).ownBlock) (.slice Ao18 t1018.length co18) t1018) ∧ Aside0 (Kd.R (Kd.int .i64) 3 wc w.heap.size (fun k_ => some k_ ≠ ((.slice Ao9 t1003.length co9) : Value).ownBlock ∧ some k_ ≠ ((.slice Ao11 t1006.length co11) : Value).ownBlock ∧ some k_ ≠ ((.slice Ao12 t1009.length co12) : Value).ownBlock ∧ some k_ ≠ ((.slice Ao15 t1015.length co15) : Value).ownBlock ∧ some k_ ≠ ((.slice Ao18 t1018.length co18) : Value).ownBlock ∧ some k_ ≠ ((.slice Ao23 t1026.length co23) : Value).ownBlock ∧ some k_ ≠ ((.slice Ao27 t1029.length co27) : Value).ownBlock ∧ some k_ ≠ ((.slice Ao28 t1032.length co28) : Value).ownBlock) (.slice Ao19 t1021.length co19) t1021) ∧ Aside0 (Kd.R (Kd.int .i64) 3 wc w.heap.size (fun k_ => some k_ ≠ ((.slice Ao9 t1003.length co9) : Value).ownBlock ∧ some k_ ≠ ((.slice Ao11 t1006.length co11) : Value).ownBlock ∧ some k_ ≠ ((.slice Ao12 t1009.length co12) : Value).ownBlock ∧ some k_ ≠ ((.slice Ao15 t1015.length co15) : Value).ownBlock ∧ some k_ ≠ ((.slice Ao18 t1018.length co18) : Value).ownBlock ∧ some k_ ≠ ((.slice Ao19 t1021.length co19) : Value).ownBlock ∧ some k_ ≠ ((.slice Ao27 t1029.length co27) : Value).ownBlock ∧ some k_ ≠ ((.slice Ao28 t1032.length co28) : Value).ownBlock) (.slice Ao23 t1026.length co23) t1026) ∧ Aside0 (Kd.R (Kd.int .i64) 3 wc w.heap.size (fun k_ => some k_ ≠ ((.slice Ao9 t1003.length co9) : Value).ownBlock ∧ some k_ ≠ ((.slice Ao11 t1006.length co11) : Value).ownBlock ∧ some k_ ≠ ((.slice Ao12 t1009.length co12) : Value).ownBlock ∧ some k_ ≠ ((.slice Ao15 t1015.length co15) : Value).ownBlock ∧ some k_ ≠ ((.slice Ao18 t1018.length co18) : Value).ownBlock ∧ some k_ ≠ ((.slice Ao19 t1021.length co19) : Value).ownBlock ∧ some k_ ≠ ((.slice Ao23 t1026.length co23) : Value).ownBlock ∧ some k_ ≠ ((.slice Ao28 t1032.length co28) : Value).ownBlock) (.slice Ao27 t1029.length co27) t1029) ∧ Aside0 (Kd.R (Kd.int .i64) 3 wc w.heap.size (fun k_ => some k_ ≠ ((.slice Ao9 t1003.length co9) : Value).ownBlock ∧ some k_ ≠ ((.slice Ao11 t1006.length co11) : Value).ownBlock ∧ some k_ ≠ ((.slice Ao12 t1009.length co12) : Value).ownBlock ∧ some k_ ≠ ((.slice Ao15 t1015.length co15) : Value).ownBlock ∧ some k_ ≠ ((.slice Ao18 t1018.length co18) : Value).ownBlock ∧ some k_ ≠ ((.slice Ao19 t1021.length co19) : Value).ownBlock ∧ some k_ ≠ ((.slice Ao23 t1026.length co23) : Value).ownBlock ∧ some k_ ≠ ((.slice Ao27 t1029.length co27) : Value).ownBlock) (.slice Ao28 t1032.length co28) t1032) ∧ Aside0 (wc.heap[gb1014]? = some (.cells #[(.slice Ao9 t1003.length co9), (.slice Ao11 t1006.length co11), (.slice Ao12 t1009.length co12)] 28 (0, 0))) ∧ Aside0 (wc.heap[gb1025]? = some (.cells #[(.slice Ao15 t1015.length co15), (.slice Ao18 t1018.length co18), (.slice Ao19 t1021.length co19)] 28 (0, 0))) ∧ Aside0 (wc.heap[gb1036]? = some (.cells #[(.slice Ao23 t1026.length co23), (.slice Ao27 t1029.length co27), (.slice Ao28 t1032.length co28)] 28 (0, 0))) ∧ Aside0 (Below w.heap.size w wc))
    case first =>
      have H := HC6.out
      clear HC6
      replace H := Option.bind_eq_some_iff.mp H
      obtain ⟨t1037, A290, H⟩ := H
      replace H : (if t1037 = true then (if (t1024 != t1035) = true then (laws_FnPutLeft.j0 k t1012 t1013 t1024 t1035 true t1003 t1006 t1009 t1015 t1018 t1021 t1026 t1029 t1032) else (laws_FnPutLeft.j0 k t1012 t1013 t1024 t1035 (!t1024) t1003 t1006 t1009 t1015 t1018 t1021 t1026 t1029 t1032)) else (laws_FnPutLeft.j0 k t1012 t1013 t1024 t1035 true t1003 t1006 t1009 t1015 t1018 t1021 t1026 t1029 t1032)) = some r := H
      have A29 := am A290
      clear A290
      by_cases c30 : t1037 = true
      · subst c30
        have H1 : (if (t1024 != t1035) = true then (laws_FnPutLeft.j0 k t1012 t1013 t1024 t1035 true t1003 t1006 t1009 t1015 t1018 t1021 t1026 t1029 t1032) else (laws_FnPutLeft.j0 k t1012 t1013 t1024 t1035 (!t1024) t1003 t1006 t1009 t1015 t1018 t1021 t1026 t1029 t1032)) = some r := by rw [if_pos rfl] at H; exact H
        clear H
        have H := H1
        clear H1
        by_cases c31 : (t1024 != t1035) = true
        · rw [if_pos c31] at H
          have c31b0 : (t1024 != t1035) = true := c31
          (try (have c31b1 : decide (t1024 = t1035) = false := by simpa using c31))
          (try (have c31b2 : (t1024 == t1035) = false := by simpa using c31))
          (try (have c31b3 : ¬ (t1024 = t1035) := by simpa using c31))
          clear c31
          (first | rw [c31b0] | (simp only [i64_w, i32_w]; rw [c31b0]) | skip)
          have H' := am H
          clear H
          have hnb32 := NB1025_1014.out
          have hnc32 := NB1014_1025.out
          have hnb33 := NB1025_1036.out
          have hnc33 := NB1036_1025.out
          have hcz34_0 : w22.cell? ⟨gb1025, 0, none⟩ = some (.slice Ao15 t1015.length co15) := (blk_cell BK1025.out 0).trans rfl
          have hcz34_1 : w22.cell? ⟨gb1025, 1, none⟩ = some (.slice Ao18 t1018.length co18) := (blk_cell BK1025.out 1).trans rfl
          have hcz34_2 : w22.cell? ⟨gb1025, 2, none⟩ = some (.slice Ao19 t1021.length co19) := (blk_cell BK1025.out 2).trans rfl
          have hfz34_0 := blk_frozen BK1025.out 0
          have hfz34_1 := blk_frozen BK1025.out 1
          have hfz34_2 := blk_frozen BK1025.out 2
          have hnb35 := NB1036_1014.out
          have hnc35 := NB1014_1036.out
          have hcz36_0 : w22.cell? ⟨gb1036, 0, none⟩ = some (.slice none 0 0) := (blk_cell BK1036.out 0).trans rfl
          have hcz36_1 : w22.cell? ⟨gb1036, 1, none⟩ = some (.slice none 0 0) := (blk_cell BK1036.out 1).trans rfl
          have hcz36_2 : w22.cell? ⟨gb1036, 2, none⟩ = some (.slice none 0 0) := (blk_cell BK1036.out 2).trans rfl
          have hfz36_0 := blk_frozen BK1036.out 0
          have hfz36_1 := blk_frozen BK1036.out 1
          have hfz36_2 := blk_frozen BK1036.out 2
          go_wp2_with (first | ((with_reducible refine gate_callee (f := 17) rfl ?_); refine goesL_ (some 37) rfl rfl Try.func17 (by kernel_rfl) rfl #[.agg #[.slice Ao15 t1015.length co15, .slice Ao18 t1018.length co18, .slice Ao19 t1021.length co19], .agg #[.slice Ao23 t1026.length co23, .slice Ao27 t1029.length co27, .slice Ao28 t1032.length co28]] rfl (by (try simp only [List.map_toArray, List.map_cons, List.map_nil]); first | done | rfl | (simp only [List.length_drop, List.length_take]; rfl)) ?_; (with_reducible refine (impl_HeapSame.calls k _ _ t1015 _ _ t1018 _ _ t1021 _ _ t1026 _ _ t1029 _ _ t1032 true _ ?side1 ?side2 ?side3 ?side4 ?side5 ?side6 ?side7 ?side8 ?side9 ?side10 ?side11 ?side12 A29.out).mono ?_); (case side1 => exact (Kd.R_reads' (rl ((far3 HO1017.out BK1036.out (by decide) (.slice Ao23 t1026.length co23) (.slice Ao27 t1029.length co27) (.slice Ao28 t1032.length co28))))).2.2); (case side2 => exact (Kd.R_reads' HO1017.out).2.1); (case side3 => exact (Kd.R_reads' (rl ((far3 HO1020.out BK1036.out (by decide) (.slice Ao23 t1026.length co23) (.slice Ao27 t1029.length co27) (.slice Ao28 t1032.length co28))))).2.2); (case side4 => exact (Kd.R_reads' HO1020.out).2.1); (case side5 => exact (Kd.R_reads' (rl ((far3 HO1023.out BK1036.out (by decide) (.slice Ao23 t1026.length co23) (.slice Ao27 t1029.length co27) (.slice Ao28 t1032.length co28))))).2.2); (case side6 => exact (Kd.R_reads' HO1023.out).2.1); (case side7 => exact (Kd.R_reads' (rl ((far3 HO1028.out BK1036.out (by decide) (.slice Ao23 t1026.length co23) (.slice Ao27 t1029.length co27) (.slice Ao28 t1032.length co28))))).2.2); (case side8 => exact (Kd.R_reads' HO1028.out).2.1); (case side9 => exact (Kd.R_reads' (rl ((far3 HO1031.out BK1036.out (by decide) (.slice Ao23 t1026.length co23) (.slice Ao27 t1029.length co27) (.slice Ao28 t1032.length co28))))).2.2); (case side10 => exact (Kd.R_reads' HO1031.out).2.1); (case side11 => exact (Kd.R_reads' (rl ((far3 HO1034.out BK1036.out (by decide) (.slice Ao23 t1026.length co23) (.slice Ao27 t1029.length co27) (.slice Ao28 t1032.length co28))))).2.2); (case side12 => exact (Kd.R_reads' HO1034.out).2.1); rintro e w37 ⟨rfl, hb⟩; refine ⟨_, rfl, ?_⟩; have n0_ := am (Kd.R_below (rl ((far3 HO1005.out BK1036.out (by decide) (.slice Ao23 t1026.length co23) (.slice Ao27 t1029.length co27) (.slice Ao28 t1032.length co28)))) hb); have n1_ := am (Kd.R_below (rl ((far3 HO1008.out BK1036.out (by decide) (.slice Ao23 t1026.length co23) (.slice Ao27 t1029.length co27) (.slice Ao28 t1032.length co28)))) hb); have n2_ := am (Kd.R_below (rl ((far3 HO1011.out BK1036.out (by decide) (.slice Ao23 t1026.length co23) (.slice Ao27 t1029.length co27) (.slice Ao28 t1032.length co28)))) hb); have n3_ := am (Kd.R_below (rl ((far3 HO1017.out BK1036.out (by decide) (.slice Ao23 t1026.length co23) (.slice Ao27 t1029.length co27) (.slice Ao28 t1032.length co28)))) hb); have n4_ := am (Kd.R_below (rl ((far3 HO1020.out BK1036.out (by decide) (.slice Ao23 t1026.length co23) (.slice Ao27 t1029.length co27) (.slice Ao28 t1032.length co28)))) hb); have n5_ := am (Kd.R_below (rl ((far3 HO1023.out BK1036.out (by decide) (.slice Ao23 t1026.length co23) (.slice Ao27 t1029.length co27) (.slice Ao28 t1032.length co28)))) hb); have n6_ := am (Kd.R_below (rl ((far3 HO1028.out BK1036.out (by decide) (.slice Ao23 t1026.length co23) (.slice Ao27 t1029.length co27) (.slice Ao28 t1032.length co28)))) hb); have n7_ := am (Kd.R_below (rl ((far3 HO1031.out BK1036.out (by decide) (.slice Ao23 t1026.length co23) (.slice Ao27 t1029.length co27) (.slice Ao28 t1032.length co28)))) hb); have n8_ := am (Kd.R_below (rl ((far3 HO1034.out BK1036.out (by decide) (.slice Ao23 t1026.length co23) (.slice Ao27 t1029.length co27) (.slice Ao28 t1032.length co28)))) hb); have n9_ := am (blk_below (g := gb1014) (o := .cells #[.slice Ao9 t1003.length co9, .slice Ao11 t1006.length co11, .slice Ao12 t1009.length co12] 28 (0, 0)) (by (with_reducible repeat (first | refine blk_drewN ?_ _ | refine blk_drew ?_ | refine blk_alloc ?_ _)); refine blk_far ?_ NB1014_1036.out _; (with_reducible repeat (first | refine blk_drewN ?_ _ | refine blk_drew ?_ | refine blk_alloc ?_ _)); refine blk_far ?_ NB1014_1036.out _; (with_reducible repeat (first | refine blk_drewN ?_ _ | refine blk_drew ?_ | refine blk_alloc ?_ _)); refine blk_far ?_ NB1014_1036.out _; (with_reducible repeat (first | refine blk_drewN ?_ _ | refine blk_drew ?_ | refine blk_alloc ?_ _)); exact BK1014.out) hb); have n10_ := am (blk_below (g := gb1025) (o := .cells #[.slice Ao15 t1015.length co15, .slice Ao18 t1018.length co18, .slice Ao19 t1021.length co19] 28 (0, 0)) (by (with_reducible repeat (first | refine blk_drewN ?_ _ | refine blk_drew ?_ | refine blk_alloc ?_ _)); refine blk_far ?_ NB1025_1036.out _; (with_reducible repeat (first | refine blk_drewN ?_ _ | refine blk_drew ?_ | refine blk_alloc ?_ _)); refine blk_far ?_ NB1025_1036.out _; (with_reducible repeat (first | refine blk_drewN ?_ _ | refine blk_drew ?_ | refine blk_alloc ?_ _)); refine blk_far ?_ NB1025_1036.out _; (with_reducible repeat (first | refine blk_drewN ?_ _ | refine blk_drew ?_ | refine blk_alloc ?_ _)); exact BK1025.out) hb); have n11_ := am (blk_below (g := gb1036) (o := .cells #[.slice Ao23 t1026.length co23, .slice Ao27 t1029.length co27, .slice Ao28 t1032.length co28] 28 (0, 0)) (by (with_reducible repeat (first | refine blk_drewN ?_ _ | refine blk_drew ?_ | refine blk_alloc ?_ _)); refine blk_put (cs := #[.slice Ao23 t1026.length co23, .slice Ao27 t1029.length co27, .slice none 0 0]) ?_ 2 _ rfl; (with_reducible repeat (first | refine blk_drewN ?_ _ | refine blk_drew ?_ | refine blk_alloc ?_ _)); refine blk_put (cs := #[.slice Ao23 t1026.length co23, .slice none 0 0, .slice none 0 0]) ?_ 1 _ rfl; (with_reducible repeat (first | refine blk_drewN ?_ _ | refine blk_drew ?_ | refine blk_alloc ?_ _)); refine blk_put (cs := #[.slice none 0 0, .slice none 0 0, .slice none 0 0]) ?_ 0 _ rfl; (with_reducible repeat (first | refine blk_drewN ?_ _ | refine blk_drew ?_ | refine blk_alloc ?_ _)); exact BK1036.out) hb); have n12_ := am (below_step (by repeat (first | (with_reducible first | exact HB.out | apply below_alloc | apply pw_below_drewN | apply below_drew1 | refine below_set ?_ GE1014.out | refine below_set ?_ GE1025.out | refine below_set ?_ GE1036.out) | exact HB.out)) hb); clear HO1005; clear HO1008; clear HO1011; clear HO1017; clear HO1020; clear HO1023; clear HO1028; clear HO1031; clear HO1034; clear BK1014; clear BK1025; clear BK1036; clear HB; have HO1005 := n0_; have HO1008 := n1_; have HO1011 := n2_; have HO1017 := n3_; have HO1020 := n4_; have HO1023 := n5_; have HO1028 := n6_; have HO1031 := n7_; have HO1034 := n8_; have BK1014 := n9_; have BK1025 := n10_; have BK1036 := n11_; have HB := n12_; clear n0_ n1_ n2_ n3_ n4_ n5_ n6_ n7_ n8_ n9_ n10_ n11_ n12_; (try clear hb); (try clear hb2); (try clear hk); (try clear hi)))
          go_meet
          case rel => exact ⟨_, (true), (by first | rfl | (simp; done) | (simp [*]; done)), H', ⟨by first | omega | exact Nat.le_refl _⟩, ⟨rl (Kd.R_mono HO1005.out (fun _ hk => by simp only [ne_eq] at hk ⊢; simp only [hk, not_false_eq_true, and_self]))⟩, ⟨rl (Kd.R_mono HO1008.out (fun _ hk => by simp only [ne_eq] at hk ⊢; simp only [hk, not_false_eq_true, and_self]))⟩, ⟨rl (Kd.R_mono HO1011.out (fun _ hk => by simp only [ne_eq] at hk ⊢; simp only [hk, not_false_eq_true, and_self]))⟩, ⟨rl (Kd.R_mono HO1017.out (fun _ hk => by simp only [ne_eq] at hk ⊢; simp only [hk, not_false_eq_true, and_self]))⟩, ⟨rl (Kd.R_mono HO1020.out (fun _ hk => by simp only [ne_eq] at hk ⊢; simp only [hk, not_false_eq_true, and_self]))⟩, ⟨rl (Kd.R_mono HO1023.out (fun _ hk => by simp only [ne_eq] at hk ⊢; simp only [hk, not_false_eq_true, and_self]))⟩, ⟨rl (Kd.R_mono HO1028.out (fun _ hk => by simp only [ne_eq] at hk ⊢; simp only [hk, not_false_eq_true, and_self]))⟩, ⟨rl (Kd.R_mono HO1031.out (fun _ hk => by simp only [ne_eq] at hk ⊢; simp only [hk, not_false_eq_true, and_self]))⟩, ⟨rl (Kd.R_mono HO1034.out (fun _ hk => by simp only [ne_eq] at hk ⊢; simp only [hk, not_false_eq_true, and_self]))⟩, ⟨kl BK1014.out⟩, ⟨kl BK1025.out⟩, ⟨kl BK1036.out⟩, ⟨by repeat (first | (with_reducible first | exact HB.out | apply below_alloc | apply pw_below_drewN | apply below_drew1 | refine below_set ?_ GE1014.out | refine below_set ?_ GE1025.out | refine below_set ?_ GE1036.out) | exact HB.out)⟩⟩
        · rw [if_neg c31] at H
          have c31b0 : (t1024 != t1035) = false := by simpa using c31
          (try (have c31b1 : decide (t1024 = t1035) = true := by simpa using c31))
          (try (have c31b2 : (t1024 == t1035) = true := by simpa using c31))
          clear c31
          (first | rw [c31b0] | (simp only [i64_w, i32_w]; rw [c31b0]) | skip)
          have H' := am H
          clear H
          have hnb38 := NB1025_1014.out
          have hnc38 := NB1014_1025.out
          have hnb39 := NB1025_1036.out
          have hnc39 := NB1036_1025.out
          have hcz40_0 : w22.cell? ⟨gb1025, 0, none⟩ = some (.slice Ao15 t1015.length co15) := (blk_cell BK1025.out 0).trans rfl
          have hcz40_1 : w22.cell? ⟨gb1025, 1, none⟩ = some (.slice Ao18 t1018.length co18) := (blk_cell BK1025.out 1).trans rfl
          have hcz40_2 : w22.cell? ⟨gb1025, 2, none⟩ = some (.slice Ao19 t1021.length co19) := (blk_cell BK1025.out 2).trans rfl
          have hfz40_0 := blk_frozen BK1025.out 0
          have hfz40_1 := blk_frozen BK1025.out 1
          have hfz40_2 := blk_frozen BK1025.out 2
          have hnb41 := NB1036_1014.out
          have hnc41 := NB1014_1036.out
          have hcz42_0 : w22.cell? ⟨gb1036, 0, none⟩ = some (.slice none 0 0) := (blk_cell BK1036.out 0).trans rfl
          have hcz42_1 : w22.cell? ⟨gb1036, 1, none⟩ = some (.slice none 0 0) := (blk_cell BK1036.out 1).trans rfl
          have hcz42_2 : w22.cell? ⟨gb1036, 2, none⟩ = some (.slice none 0 0) := (blk_cell BK1036.out 2).trans rfl
          have hfz42_0 := blk_frozen BK1036.out 0
          have hfz42_1 := blk_frozen BK1036.out 1
          have hfz42_2 := blk_frozen BK1036.out 2
          go_wp2_with (first | ((with_reducible refine gate_callee (f := 17) rfl ?_); refine goesL_ (some 37) rfl rfl Try.func17 (by kernel_rfl) rfl #[.agg #[.slice Ao15 t1015.length co15, .slice Ao18 t1018.length co18, .slice Ao19 t1021.length co19], .agg #[.slice Ao23 t1026.length co23, .slice Ao27 t1029.length co27, .slice Ao28 t1032.length co28]] rfl (by (try simp only [List.map_toArray, List.map_cons, List.map_nil]); first | done | rfl | (simp only [List.length_drop, List.length_take]; rfl)) ?_; (with_reducible refine (impl_HeapSame.calls k _ _ t1015 _ _ t1018 _ _ t1021 _ _ t1026 _ _ t1029 _ _ t1032 true _ ?side1 ?side2 ?side3 ?side4 ?side5 ?side6 ?side7 ?side8 ?side9 ?side10 ?side11 ?side12 A29.out).mono ?_); (case side1 => exact (Kd.R_reads' (rl ((far3 HO1017.out BK1036.out (by decide) (.slice Ao23 t1026.length co23) (.slice Ao27 t1029.length co27) (.slice Ao28 t1032.length co28))))).2.2); (case side2 => exact (Kd.R_reads' HO1017.out).2.1); (case side3 => exact (Kd.R_reads' (rl ((far3 HO1020.out BK1036.out (by decide) (.slice Ao23 t1026.length co23) (.slice Ao27 t1029.length co27) (.slice Ao28 t1032.length co28))))).2.2); (case side4 => exact (Kd.R_reads' HO1020.out).2.1); (case side5 => exact (Kd.R_reads' (rl ((far3 HO1023.out BK1036.out (by decide) (.slice Ao23 t1026.length co23) (.slice Ao27 t1029.length co27) (.slice Ao28 t1032.length co28))))).2.2); (case side6 => exact (Kd.R_reads' HO1023.out).2.1); (case side7 => exact (Kd.R_reads' (rl ((far3 HO1028.out BK1036.out (by decide) (.slice Ao23 t1026.length co23) (.slice Ao27 t1029.length co27) (.slice Ao28 t1032.length co28))))).2.2); (case side8 => exact (Kd.R_reads' HO1028.out).2.1); (case side9 => exact (Kd.R_reads' (rl ((far3 HO1031.out BK1036.out (by decide) (.slice Ao23 t1026.length co23) (.slice Ao27 t1029.length co27) (.slice Ao28 t1032.length co28))))).2.2); (case side10 => exact (Kd.R_reads' HO1031.out).2.1); (case side11 => exact (Kd.R_reads' (rl ((far3 HO1034.out BK1036.out (by decide) (.slice Ao23 t1026.length co23) (.slice Ao27 t1029.length co27) (.slice Ao28 t1032.length co28))))).2.2); (case side12 => exact (Kd.R_reads' HO1034.out).2.1); rintro e w43 ⟨rfl, hb⟩; refine ⟨_, rfl, ?_⟩; have n0_ := am (Kd.R_below (rl ((far3 HO1005.out BK1036.out (by decide) (.slice Ao23 t1026.length co23) (.slice Ao27 t1029.length co27) (.slice Ao28 t1032.length co28)))) hb); have n1_ := am (Kd.R_below (rl ((far3 HO1008.out BK1036.out (by decide) (.slice Ao23 t1026.length co23) (.slice Ao27 t1029.length co27) (.slice Ao28 t1032.length co28)))) hb); have n2_ := am (Kd.R_below (rl ((far3 HO1011.out BK1036.out (by decide) (.slice Ao23 t1026.length co23) (.slice Ao27 t1029.length co27) (.slice Ao28 t1032.length co28)))) hb); have n3_ := am (Kd.R_below (rl ((far3 HO1017.out BK1036.out (by decide) (.slice Ao23 t1026.length co23) (.slice Ao27 t1029.length co27) (.slice Ao28 t1032.length co28)))) hb); have n4_ := am (Kd.R_below (rl ((far3 HO1020.out BK1036.out (by decide) (.slice Ao23 t1026.length co23) (.slice Ao27 t1029.length co27) (.slice Ao28 t1032.length co28)))) hb); have n5_ := am (Kd.R_below (rl ((far3 HO1023.out BK1036.out (by decide) (.slice Ao23 t1026.length co23) (.slice Ao27 t1029.length co27) (.slice Ao28 t1032.length co28)))) hb); have n6_ := am (Kd.R_below (rl ((far3 HO1028.out BK1036.out (by decide) (.slice Ao23 t1026.length co23) (.slice Ao27 t1029.length co27) (.slice Ao28 t1032.length co28)))) hb); have n7_ := am (Kd.R_below (rl ((far3 HO1031.out BK1036.out (by decide) (.slice Ao23 t1026.length co23) (.slice Ao27 t1029.length co27) (.slice Ao28 t1032.length co28)))) hb); have n8_ := am (Kd.R_below (rl ((far3 HO1034.out BK1036.out (by decide) (.slice Ao23 t1026.length co23) (.slice Ao27 t1029.length co27) (.slice Ao28 t1032.length co28)))) hb); have n9_ := am (blk_below (g := gb1014) (o := .cells #[.slice Ao9 t1003.length co9, .slice Ao11 t1006.length co11, .slice Ao12 t1009.length co12] 28 (0, 0)) (by (with_reducible repeat (first | refine blk_drewN ?_ _ | refine blk_drew ?_ | refine blk_alloc ?_ _)); refine blk_far ?_ NB1014_1036.out _; (with_reducible repeat (first | refine blk_drewN ?_ _ | refine blk_drew ?_ | refine blk_alloc ?_ _)); refine blk_far ?_ NB1014_1036.out _; (with_reducible repeat (first | refine blk_drewN ?_ _ | refine blk_drew ?_ | refine blk_alloc ?_ _)); refine blk_far ?_ NB1014_1036.out _; (with_reducible repeat (first | refine blk_drewN ?_ _ | refine blk_drew ?_ | refine blk_alloc ?_ _)); exact BK1014.out) hb); have n10_ := am (blk_below (g := gb1025) (o := .cells #[.slice Ao15 t1015.length co15, .slice Ao18 t1018.length co18, .slice Ao19 t1021.length co19] 28 (0, 0)) (by (with_reducible repeat (first | refine blk_drewN ?_ _ | refine blk_drew ?_ | refine blk_alloc ?_ _)); refine blk_far ?_ NB1025_1036.out _; (with_reducible repeat (first | refine blk_drewN ?_ _ | refine blk_drew ?_ | refine blk_alloc ?_ _)); refine blk_far ?_ NB1025_1036.out _; (with_reducible repeat (first | refine blk_drewN ?_ _ | refine blk_drew ?_ | refine blk_alloc ?_ _)); refine blk_far ?_ NB1025_1036.out _; (with_reducible repeat (first | refine blk_drewN ?_ _ | refine blk_drew ?_ | refine blk_alloc ?_ _)); exact BK1025.out) hb); have n11_ := am (blk_below (g := gb1036) (o := .cells #[.slice Ao23 t1026.length co23, .slice Ao27 t1029.length co27, .slice Ao28 t1032.length co28] 28 (0, 0)) (by (with_reducible repeat (first | refine blk_drewN ?_ _ | refine blk_drew ?_ | refine blk_alloc ?_ _)); refine blk_put (cs := #[.slice Ao23 t1026.length co23, .slice Ao27 t1029.length co27, .slice none 0 0]) ?_ 2 _ rfl; (with_reducible repeat (first | refine blk_drewN ?_ _ | refine blk_drew ?_ | refine blk_alloc ?_ _)); refine blk_put (cs := #[.slice Ao23 t1026.length co23, .slice none 0 0, .slice none 0 0]) ?_ 1 _ rfl; (with_reducible repeat (first | refine blk_drewN ?_ _ | refine blk_drew ?_ | refine blk_alloc ?_ _)); refine blk_put (cs := #[.slice none 0 0, .slice none 0 0, .slice none 0 0]) ?_ 0 _ rfl; (with_reducible repeat (first | refine blk_drewN ?_ _ | refine blk_drew ?_ | refine blk_alloc ?_ _)); exact BK1036.out) hb); have n12_ := am (below_step (by repeat (first | (with_reducible first | exact HB.out | apply below_alloc | apply pw_below_drewN | apply below_drew1 | refine below_set ?_ GE1014.out | refine below_set ?_ GE1025.out | refine below_set ?_ GE1036.out) | exact HB.out)) hb); clear HO1005; clear HO1008; clear HO1011; clear HO1017; clear HO1020; clear HO1023; clear HO1028; clear HO1031; clear HO1034; clear BK1014; clear BK1025; clear BK1036; clear HB; have HO1005 := n0_; have HO1008 := n1_; have HO1011 := n2_; have HO1017 := n3_; have HO1020 := n4_; have HO1023 := n5_; have HO1028 := n6_; have HO1031 := n7_; have HO1034 := n8_; have BK1014 := n9_; have BK1025 := n10_; have BK1036 := n11_; have HB := n12_; clear n0_ n1_ n2_ n3_ n4_ n5_ n6_ n7_ n8_ n9_ n10_ n11_ n12_; (try clear hb); (try clear hb2); (try clear hk); (try clear hi)))
          go_meet
          case rel => exact ⟨_, (!t1024), (by first | rfl | (simp; done) | (simp [*]; done)), H', ⟨by first | omega | exact Nat.le_refl _⟩, ⟨rl (Kd.R_mono HO1005.out (fun _ hk => by simp only [ne_eq] at hk ⊢; simp only [hk, not_false_eq_true, and_self]))⟩, ⟨rl (Kd.R_mono HO1008.out (fun _ hk => by simp only [ne_eq] at hk ⊢; simp only [hk, not_false_eq_true, and_self]))⟩, ⟨rl (Kd.R_mono HO1011.out (fun _ hk => by simp only [ne_eq] at hk ⊢; simp only [hk, not_false_eq_true, and_self]))⟩, ⟨rl (Kd.R_mono HO1017.out (fun _ hk => by simp only [ne_eq] at hk ⊢; simp only [hk, not_false_eq_true, and_self]))⟩, ⟨rl (Kd.R_mono HO1020.out (fun _ hk => by simp only [ne_eq] at hk ⊢; simp only [hk, not_false_eq_true, and_self]))⟩, ⟨rl (Kd.R_mono HO1023.out (fun _ hk => by simp only [ne_eq] at hk ⊢; simp only [hk, not_false_eq_true, and_self]))⟩, ⟨rl (Kd.R_mono HO1028.out (fun _ hk => by simp only [ne_eq] at hk ⊢; simp only [hk, not_false_eq_true, and_self]))⟩, ⟨rl (Kd.R_mono HO1031.out (fun _ hk => by simp only [ne_eq] at hk ⊢; simp only [hk, not_false_eq_true, and_self]))⟩, ⟨rl (Kd.R_mono HO1034.out (fun _ hk => by simp only [ne_eq] at hk ⊢; simp only [hk, not_false_eq_true, and_self]))⟩, ⟨kl BK1014.out⟩, ⟨kl BK1025.out⟩, ⟨kl BK1036.out⟩, ⟨by repeat (first | (with_reducible first | exact HB.out | apply below_alloc | apply pw_below_drewN | apply below_drew1 | refine below_set ?_ GE1014.out | refine below_set ?_ GE1025.out | refine below_set ?_ GE1036.out) | exact HB.out)⟩⟩
      · replace c30 := Bool.eq_false_iff.mpr c30
        subst c30
        have H1 : (laws_FnPutLeft.j0 k t1012 t1013 t1024 t1035 true t1003 t1006 t1009 t1015 t1018 t1021 t1026 t1029 t1032) = some r := by rw [if_neg (show ¬ (false = true) by decide)] at H; exact H
        clear H
        have H := H1
        clear H1
        have H' := am H
        clear H
        have hnb44 := NB1025_1014.out
        have hnc44 := NB1014_1025.out
        have hnb45 := NB1025_1036.out
        have hnc45 := NB1036_1025.out
        have hcz46_0 : w22.cell? ⟨gb1025, 0, none⟩ = some (.slice Ao15 t1015.length co15) := (blk_cell BK1025.out 0).trans rfl
        have hcz46_1 : w22.cell? ⟨gb1025, 1, none⟩ = some (.slice Ao18 t1018.length co18) := (blk_cell BK1025.out 1).trans rfl
        have hcz46_2 : w22.cell? ⟨gb1025, 2, none⟩ = some (.slice Ao19 t1021.length co19) := (blk_cell BK1025.out 2).trans rfl
        have hfz46_0 := blk_frozen BK1025.out 0
        have hfz46_1 := blk_frozen BK1025.out 1
        have hfz46_2 := blk_frozen BK1025.out 2
        have hnb47 := NB1036_1014.out
        have hnc47 := NB1014_1036.out
        have hcz48_0 : w22.cell? ⟨gb1036, 0, none⟩ = some (.slice none 0 0) := (blk_cell BK1036.out 0).trans rfl
        have hcz48_1 : w22.cell? ⟨gb1036, 1, none⟩ = some (.slice none 0 0) := (blk_cell BK1036.out 1).trans rfl
        have hcz48_2 : w22.cell? ⟨gb1036, 2, none⟩ = some (.slice none 0 0) := (blk_cell BK1036.out 2).trans rfl
        have hfz48_0 := blk_frozen BK1036.out 0
        have hfz48_1 := blk_frozen BK1036.out 1
        have hfz48_2 := blk_frozen BK1036.out 2
        go_wp2_with (first | ((with_reducible refine gate_callee (f := 17) rfl ?_); refine goesL_ (some 37) rfl rfl Try.func17 (by kernel_rfl) rfl #[.agg #[.slice Ao15 t1015.length co15, .slice Ao18 t1018.length co18, .slice Ao19 t1021.length co19], .agg #[.slice Ao23 t1026.length co23, .slice Ao27 t1029.length co27, .slice Ao28 t1032.length co28]] rfl (by (try simp only [List.map_toArray, List.map_cons, List.map_nil]); first | done | rfl | (simp only [List.length_drop, List.length_take]; rfl)) ?_; (with_reducible refine (impl_HeapSame.calls k _ _ t1015 _ _ t1018 _ _ t1021 _ _ t1026 _ _ t1029 _ _ t1032 false _ ?side1 ?side2 ?side3 ?side4 ?side5 ?side6 ?side7 ?side8 ?side9 ?side10 ?side11 ?side12 A29.out).mono ?_); (case side1 => exact (Kd.R_reads' (rl ((far3 HO1017.out BK1036.out (by decide) (.slice Ao23 t1026.length co23) (.slice Ao27 t1029.length co27) (.slice Ao28 t1032.length co28))))).2.2); (case side2 => exact (Kd.R_reads' HO1017.out).2.1); (case side3 => exact (Kd.R_reads' (rl ((far3 HO1020.out BK1036.out (by decide) (.slice Ao23 t1026.length co23) (.slice Ao27 t1029.length co27) (.slice Ao28 t1032.length co28))))).2.2); (case side4 => exact (Kd.R_reads' HO1020.out).2.1); (case side5 => exact (Kd.R_reads' (rl ((far3 HO1023.out BK1036.out (by decide) (.slice Ao23 t1026.length co23) (.slice Ao27 t1029.length co27) (.slice Ao28 t1032.length co28))))).2.2); (case side6 => exact (Kd.R_reads' HO1023.out).2.1); (case side7 => exact (Kd.R_reads' (rl ((far3 HO1028.out BK1036.out (by decide) (.slice Ao23 t1026.length co23) (.slice Ao27 t1029.length co27) (.slice Ao28 t1032.length co28))))).2.2); (case side8 => exact (Kd.R_reads' HO1028.out).2.1); (case side9 => exact (Kd.R_reads' (rl ((far3 HO1031.out BK1036.out (by decide) (.slice Ao23 t1026.length co23) (.slice Ao27 t1029.length co27) (.slice Ao28 t1032.length co28))))).2.2); (case side10 => exact (Kd.R_reads' HO1031.out).2.1); (case side11 => exact (Kd.R_reads' (rl ((far3 HO1034.out BK1036.out (by decide) (.slice Ao23 t1026.length co23) (.slice Ao27 t1029.length co27) (.slice Ao28 t1032.length co28))))).2.2); (case side12 => exact (Kd.R_reads' HO1034.out).2.1); rintro e w49 ⟨rfl, hb⟩; refine ⟨_, rfl, ?_⟩; have n0_ := am (Kd.R_below (rl ((far3 HO1005.out BK1036.out (by decide) (.slice Ao23 t1026.length co23) (.slice Ao27 t1029.length co27) (.slice Ao28 t1032.length co28)))) hb); have n1_ := am (Kd.R_below (rl ((far3 HO1008.out BK1036.out (by decide) (.slice Ao23 t1026.length co23) (.slice Ao27 t1029.length co27) (.slice Ao28 t1032.length co28)))) hb); have n2_ := am (Kd.R_below (rl ((far3 HO1011.out BK1036.out (by decide) (.slice Ao23 t1026.length co23) (.slice Ao27 t1029.length co27) (.slice Ao28 t1032.length co28)))) hb); have n3_ := am (Kd.R_below (rl ((far3 HO1017.out BK1036.out (by decide) (.slice Ao23 t1026.length co23) (.slice Ao27 t1029.length co27) (.slice Ao28 t1032.length co28)))) hb); have n4_ := am (Kd.R_below (rl ((far3 HO1020.out BK1036.out (by decide) (.slice Ao23 t1026.length co23) (.slice Ao27 t1029.length co27) (.slice Ao28 t1032.length co28)))) hb); have n5_ := am (Kd.R_below (rl ((far3 HO1023.out BK1036.out (by decide) (.slice Ao23 t1026.length co23) (.slice Ao27 t1029.length co27) (.slice Ao28 t1032.length co28)))) hb); have n6_ := am (Kd.R_below (rl ((far3 HO1028.out BK1036.out (by decide) (.slice Ao23 t1026.length co23) (.slice Ao27 t1029.length co27) (.slice Ao28 t1032.length co28)))) hb); have n7_ := am (Kd.R_below (rl ((far3 HO1031.out BK1036.out (by decide) (.slice Ao23 t1026.length co23) (.slice Ao27 t1029.length co27) (.slice Ao28 t1032.length co28)))) hb); have n8_ := am (Kd.R_below (rl ((far3 HO1034.out BK1036.out (by decide) (.slice Ao23 t1026.length co23) (.slice Ao27 t1029.length co27) (.slice Ao28 t1032.length co28)))) hb); have n9_ := am (blk_below (g := gb1014) (o := .cells #[.slice Ao9 t1003.length co9, .slice Ao11 t1006.length co11, .slice Ao12 t1009.length co12] 28 (0, 0)) (by (with_reducible repeat (first | refine blk_drewN ?_ _ | refine blk_drew ?_ | refine blk_alloc ?_ _)); refine blk_far ?_ NB1014_1036.out _; (with_reducible repeat (first | refine blk_drewN ?_ _ | refine blk_drew ?_ | refine blk_alloc ?_ _)); refine blk_far ?_ NB1014_1036.out _; (with_reducible repeat (first | refine blk_drewN ?_ _ | refine blk_drew ?_ | refine blk_alloc ?_ _)); refine blk_far ?_ NB1014_1036.out _; (with_reducible repeat (first | refine blk_drewN ?_ _ | refine blk_drew ?_ | refine blk_alloc ?_ _)); exact BK1014.out) hb); have n10_ := am (blk_below (g := gb1025) (o := .cells #[.slice Ao15 t1015.length co15, .slice Ao18 t1018.length co18, .slice Ao19 t1021.length co19] 28 (0, 0)) (by (with_reducible repeat (first | refine blk_drewN ?_ _ | refine blk_drew ?_ | refine blk_alloc ?_ _)); refine blk_far ?_ NB1025_1036.out _; (with_reducible repeat (first | refine blk_drewN ?_ _ | refine blk_drew ?_ | refine blk_alloc ?_ _)); refine blk_far ?_ NB1025_1036.out _; (with_reducible repeat (first | refine blk_drewN ?_ _ | refine blk_drew ?_ | refine blk_alloc ?_ _)); refine blk_far ?_ NB1025_1036.out _; (with_reducible repeat (first | refine blk_drewN ?_ _ | refine blk_drew ?_ | refine blk_alloc ?_ _)); exact BK1025.out) hb); have n11_ := am (blk_below (g := gb1036) (o := .cells #[.slice Ao23 t1026.length co23, .slice Ao27 t1029.length co27, .slice Ao28 t1032.length co28] 28 (0, 0)) (by (with_reducible repeat (first | refine blk_drewN ?_ _ | refine blk_drew ?_ | refine blk_alloc ?_ _)); refine blk_put (cs := #[.slice Ao23 t1026.length co23, .slice Ao27 t1029.length co27, .slice none 0 0]) ?_ 2 _ rfl; (with_reducible repeat (first | refine blk_drewN ?_ _ | refine blk_drew ?_ | refine blk_alloc ?_ _)); refine blk_put (cs := #[.slice Ao23 t1026.length co23, .slice none 0 0, .slice none 0 0]) ?_ 1 _ rfl; (with_reducible repeat (first | refine blk_drewN ?_ _ | refine blk_drew ?_ | refine blk_alloc ?_ _)); refine blk_put (cs := #[.slice none 0 0, .slice none 0 0, .slice none 0 0]) ?_ 0 _ rfl; (with_reducible repeat (first | refine blk_drewN ?_ _ | refine blk_drew ?_ | refine blk_alloc ?_ _)); exact BK1036.out) hb); have n12_ := am (below_step (by repeat (first | (with_reducible first | exact HB.out | apply below_alloc | apply pw_below_drewN | apply below_drew1 | refine below_set ?_ GE1014.out | refine below_set ?_ GE1025.out | refine below_set ?_ GE1036.out) | exact HB.out)) hb); clear HO1005; clear HO1008; clear HO1011; clear HO1017; clear HO1020; clear HO1023; clear HO1028; clear HO1031; clear HO1034; clear BK1014; clear BK1025; clear BK1036; clear HB; have HO1005 := n0_; have HO1008 := n1_; have HO1011 := n2_; have HO1017 := n3_; have HO1020 := n4_; have HO1023 := n5_; have HO1028 := n6_; have HO1031 := n7_; have HO1034 := n8_; have BK1014 := n9_; have BK1025 := n10_; have BK1036 := n11_; have HB := n12_; clear n0_ n1_ n2_ n3_ n4_ n5_ n6_ n7_ n8_ n9_ n10_ n11_ n12_; (try clear hb); (try clear hb2); (try clear hk); (try clear hi)))
        go_meet
        case rel => exact ⟨_, (true), (by first | rfl | (simp; done) | (simp [*]; done)), H', ⟨by first | omega | exact Nat.le_refl _⟩, ⟨rl (Kd.R_mono HO1005.out (fun _ hk => by simp only [ne_eq] at hk ⊢; simp only [hk, not_false_eq_true, and_self]))⟩, ⟨rl (Kd.R_mono HO1008.out (fun _ hk => by simp only [ne_eq] at hk ⊢; simp only [hk, not_false_eq_true, and_self]))⟩, ⟨rl (Kd.R_mono HO1011.out (fun _ hk => by simp only [ne_eq] at hk ⊢; simp only [hk, not_false_eq_true, and_self]))⟩, ⟨rl (Kd.R_mono HO1017.out (fun _ hk => by simp only [ne_eq] at hk ⊢; simp only [hk, not_false_eq_true, and_self]))⟩, ⟨rl (Kd.R_mono HO1020.out (fun _ hk => by simp only [ne_eq] at hk ⊢; simp only [hk, not_false_eq_true, and_self]))⟩, ⟨rl (Kd.R_mono HO1023.out (fun _ hk => by simp only [ne_eq] at hk ⊢; simp only [hk, not_false_eq_true, and_self]))⟩, ⟨rl (Kd.R_mono HO1028.out (fun _ hk => by simp only [ne_eq] at hk ⊢; simp only [hk, not_false_eq_true, and_self]))⟩, ⟨rl (Kd.R_mono HO1031.out (fun _ hk => by simp only [ne_eq] at hk ⊢; simp only [hk, not_false_eq_true, and_self]))⟩, ⟨rl (Kd.R_mono HO1034.out (fun _ hk => by simp only [ne_eq] at hk ⊢; simp only [hk, not_false_eq_true, and_self]))⟩, ⟨kl BK1014.out⟩, ⟨kl BK1025.out⟩, ⟨kl BK1036.out⟩, ⟨by repeat (first | (with_reducible first | exact HB.out | apply below_alloc | apply pw_below_drewN | apply below_drew1 | refine below_set ?_ GE1014.out | refine below_set ?_ GE1025.out | refine below_set ?_ GE1036.out) | exact HB.out)⟩⟩
    case rest =>
      clear HC6
      try clear c1
      try clear c2
      try clear c2b0
      try clear c2b1
      try clear p2
      try clear c3
      try clear c4
      try clear c13
      try clear c16
      try clear c17
      try clear c24
      try clear c25
      try clear c30
      try clear c31
      try clear c31b0
      try clear c31b1
      try clear c31b2
      try clear c32
      try clear c33
      try clear c35
      try clear c38
      try clear c39
      try clear c41
      try clear c43
      try clear c44
      try clear c45
      try clear c47
      try clear hcz10_0
      try clear hcz10_1
      try clear hcz10_2
      try clear hcz17_0
      try clear hcz17_1
      try clear hcz17_2
      try clear hcz20_0
      try clear hcz20_1
      try clear hcz20_2
      try clear hcz26_0
      try clear hcz26_1
      try clear hcz26_2
      try clear hcz34_0
      try clear hcz34_1
      try clear hcz34_2
      try clear hcz36_0
      try clear hcz36_1
      try clear hcz36_2
      try clear hcz40_0
      try clear hcz40_1
      try clear hcz40_2
      try clear hcz42_0
      try clear hcz42_1
      try clear hcz42_2
      try clear hcz46_0
      try clear hcz46_1
      try clear hcz46_2
      try clear hcz48_0
      try clear hcz48_1
      try clear hcz48_2
      try clear hfz10_0
      try clear hfz10_1
      try clear hfz10_2
      try clear hfz17_0
      try clear hfz17_1
      try clear hfz17_2
      try clear hfz20_0
      try clear hfz20_1
      try clear hfz20_2
      try clear hfz26_0
      try clear hfz26_1
      try clear hfz26_2
      try clear hfz34_0
      try clear hfz34_1
      try clear hfz34_2
      try clear hfz36_0
      try clear hfz36_1
      try clear hfz36_2
      try clear hfz40_0
      try clear hfz40_1
      try clear hfz40_2
      try clear hfz42_0
      try clear hfz42_1
      try clear hfz42_2
      try clear hfz46_0
      try clear hfz46_1
      try clear hfz46_2
      try clear hfz48_0
      try clear hfz48_1
      try clear hfz48_2
      obtain ⟨kq, x47_5, rfl, HA, HJ5, HO_1015000, HO_1015001, HO_1015002, HO_1026000, HO_1026001, HO_1026002, HO_1037000, HO_1037001, HO_1037002, BK1014, BK1025, BK1036, HB⟩ := hcut
      cases kq with
      | zero => exact absurd HA.out (by simp [laws_FnPutLeft.j0])
      | succ kj5 =>
        have H := HA.out
        clear HA
        simp only [laws_FnPutLeft.j0] at H
        by_cases c50 : x47_5 = true
        · subst c50
          have H1 : ((impl_HeapSame.f kj5 t1015 t1018 t1021 t1026 t1029 t1032).bind fun t1038 => (if t1038 = true then (some (t1024 == t1035)) else (none))) = some r := by rw [if_pos rfl] at H; exact H
          clear H
          have H := H1
          clear H1
          replace H := Option.bind_eq_some_iff.mp H
          obtain ⟨t1038, A510, H⟩ := H
          replace H : (if t1038 = true then (some (t1024 == t1035)) else (none)) = some r := H
          have A51 := am A510
          clear A510
          by_cases c52 : t1038 = true
          · subst c52
            have H1 : (some (t1024 == t1035)) = some r := by rw [if_pos rfl] at H; exact H
            clear H
            have H := H1
            clear H1
            obtain rfl := Option.some.inj H
            have hnb53 := NB1025_1014.out
            have hnc53 := NB1014_1025.out
            have hnb54 := NB1025_1036.out
            have hnc54 := NB1036_1025.out
            have hcz55_0 : wc.cell? ⟨gb1025, 0, none⟩ = some (.slice Ao15 t1015.length co15) := (blk_cell BK1025.out 0).trans rfl
            have hcz55_1 : wc.cell? ⟨gb1025, 1, none⟩ = some (.slice Ao18 t1018.length co18) := (blk_cell BK1025.out 1).trans rfl
            have hcz55_2 : wc.cell? ⟨gb1025, 2, none⟩ = some (.slice Ao19 t1021.length co19) := (blk_cell BK1025.out 2).trans rfl
            have hfz55_0 := blk_frozen BK1025.out 0
            have hfz55_1 := blk_frozen BK1025.out 1
            have hfz55_2 := blk_frozen BK1025.out 2
            have hnb56 := NB1036_1014.out
            have hnc56 := NB1014_1036.out
            have hcz57_0 : wc.cell? ⟨gb1036, 0, none⟩ = some (.slice Ao23 t1026.length co23) := (blk_cell BK1036.out 0).trans rfl
            have hcz57_1 : wc.cell? ⟨gb1036, 1, none⟩ = some (.slice Ao27 t1029.length co27) := (blk_cell BK1036.out 1).trans rfl
            have hcz57_2 : wc.cell? ⟨gb1036, 2, none⟩ = some (.slice Ao28 t1032.length co28) := (blk_cell BK1036.out 2).trans rfl
            have hfz57_0 := blk_frozen BK1036.out 0
            have hfz57_1 := blk_frozen BK1036.out 1
            have hfz57_2 := blk_frozen BK1036.out 2
            go_wp2_with (first | ((with_reducible refine gate_callee (f := 17) rfl ?_); refine goesL_ (some 50) rfl rfl Try.func17 (by kernel_rfl) rfl #[.agg #[.slice Ao15 t1015.length co15, .slice Ao18 t1018.length co18, .slice Ao19 t1021.length co19], .agg #[.slice Ao23 t1026.length co23, .slice Ao27 t1029.length co27, .slice Ao28 t1032.length co28]] rfl (by (try simp only [List.map_toArray, List.map_cons, List.map_nil]); first | done | rfl | (simp only [List.length_drop, List.length_take]; rfl)) ?_; (with_reducible refine (impl_HeapSame.calls kj5 _ _ t1015 _ _ t1018 _ _ t1021 _ _ t1026 _ _ t1029 _ _ t1032 true _ ?side1 ?side2 ?side3 ?side4 ?side5 ?side6 ?side7 ?side8 ?side9 ?side10 ?side11 ?side12 A51.out).mono ?_); (case side1 => repeat (first | exact (Kd.R_reads' HO_1026000.out).2.2 | (with_reducible refine Kd.C_alloc ?_ _) | (with_reducible refine Kd.C_drewN ?_ _) | (with_reducible refine Kd.C_drew ?_))); (case side2 => exact (Kd.R_reads' HO_1026000.out).2.1); (case side3 => repeat (first | exact (Kd.R_reads' HO_1026001.out).2.2 | (with_reducible refine Kd.C_alloc ?_ _) | (with_reducible refine Kd.C_drewN ?_ _) | (with_reducible refine Kd.C_drew ?_))); (case side4 => exact (Kd.R_reads' HO_1026001.out).2.1); (case side5 => repeat (first | exact (Kd.R_reads' HO_1026002.out).2.2 | (with_reducible refine Kd.C_alloc ?_ _) | (with_reducible refine Kd.C_drewN ?_ _) | (with_reducible refine Kd.C_drew ?_))); (case side6 => exact (Kd.R_reads' HO_1026002.out).2.1); (case side7 => repeat (first | exact (Kd.R_reads' HO_1037000.out).2.2 | (with_reducible refine Kd.C_alloc ?_ _) | (with_reducible refine Kd.C_drewN ?_ _) | (with_reducible refine Kd.C_drew ?_))); (case side8 => exact (Kd.R_reads' HO_1037000.out).2.1); (case side9 => repeat (first | exact (Kd.R_reads' HO_1037001.out).2.2 | (with_reducible refine Kd.C_alloc ?_ _) | (with_reducible refine Kd.C_drewN ?_ _) | (with_reducible refine Kd.C_drew ?_))); (case side10 => exact (Kd.R_reads' HO_1037001.out).2.1); (case side11 => repeat (first | exact (Kd.R_reads' HO_1037002.out).2.2 | (with_reducible refine Kd.C_alloc ?_ _) | (with_reducible refine Kd.C_drewN ?_ _) | (with_reducible refine Kd.C_drew ?_))); (case side12 => exact (Kd.R_reads' HO_1037002.out).2.1); rintro e w58 ⟨rfl, hb⟩; refine ⟨_, rfl, ?_⟩; have n0_ := am (Kd.R_below (rl HO_1015000.out) hb); have n1_ := am (Kd.R_below (rl HO_1015001.out) hb); have n2_ := am (Kd.R_below (rl HO_1015002.out) hb); have n3_ := am (Kd.R_below (rl HO_1026000.out) hb); have n4_ := am (Kd.R_below (rl HO_1026001.out) hb); have n5_ := am (Kd.R_below (rl HO_1026002.out) hb); have n6_ := am (Kd.R_below (rl HO_1037000.out) hb); have n7_ := am (Kd.R_below (rl HO_1037001.out) hb); have n8_ := am (Kd.R_below (rl HO_1037002.out) hb); have n9_ := am (blk_below (g := gb1014) (o := .cells #[.slice Ao9 t1003.length co9, .slice Ao11 t1006.length co11, .slice Ao12 t1009.length co12] 28 (0, 0)) (kl BK1014.out) hb); have n10_ := am (blk_below (g := gb1025) (o := .cells #[.slice Ao15 t1015.length co15, .slice Ao18 t1018.length co18, .slice Ao19 t1021.length co19] 28 (0, 0)) (kl BK1025.out) hb); have n11_ := am (blk_below (g := gb1036) (o := .cells #[.slice Ao23 t1026.length co23, .slice Ao27 t1029.length co27, .slice Ao28 t1032.length co28] 28 (0, 0)) (kl BK1036.out) hb); have n12_ := am (below_step (by repeat (first | (with_reducible first | exact HB.out | apply below_alloc | apply pw_below_drewN | apply below_drew1 | refine below_set ?_ GE1014.out | refine below_set ?_ GE1025.out | refine below_set ?_ GE1036.out) | exact HB.out)) hb); clear HO_1015000; clear HO_1015001; clear HO_1015002; clear HO_1026000; clear HO_1026001; clear HO_1026002; clear HO_1037000; clear HO_1037001; clear HO_1037002; clear BK1014; clear BK1025; clear BK1036; clear HB; have HO_1015000 := n0_; have HO_1015001 := n1_; have HO_1015002 := n2_; have HO_1026000 := n3_; have HO_1026001 := n4_; have HO_1026002 := n5_; have HO_1037000 := n6_; have HO_1037001 := n7_; have HO_1037002 := n8_; have BK1014 := n9_; have BK1025 := n10_; have BK1036 := n11_; have HB := n12_; clear n0_ n1_ n2_ n3_ n4_ n5_ n6_ n7_ n8_ n9_ n10_ n11_ n12_; (try clear hb); (try clear hb2); (try clear hk); (try clear hi)))
            go_ret
            exact ⟨by first | rfl | (simp [errW_none, errW_some] <;> rfl) | (simp [*, errW_none, errW_some] <;> rfl), by repeat (first | (with_reducible first | exact HB.out | apply below_alloc | apply pw_below_drewN | apply below_drew1 | refine below_set ?_ GE1014.out | refine below_set ?_ GE1025.out | refine below_set ?_ GE1036.out) | exact HB.out)⟩
          · replace c52 := Bool.eq_false_iff.mpr c52
            subst c52
            have H1 : (none) = some r := by rw [if_neg (show ¬ (false = true) by decide)] at H; exact H
            clear H
            have H := H1
            clear H1
            exact absurd H (by simp)
        · replace c50 := Bool.eq_false_iff.mpr c50
          subst c50
          have H1 : (if 0 ≤ t1012 then (if t1012 < (t1003.length : Int) then ((impl_PutLeft.f kj5 t1015 t1018 t1021 t1012 (rd t1003 t1012)).bind fun bt1040 => ((impl_HeapValid.f kj5 t1015 t1018 t1021).bind fun t1051 => (if t1051 = true then (if t1012 < (t1015.length : Int) then (if (rd t1015 t1012) = t1013 then (if bt1040.2.2.2 = true then ((impl_HeapSame.f kj5 bt1040.1 bt1040.2.1 bt1040.2.2.1 t1003 t1006 t1009).bind fun t1053 => (some t1053)) else (none)) else (none)) else (none)) else (none)))) else (none)) else (none)) = some r := by rw [if_neg (show ¬ (false = true) by decide)] at H; exact H
          clear H
          have H := H1
          clear H1
          by_cases c59 : 0 ≤ t1012
          · rw [if_pos c59] at H
            have c59b0 : decide (0 ≤ t1012) = true := decide_eq_true c59
            clear c59
            by_cases c60 : t1012 < (t1003.length : Int)
            · rw [if_pos c60] at H
              have c60b0 : decide (t1012 < (t1003.length : Int)) = true := decide_eq_true c60
              clear c60
              replace H := Option.bind_eq_some_iff.mp H
              obtain ⟨⟨t1040, t1043, t1046, t1049⟩, A610, H⟩ := H
              replace H : ((impl_HeapValid.f kj5 t1015 t1018 t1021).bind fun t1051 => (if t1051 = true then (if t1012 < (t1015.length : Int) then (if (rd t1015 t1012) = t1013 then (if t1049 = true then ((impl_HeapSame.f kj5 t1040 t1043 t1046 t1003 t1006 t1009).bind fun t1053 => (some t1053)) else (none)) else (none)) else (none)) else (none))) = some r := H
              have A61 := am A610
              clear A610
              replace H := Option.bind_eq_some_iff.mp H
              obtain ⟨t1051, A620, H⟩ := H
              replace H : (if t1051 = true then (if t1012 < (t1015.length : Int) then (if (rd t1015 t1012) = t1013 then (if t1049 = true then ((impl_HeapSame.f kj5 t1040 t1043 t1046 t1003 t1006 t1009).bind fun t1053 => (some t1053)) else (none)) else (none)) else (none)) else (none)) = some r := H
              have A62 := am A620
              clear A620
              by_cases c63 : t1051 = true
              · subst c63
                have H1 : (if t1012 < (t1015.length : Int) then (if (rd t1015 t1012) = t1013 then (if t1049 = true then ((impl_HeapSame.f kj5 t1040 t1043 t1046 t1003 t1006 t1009).bind fun t1053 => (some t1053)) else (none)) else (none)) else (none)) = some r := by rw [if_pos rfl] at H; exact H
                clear H
                have H := H1
                clear H1
                by_cases c64 : t1012 < (t1015.length : Int)
                · rw [if_pos c64] at H
                  have c64b0 : decide (t1012 < (t1015.length : Int)) = true := decide_eq_true c64
                  clear c64
                  by_cases c65 : (rd t1015 t1012) = t1013
                  · rw [if_pos c65] at H
                    have c65b0 : ((rd t1015 t1012) == t1013) = true := beq_iff_eq.mpr c65
                    have c65b1 : ((rd t1015 t1012) != t1013) = false := bne_eq_false_iff_eq.mpr c65
                    clear c65
                    by_cases c66 : t1049 = true
                    · subst c66
                      have H1 : ((impl_HeapSame.f kj5 t1040 t1043 t1046 t1003 t1006 t1009).bind fun t1053 => (some t1053)) = some r := by rw [if_pos rfl] at H; exact H
                      clear H
                      have H := H1
                      clear H1
                      replace H := Option.bind_eq_some_iff.mp H
                      obtain ⟨t1053, A670, H⟩ := H
                      replace H : (some t1053) = some r := H
                      have A67 := am A670
                      clear A670
                      obtain rfl := Option.some.inj H
                      try go_wp2
                      have n0_ := am (Kd.R_drew HO_1015000.out)
                      have n1_ := am (Kd.R_drew HO_1015001.out)
                      have n2_ := am (Kd.R_drew HO_1015002.out)
                      have n3_ := am (Kd.R_drew HO_1026000.out)
                      have n4_ := am (Kd.R_drew HO_1026001.out)
                      have n5_ := am (Kd.R_drew HO_1026002.out)
                      have n6_ := am (Kd.R_drew HO_1037000.out)
                      have n7_ := am (Kd.R_drew HO_1037001.out)
                      have n8_ := am (Kd.R_drew HO_1037002.out)
                      have n9_ := am (blk_drew BK1014.out)
                      have n10_ := am (blk_drew BK1025.out)
                      have n11_ := am (blk_drew BK1036.out)
                      have n12_ := am (below_drew1 HB.out)
                      clear HO_1015000
                      clear HO_1015001
                      clear HO_1015002
                      clear HO_1026000
                      clear HO_1026001
                      clear HO_1026002
                      clear HO_1037000
                      clear HO_1037001
                      clear HO_1037002
                      clear BK1014
                      clear BK1025
                      clear BK1036
                      clear HB
                      have HO_1015000 := n0_
                      have HO_1015001 := n1_
                      have HO_1015002 := n2_
                      have HO_1026000 := n3_
                      have HO_1026001 := n4_
                      have HO_1026002 := n5_
                      have HO_1037000 := n6_
                      have HO_1037001 := n7_
                      have HO_1037002 := n8_
                      have BK1014 := n9_
                      have BK1025 := n10_
                      have BK1036 := n11_
                      have HB := n12_
                      clear n0_ n1_ n2_ n3_ n4_ n5_ n6_ n7_ n8_ n9_ n10_ n11_ n12_
                      have p1039 : 0 ≤ (t1012 : Int) := of_decide_eq_true (by first | (with_reducible assumption) | assumption)
                      have q1039 : t1012 < (t1003.length : Int) := of_decide_eq_true (by first | (with_reducible assumption) | assumption)
                      obtain ⟨ad1039, e1039, hx1039_0⟩ := Kd.at_int (Kd.R_reads' HO_1015000.out).2.2 t1012 p1039 q1039
                      cases e1039
                      replace p1039 := eq_true p1039
                      replace q1039 := eq_true q1039
                      refine start_ (n := 14) (S := fun w' => w'.cell? ⟨gb1025, 0, none⟩ = some (.slice Ao15 t1015.length co15) ∧ w'.cell? ⟨gb1025, 1, none⟩ = some (.slice Ao18 t1018.length co18) ∧ w'.cell? ⟨gb1025, 2, none⟩ = some (.slice Ao19 t1021.length co19) ∧ w'.cell? ⟨gb1014, 0, none⟩ = some (.slice (some ad1039) t1003.length co9) ∧ w'.cell? ⟨gb1014, 1, none⟩ = some (.slice Ao11 t1006.length co11) ∧ w'.cell? ⟨gb1014, 2, none⟩ = some (.slice Ao12 t1009.length co12) ∧ w'.cell? (ad1039.add (t1012).toNat) = some (.int .i64 (rd t1003 t1012))) (ds := []) #[false, false, false, false, false, false, false, false, false, false, false, false, false, false] (by kernel_rfl) rfl rfl ⟨(blk_cell BK1025.out 0).trans rfl, (blk_cell BK1025.out 1).trans rfl, (blk_cell BK1025.out 2).trans rfl, (blk_cell BK1014.out 0).trans rfl, (blk_cell BK1014.out 1).trans rfl, (blk_cell BK1014.out 2).trans rfl, hx1039_0⟩ (fun hHeld => ?_); refine with_tabW laws_FnPutLeft.tab8 laws_FnPutLeft.bits8 (fun HT_ HW_ => ?_)
                      generalize wc.drew = w68 at HO_1015000 HO_1015001 HO_1015002 HO_1026000 HO_1026001 HO_1026002 HO_1037000 HO_1037001 HO_1037002 BK1014 BK1025 BK1036 HB hx1039_0 hHeld ⊢
                      refine pure_ (i := 1) (N := some 58) (v := ?_) (a' := ?_) #[false, true, false, false, false, false, false, false, false, false, false, false, false, false] rfl rfl (any_of HT_.out (by kernel_rfl)) (fun _ _ _ h => h) (Or.inl ⟨by rfl, ?_⟩) ?_ ?_
                      rotate_left
                      · intro w'
                        go_simp
                        with_reducible rfl
                      rotate_left
                      · simp only [Act.put, List.setIfInBounds_toArray, List.set_cons_zero, List.set_cons_succ, i64_w, i32_w]
                        rfl
                      refine pure_ (i := 2) (N := some 59) (v := ?_) (a' := ?_) #[false, true, true, false, false, false, false, false, false, false, false, false, false, false] rfl rfl (any_of HT_.out (by kernel_rfl)) (fun _ _ _ h => h) (Or.inl ⟨by rfl, ?_⟩) ?_ ?_
                      rotate_left
                      · intro w'
                        go_simp
                        with_reducible rfl
                      rotate_left
                      · simp only [Act.put, List.setIfInBounds_toArray, List.set_cons_zero, List.set_cons_succ, i64_w, i32_w]
                        rfl
                      refine pure_ (i := 4) (N := some 61) (v := ?_) (a' := ?_) #[false, true, true, false, true, false, false, false, false, false, false, false, false, false] rfl rfl (any_of HT_.out (by kernel_rfl)) (fun _ _ _ h => h) (Or.inl ⟨by rfl, ?_⟩) ?_ ?_
                      rotate_left
                      · intro w'
                        go_simp
                        with_reducible rfl
                      rotate_left
                      · simp only [Act.put, List.setIfInBounds_toArray, List.set_cons_zero, List.set_cons_succ, i64_w, i32_w]
                        rfl
                      refine take_ (i := 0) (N := some 57) (v := ?_) (a' := ?_) #[true, true, true, false, true, false, false, false, false, false, false, false, false, false] rfl rfl (take_ofW HT_.out HW_.out (by kernel_rfl)) (fun _ _ _ h => h) (Or.inl ⟨by rfl, ?_⟩) hHeld ?_ ?_
                      rotate_left
                      · rintro w' ⟨s0, s1, s2, s3, s4, s5, s6⟩
                        go_simp
                        with_reducible rfl
                      rotate_left
                      · simp only [Act.put, List.setIfInBounds_toArray, List.set_cons_zero, List.set_cons_succ, i64_w, i32_w]
                        rfl
                      refine take_ (i := 3) (N := some 60) (v := ?_) (a' := ?_) #[true, true, true, true, true, false, false, false, false, false, false, false, false, false] rfl rfl (take_ofW HT_.out HW_.out (by kernel_rfl)) (fun _ _ _ h => h) (Or.inl ⟨by rfl, ?_⟩) hHeld ?_ ?_
                      rotate_left
                      · rintro w' ⟨s0, s1, s2, s3, s4, s5, s6⟩
                        go_simp
                        with_reducible rfl
                      rotate_left
                      · simp only [Act.put, List.setIfInBounds_toArray, List.set_cons_zero, List.set_cons_succ, i64_w, i32_w]
                        rfl
                      refine pure_ (i := 5) (N := some 62) (v := ?_) (a' := ?_) #[true, true, true, true, true, true, false, false, false, false, false, false, false, false] rfl rfl (any_of HT_.out (by kernel_rfl)) (fun _ _ _ h => h) (Or.inl ⟨by rfl, ?_⟩) ?_ ?_
                      rotate_left
                      · intro w'
                        go_simp
                        with_reducible rfl
                      rotate_left
                      · simp only [Act.put, List.setIfInBounds_toArray, List.set_cons_zero, List.set_cons_succ, i64_w, i32_w]
                        rfl
                      refine take_ (i := 6) (N := some 63) (v := ?_) (a' := ?_) #[true, true, true, true, true, true, true, false, false, false, false, false, false, false] rfl rfl (take_ofW HT_.out HW_.out (by kernel_rfl)) (fun _ _ _ h => h) (Or.inl ⟨by rfl, ?_⟩) hHeld ?_ ?_
                      rotate_left
                      · rintro w' ⟨s0, s1, s2, s3, s4, s5, s6⟩
                        go_simp
                        with_reducible rfl
                      rotate_left
                      · simp only [Act.put, List.setIfInBounds_toArray, List.set_cons_zero, List.set_cons_succ, i64_w, i32_w]
                        rfl
                      refine join_ (σ := Value × Value × Value × Nat) 2 #[true, true, true, true, true, true, true, true, true, true, true, true, false, false] (fun s_ => [(64, .tuple #[.agg #[s_.1, s_.2.1, s_.2.2.1], .bool true]), (10, .pointer (some ⟨s_.2.2.2, 0, none⟩)), (56, .tuple #[.agg #[s_.1, s_.2.1, s_.2.2.1], .bool true]), (65, .agg #[s_.1, s_.2.1, s_.2.2.1]), (66, .bool true)]) (fun s_ w' => (w'.cell? ⟨gb1025, 0, none⟩ = some (.slice Ao15 t1015.length co15) ∧ w'.cell? ⟨gb1025, 1, none⟩ = some (.slice Ao18 t1018.length co18) ∧ w'.cell? ⟨gb1025, 2, none⟩ = some (.slice Ao19 t1021.length co19) ∧ w'.cell? ⟨gb1014, 0, none⟩ = some (.slice (some ad1039) t1003.length co9) ∧ w'.cell? ⟨gb1014, 1, none⟩ = some (.slice Ao11 t1006.length co11) ∧ w'.cell? ⟨gb1014, 2, none⟩ = some (.slice Ao12 t1009.length co12) ∧ w'.cell? (ad1039.add (t1012).toNat) = some (.int .i64 (rd t1003 t1012))) ∧ (Kd.R (Kd.int .i64) 3 w' w.heap.size (fun k_ => some k_ ≠ (s_.2.1 : Value).ownBlock ∧ some k_ ≠ (s_.2.2.1 : Value).ownBlock ∧ some k_ ≠ (.slice (some ad1039) t1003.length co9 : Value).ownBlock ∧ some k_ ≠ (.slice Ao11 t1006.length co11 : Value).ownBlock ∧ some k_ ≠ (.slice Ao12 t1009.length co12 : Value).ownBlock ∧ some k_ ≠ (.slice Ao15 t1015.length co15 : Value).ownBlock ∧ some k_ ≠ (.slice Ao18 t1018.length co18 : Value).ownBlock ∧ some k_ ≠ (.slice Ao19 t1021.length co19 : Value).ownBlock ∧ some k_ ≠ (.slice Ao23 t1026.length co23 : Value).ownBlock ∧ some k_ ≠ (.slice Ao27 t1029.length co27 : Value).ownBlock ∧ some k_ ≠ (.slice Ao28 t1032.length co28 : Value).ownBlock) s_.1 t1040) ∧ (Kd.R (Kd.int .i64) 3 w' w.heap.size (fun k_ => some k_ ≠ (s_.1 : Value).ownBlock ∧ some k_ ≠ (s_.2.2.1 : Value).ownBlock ∧ some k_ ≠ (.slice (some ad1039) t1003.length co9 : Value).ownBlock ∧ some k_ ≠ (.slice Ao11 t1006.length co11 : Value).ownBlock ∧ some k_ ≠ (.slice Ao12 t1009.length co12 : Value).ownBlock ∧ some k_ ≠ (.slice Ao15 t1015.length co15 : Value).ownBlock ∧ some k_ ≠ (.slice Ao18 t1018.length co18 : Value).ownBlock ∧ some k_ ≠ (.slice Ao19 t1021.length co19 : Value).ownBlock ∧ some k_ ≠ (.slice Ao23 t1026.length co23 : Value).ownBlock ∧ some k_ ≠ (.slice Ao27 t1029.length co27 : Value).ownBlock ∧ some k_ ≠ (.slice Ao28 t1032.length co28 : Value).ownBlock) s_.2.1 t1043) ∧ (Kd.R (Kd.int .i64) 3 w' w.heap.size (fun k_ => some k_ ≠ (s_.1 : Value).ownBlock ∧ some k_ ≠ (s_.2.1 : Value).ownBlock ∧ some k_ ≠ (.slice (some ad1039) t1003.length co9 : Value).ownBlock ∧ some k_ ≠ (.slice Ao11 t1006.length co11 : Value).ownBlock ∧ some k_ ≠ (.slice Ao12 t1009.length co12 : Value).ownBlock ∧ some k_ ≠ (.slice Ao15 t1015.length co15 : Value).ownBlock ∧ some k_ ≠ (.slice Ao18 t1018.length co18 : Value).ownBlock ∧ some k_ ≠ (.slice Ao19 t1021.length co19 : Value).ownBlock ∧ some k_ ≠ (.slice Ao23 t1026.length co23 : Value).ownBlock ∧ some k_ ≠ (.slice Ao27 t1029.length co27 : Value).ownBlock ∧ some k_ ≠ (.slice Ao28 t1032.length co28 : Value).ownBlock) s_.2.2.1 t1046) ∧ (Kd.R (Kd.int .i64) 3 w' w.heap.size (fun k_ => some k_ ≠ (s_.1 : Value).ownBlock ∧ some k_ ≠ (s_.2.1 : Value).ownBlock ∧ some k_ ≠ (s_.2.2.1 : Value).ownBlock ∧ some k_ ≠ (.slice Ao11 t1006.length co11 : Value).ownBlock ∧ some k_ ≠ (.slice Ao12 t1009.length co12 : Value).ownBlock ∧ some k_ ≠ (.slice Ao15 t1015.length co15 : Value).ownBlock ∧ some k_ ≠ (.slice Ao18 t1018.length co18 : Value).ownBlock ∧ some k_ ≠ (.slice Ao19 t1021.length co19 : Value).ownBlock ∧ some k_ ≠ (.slice Ao23 t1026.length co23 : Value).ownBlock ∧ some k_ ≠ (.slice Ao27 t1029.length co27 : Value).ownBlock ∧ some k_ ≠ (.slice Ao28 t1032.length co28 : Value).ownBlock) (.slice (some ad1039) t1003.length co9) t1003) ∧ (Kd.R (Kd.int .i64) 3 w' w.heap.size (fun k_ => some k_ ≠ (s_.1 : Value).ownBlock ∧ some k_ ≠ (s_.2.1 : Value).ownBlock ∧ some k_ ≠ (s_.2.2.1 : Value).ownBlock ∧ some k_ ≠ (.slice (some ad1039) t1003.length co9 : Value).ownBlock ∧ some k_ ≠ (.slice Ao12 t1009.length co12 : Value).ownBlock ∧ some k_ ≠ (.slice Ao15 t1015.length co15 : Value).ownBlock ∧ some k_ ≠ (.slice Ao18 t1018.length co18 : Value).ownBlock ∧ some k_ ≠ (.slice Ao19 t1021.length co19 : Value).ownBlock ∧ some k_ ≠ (.slice Ao23 t1026.length co23 : Value).ownBlock ∧ some k_ ≠ (.slice Ao27 t1029.length co27 : Value).ownBlock ∧ some k_ ≠ (.slice Ao28 t1032.length co28 : Value).ownBlock) (.slice Ao11 t1006.length co11) t1006) ∧ (Kd.R (Kd.int .i64) 3 w' w.heap.size (fun k_ => some k_ ≠ (s_.1 : Value).ownBlock ∧ some k_ ≠ (s_.2.1 : Value).ownBlock ∧ some k_ ≠ (s_.2.2.1 : Value).ownBlock ∧ some k_ ≠ (.slice (some ad1039) t1003.length co9 : Value).ownBlock ∧ some k_ ≠ (.slice Ao11 t1006.length co11 : Value).ownBlock ∧ some k_ ≠ (.slice Ao15 t1015.length co15 : Value).ownBlock ∧ some k_ ≠ (.slice Ao18 t1018.length co18 : Value).ownBlock ∧ some k_ ≠ (.slice Ao19 t1021.length co19 : Value).ownBlock ∧ some k_ ≠ (.slice Ao23 t1026.length co23 : Value).ownBlock ∧ some k_ ≠ (.slice Ao27 t1029.length co27 : Value).ownBlock ∧ some k_ ≠ (.slice Ao28 t1032.length co28 : Value).ownBlock) (.slice Ao12 t1009.length co12) t1009) ∧ (Kd.R (Kd.int .i64) 3 w' w.heap.size (fun k_ => some k_ ≠ (s_.1 : Value).ownBlock ∧ some k_ ≠ (s_.2.1 : Value).ownBlock ∧ some k_ ≠ (s_.2.2.1 : Value).ownBlock ∧ some k_ ≠ (.slice (some ad1039) t1003.length co9 : Value).ownBlock ∧ some k_ ≠ (.slice Ao11 t1006.length co11 : Value).ownBlock ∧ some k_ ≠ (.slice Ao12 t1009.length co12 : Value).ownBlock ∧ some k_ ≠ (.slice Ao18 t1018.length co18 : Value).ownBlock ∧ some k_ ≠ (.slice Ao19 t1021.length co19 : Value).ownBlock ∧ some k_ ≠ (.slice Ao23 t1026.length co23 : Value).ownBlock ∧ some k_ ≠ (.slice Ao27 t1029.length co27 : Value).ownBlock ∧ some k_ ≠ (.slice Ao28 t1032.length co28 : Value).ownBlock) (.slice Ao15 t1015.length co15) t1015) ∧ (Kd.R (Kd.int .i64) 3 w' w.heap.size (fun k_ => some k_ ≠ (s_.1 : Value).ownBlock ∧ some k_ ≠ (s_.2.1 : Value).ownBlock ∧ some k_ ≠ (s_.2.2.1 : Value).ownBlock ∧ some k_ ≠ (.slice (some ad1039) t1003.length co9 : Value).ownBlock ∧ some k_ ≠ (.slice Ao11 t1006.length co11 : Value).ownBlock ∧ some k_ ≠ (.slice Ao12 t1009.length co12 : Value).ownBlock ∧ some k_ ≠ (.slice Ao15 t1015.length co15 : Value).ownBlock ∧ some k_ ≠ (.slice Ao19 t1021.length co19 : Value).ownBlock ∧ some k_ ≠ (.slice Ao23 t1026.length co23 : Value).ownBlock ∧ some k_ ≠ (.slice Ao27 t1029.length co27 : Value).ownBlock ∧ some k_ ≠ (.slice Ao28 t1032.length co28 : Value).ownBlock) (.slice Ao18 t1018.length co18) t1018) ∧ (Kd.R (Kd.int .i64) 3 w' w.heap.size (fun k_ => some k_ ≠ (s_.1 : Value).ownBlock ∧ some k_ ≠ (s_.2.1 : Value).ownBlock ∧ some k_ ≠ (s_.2.2.1 : Value).ownBlock ∧ some k_ ≠ (.slice (some ad1039) t1003.length co9 : Value).ownBlock ∧ some k_ ≠ (.slice Ao11 t1006.length co11 : Value).ownBlock ∧ some k_ ≠ (.slice Ao12 t1009.length co12 : Value).ownBlock ∧ some k_ ≠ (.slice Ao15 t1015.length co15 : Value).ownBlock ∧ some k_ ≠ (.slice Ao18 t1018.length co18 : Value).ownBlock ∧ some k_ ≠ (.slice Ao23 t1026.length co23 : Value).ownBlock ∧ some k_ ≠ (.slice Ao27 t1029.length co27 : Value).ownBlock ∧ some k_ ≠ (.slice Ao28 t1032.length co28 : Value).ownBlock) (.slice Ao19 t1021.length co19) t1021) ∧ (Kd.R (Kd.int .i64) 3 w' w.heap.size (fun k_ => some k_ ≠ (s_.1 : Value).ownBlock ∧ some k_ ≠ (s_.2.1 : Value).ownBlock ∧ some k_ ≠ (s_.2.2.1 : Value).ownBlock ∧ some k_ ≠ (.slice (some ad1039) t1003.length co9 : Value).ownBlock ∧ some k_ ≠ (.slice Ao11 t1006.length co11 : Value).ownBlock ∧ some k_ ≠ (.slice Ao12 t1009.length co12 : Value).ownBlock ∧ some k_ ≠ (.slice Ao15 t1015.length co15 : Value).ownBlock ∧ some k_ ≠ (.slice Ao18 t1018.length co18 : Value).ownBlock ∧ some k_ ≠ (.slice Ao19 t1021.length co19 : Value).ownBlock ∧ some k_ ≠ (.slice Ao27 t1029.length co27 : Value).ownBlock ∧ some k_ ≠ (.slice Ao28 t1032.length co28 : Value).ownBlock) (.slice Ao23 t1026.length co23) t1026) ∧ (Kd.R (Kd.int .i64) 3 w' w.heap.size (fun k_ => some k_ ≠ (s_.1 : Value).ownBlock ∧ some k_ ≠ (s_.2.1 : Value).ownBlock ∧ some k_ ≠ (s_.2.2.1 : Value).ownBlock ∧ some k_ ≠ (.slice (some ad1039) t1003.length co9 : Value).ownBlock ∧ some k_ ≠ (.slice Ao11 t1006.length co11 : Value).ownBlock ∧ some k_ ≠ (.slice Ao12 t1009.length co12 : Value).ownBlock ∧ some k_ ≠ (.slice Ao15 t1015.length co15 : Value).ownBlock ∧ some k_ ≠ (.slice Ao18 t1018.length co18 : Value).ownBlock ∧ some k_ ≠ (.slice Ao19 t1021.length co19 : Value).ownBlock ∧ some k_ ≠ (.slice Ao23 t1026.length co23 : Value).ownBlock ∧ some k_ ≠ (.slice Ao28 t1032.length co28 : Value).ownBlock) (.slice Ao27 t1029.length co27) t1029) ∧ (Kd.R (Kd.int .i64) 3 w' w.heap.size (fun k_ => some k_ ≠ (s_.1 : Value).ownBlock ∧ some k_ ≠ (s_.2.1 : Value).ownBlock ∧ some k_ ≠ (s_.2.2.1 : Value).ownBlock ∧ some k_ ≠ (.slice (some ad1039) t1003.length co9 : Value).ownBlock ∧ some k_ ≠ (.slice Ao11 t1006.length co11 : Value).ownBlock ∧ some k_ ≠ (.slice Ao12 t1009.length co12 : Value).ownBlock ∧ some k_ ≠ (.slice Ao15 t1015.length co15 : Value).ownBlock ∧ some k_ ≠ (.slice Ao18 t1018.length co18 : Value).ownBlock ∧ some k_ ≠ (.slice Ao19 t1021.length co19 : Value).ownBlock ∧ some k_ ≠ (.slice Ao23 t1026.length co23 : Value).ownBlock ∧ some k_ ≠ (.slice Ao27 t1029.length co27 : Value).ownBlock) (.slice Ao28 t1032.length co28) t1032) ∧ (w'.heap[gb1014]? = some (.cells #[.slice (some ad1039) t1003.length co9, .slice Ao11 t1006.length co11, .slice Ao12 t1009.length co12] 28 (0, 0))) ∧ (w'.heap[gb1025]? = some (.cells #[.slice Ao15 t1015.length co15, .slice Ao18 t1018.length co18, .slice Ao19 t1021.length co19] 28 (0, 0))) ∧ (w'.heap[gb1036]? = some (.cells #[.slice Ao23 t1026.length co23, .slice Ao27 t1029.length co27, .slice Ao28 t1032.length co28] 28 (0, 0))) ∧ (w'.heap[s_.2.2.2]? = some (.cells #[.slice none 0 0, .slice none 0 0, .slice none 0 0] 28 (0, 0))) ∧ (w.heap.size ≤ s_.2.2.2) ∧ (w.heap.size ≤ s_.2.2.2) ∧ (gb1014 ≠ s_.2.2.2) ∧ (s_.2.2.2 ≠ gb1014) ∧ (gb1025 ≠ s_.2.2.2) ∧ (s_.2.2.2 ≠ gb1025) ∧ (gb1036 ≠ s_.2.2.2) ∧ (s_.2.2.2 ≠ gb1036) ∧ (Below w.heap.size w w')) ?_ ?_
                      rotate_left
                      · intro hCont
                        refine two_ (i := 7) (j := 11) (Ni := some 64) (Nj := some 10) #[true, true, true, true, true, true, true, true, false, false, false, false, false, false] #[true, true, true, true, true, true, true, false, false, false, false, true, false, false] rfl rfl rfl rfl (two_of HT_.out (by kernel_rfl)) (by decide) (by decide) (fun K hK => ?_) (fun K hK => ?_)
                        · skip
                          refine goes_ Try.func44 (by kernel_rfl) rfl #[.agg #[.slice Ao15 t1015.length co15, .slice Ao18 t1018.length co18, .slice Ao19 t1021.length co19], .int .i64 t1012, .int .i64 (rd t1003 t1012)] (by rfl) rfl rfl (by (try simp only [List.map_toArray, List.map_cons, List.map_nil]); first | done | rfl | (simp only [List.length_drop, List.length_take]; rfl)) ?_
                          with_reducible refine (impl_PutLeft.calls kj5 _ _ t1015 _ _ t1018 _ _ t1021 t1012 (rd t1003 t1012) t1040 t1043 t1046 true _ ?side1 ?side2 ?side3 ?side4 ?side5 ?side6 A61.out).mono ?_
                          (case side1 => repeat (first | exact (Kd.R_reads' HO_1026000.out).2.2 | (with_reducible refine Kd.C_alloc ?_ _) | (with_reducible refine Kd.C_drewN ?_ _) | (with_reducible refine Kd.C_drew ?_)))
                          (case side2 => exact (Kd.R_reads' HO_1026000.out).2.1)
                          (case side3 => repeat (first | exact (Kd.R_reads' HO_1026001.out).2.2 | (with_reducible refine Kd.C_alloc ?_ _) | (with_reducible refine Kd.C_drewN ?_ _) | (with_reducible refine Kd.C_drew ?_)))
                          (case side4 => exact (Kd.R_reads' HO_1026001.out).2.1)
                          (case side5 => repeat (first | exact (Kd.R_reads' HO_1026002.out).2.2 | (with_reducible refine Kd.C_alloc ?_ _) | (with_reducible refine Kd.C_drewN ?_ _) | (with_reducible refine Kd.C_drew ?_)))
                          (case side6 => exact (Kd.R_reads' HO_1026002.out).2.1)
                          rintro e w69 ⟨v1041, v1044, v1047, rfl, ho0, ho1, ho2, hb⟩
                          have HS6_ := (hb.cell (World.block_lt_of_cell? _ _ (hHeld.2.2.2.2.2.2))).trans (hHeld.2.2.2.2.2.2)
                          refine ⟨_, rfl, ?_⟩
                          have n0_ := am (Kd.R_mono (Kd.R_told (Kd.R_told (Kd.R_told (Kd.R_old (rl HO_1015000.out) hb) (Kd.R_base ho0)) (Kd.R_base ho1)) (Kd.R_base ho2)) (fun _ h_ => h_.1))
                          have n1_ := am (Kd.R_mono (Kd.R_told (Kd.R_told (Kd.R_told (Kd.R_old (rl HO_1015001.out) hb) (Kd.R_base ho0)) (Kd.R_base ho1)) (Kd.R_base ho2)) (fun _ h_ => h_.1))
                          have n2_ := am (Kd.R_mono (Kd.R_told (Kd.R_told (Kd.R_told (Kd.R_old (rl HO_1015002.out) hb) (Kd.R_base ho0)) (Kd.R_base ho1)) (Kd.R_base ho2)) (fun _ h_ => h_.1))
                          have n3_ := am (Kd.R_mono (Kd.R_told (Kd.R_told (Kd.R_told (Kd.R_old (rl HO_1026000.out) hb) (Kd.R_base ho0)) (Kd.R_base ho1)) (Kd.R_base ho2)) (fun _ h_ => h_.1))
                          have n4_ := am (Kd.R_mono (Kd.R_told (Kd.R_told (Kd.R_told (Kd.R_old (rl HO_1026001.out) hb) (Kd.R_base ho0)) (Kd.R_base ho1)) (Kd.R_base ho2)) (fun _ h_ => h_.1))
                          have n5_ := am (Kd.R_mono (Kd.R_told (Kd.R_told (Kd.R_told (Kd.R_old (rl HO_1026002.out) hb) (Kd.R_base ho0)) (Kd.R_base ho1)) (Kd.R_base ho2)) (fun _ h_ => h_.1))
                          have n6_ := am (Kd.R_mono (Kd.R_told (Kd.R_told (Kd.R_told (Kd.R_old (rl HO_1037000.out) hb) (Kd.R_base ho0)) (Kd.R_base ho1)) (Kd.R_base ho2)) (fun _ h_ => h_.1))
                          have n7_ := am (Kd.R_mono (Kd.R_told (Kd.R_told (Kd.R_told (Kd.R_old (rl HO_1037001.out) hb) (Kd.R_base ho0)) (Kd.R_base ho1)) (Kd.R_base ho2)) (fun _ h_ => h_.1))
                          have n8_ := am (Kd.R_mono (Kd.R_told (Kd.R_told (Kd.R_told (Kd.R_old (rl HO_1037002.out) hb) (Kd.R_base ho0)) (Kd.R_base ho1)) (Kd.R_base ho2)) (fun _ h_ => h_.1))
                          have n9_ := am (Kd.R_lower (Kd.R_new' (Kd.R_new' (Kd.R_new' (Kd.R_new' (Kd.R_new' (Kd.R_new' (Kd.R_new' (Kd.R_new' (Kd.R_new' ho0 (Kd.R_lt (rl HO_1015000.out))) (Kd.R_lt (rl HO_1015001.out))) (Kd.R_lt (rl HO_1015002.out))) (Kd.R_lt (rl HO_1026000.out))) (Kd.R_lt (rl HO_1026001.out))) (Kd.R_lt (rl HO_1026002.out))) (Kd.R_lt (rl HO_1037000.out))) (Kd.R_lt (rl HO_1037001.out))) (Kd.R_lt (rl HO_1037002.out))) (below_size (by repeat (first | (with_reducible first | exact HB.out | apply below_alloc | apply pw_below_drewN | apply below_drew1 | refine below_set ?_ GE1014.out | refine below_set ?_ GE1025.out | refine below_set ?_ GE1036.out) | exact HB.out))))
                          have n10_ := am (Kd.R_lower (Kd.R_new' (Kd.R_new' (Kd.R_new' (Kd.R_new' (Kd.R_new' (Kd.R_new' (Kd.R_new' (Kd.R_new' (Kd.R_new' ho1 (Kd.R_lt (rl HO_1015000.out))) (Kd.R_lt (rl HO_1015001.out))) (Kd.R_lt (rl HO_1015002.out))) (Kd.R_lt (rl HO_1026000.out))) (Kd.R_lt (rl HO_1026001.out))) (Kd.R_lt (rl HO_1026002.out))) (Kd.R_lt (rl HO_1037000.out))) (Kd.R_lt (rl HO_1037001.out))) (Kd.R_lt (rl HO_1037002.out))) (below_size (by repeat (first | (with_reducible first | exact HB.out | apply below_alloc | apply pw_below_drewN | apply below_drew1 | refine below_set ?_ GE1014.out | refine below_set ?_ GE1025.out | refine below_set ?_ GE1036.out) | exact HB.out))))
                          have n11_ := am (Kd.R_lower (Kd.R_new' (Kd.R_new' (Kd.R_new' (Kd.R_new' (Kd.R_new' (Kd.R_new' (Kd.R_new' (Kd.R_new' (Kd.R_new' ho2 (Kd.R_lt (rl HO_1015000.out))) (Kd.R_lt (rl HO_1015001.out))) (Kd.R_lt (rl HO_1015002.out))) (Kd.R_lt (rl HO_1026000.out))) (Kd.R_lt (rl HO_1026001.out))) (Kd.R_lt (rl HO_1026002.out))) (Kd.R_lt (rl HO_1037000.out))) (Kd.R_lt (rl HO_1037001.out))) (Kd.R_lt (rl HO_1037002.out))) (below_size (by repeat (first | (with_reducible first | exact HB.out | apply below_alloc | apply pw_below_drewN | apply below_drew1 | refine below_set ?_ GE1014.out | refine below_set ?_ GE1025.out | refine below_set ?_ GE1036.out) | exact HB.out))))
                          have n12_ := am (blk_below (g := gb1014) (o := .cells #[.slice (some ad1039) t1003.length co9, .slice Ao11 t1006.length co11, .slice Ao12 t1009.length co12] 28 (0, 0)) (kl BK1014.out) hb)
                          have n13_ := am (blk_below (g := gb1025) (o := .cells #[.slice Ao15 t1015.length co15, .slice Ao18 t1018.length co18, .slice Ao19 t1021.length co19] 28 (0, 0)) (kl BK1025.out) hb)
                          have n14_ := am (blk_below (g := gb1036) (o := .cells #[.slice Ao23 t1026.length co23, .slice Ao27 t1029.length co27, .slice Ao28 t1032.length co28] 28 (0, 0)) (kl BK1036.out) hb)
                          have n15_ := am (below_step (by repeat (first | (with_reducible first | exact HB.out | apply below_alloc | apply pw_below_drewN | apply below_drew1 | refine below_set ?_ GE1014.out | refine below_set ?_ GE1025.out | refine below_set ?_ GE1036.out) | exact HB.out)) hb)
                          clear HO_1015000
                          clear HO_1015001
                          clear HO_1015002
                          clear HO_1026000
                          clear HO_1026001
                          clear HO_1026002
                          clear HO_1037000
                          clear HO_1037001
                          clear HO_1037002
                          clear BK1014
                          clear BK1025
                          clear BK1036
                          clear HB
                          have HO_1015000 := n0_
                          have HO_1015001 := n1_
                          have HO_1015002 := n2_
                          have HO_1026000 := n3_
                          have HO_1026001 := n4_
                          have HO_1026002 := n5_
                          have HO_1037000 := n6_
                          have HO_1037001 := n7_
                          have HO_1037002 := n8_
                          have HO1042 := n9_
                          have HO1045 := n10_
                          have HO1048 := n11_
                          have BK1014 := n12_
                          have BK1025 := n13_
                          have BK1036 := n14_
                          have HB := n15_
                          clear n0_ n1_ n2_ n3_ n4_ n5_ n6_ n7_ n8_ n9_ n10_ n11_ n12_ n13_ n14_ n15_
                          (try clear hb)
                          (try clear hb2)
                          (try clear hk)
                          (try clear hi)
                          (try clear ho0)
                          (try clear ho1)
                          (try clear ho2)
                          refine hK.out _ _ ⟨(blk_cell BK1025.out 0).trans rfl, (blk_cell BK1025.out 1).trans rfl, (blk_cell BK1025.out 2).trans rfl, (blk_cell BK1014.out 0).trans rfl, (blk_cell BK1014.out 1).trans rfl, (blk_cell BK1014.out 2).trans rfl, HS6_⟩ (fun hHeld => ?_)
                          clear hK K
                          refine norm_ (a' := ?_) ?_ ?_
                          rotate_left
                          · show Act.put _ (some 64) _ = _
                            simp only [Act.put, List.setIfInBounds_toArray, List.set_cons_zero, List.set_cons_succ, i64_w, i32_w]
                            rfl
                          refine pure_ (i := 8) (N := some 56) (v := ?_) (a' := ?_) #[true, true, true, true, true, true, true, true, true, false, false, false, false, false] rfl rfl (any_of HT_.out (by kernel_rfl)) (fun _ _ _ h => h) (Or.inl ⟨by rfl, ?_⟩) ?_ ?_
                          rotate_left
                          · intro w'
                            go_simp
                            with_reducible rfl
                          rotate_left
                          · simp only [Act.put, List.setIfInBounds_toArray, List.set_cons_zero, List.set_cons_succ, i64_w, i32_w]
                            rfl
                          refine pure_ (i := 9) (N := some 65) (v := ?_) (a' := ?_) #[true, true, true, true, true, true, true, true, true, true, false, false, false, false] rfl rfl (any_of HT_.out (by kernel_rfl)) (fun _ _ _ h => h) (Or.inl ⟨by rfl, ?_⟩) ?_ ?_
                          rotate_left
                          · intro w'
                            go_simp
                            with_reducible rfl
                          rotate_left
                          · simp only [Act.put, List.setIfInBounds_toArray, List.set_cons_zero, List.set_cons_succ, i64_w, i32_w]
                            rfl
                          refine pure_ (i := 10) (N := some 66) (v := ?_) (a' := ?_) #[true, true, true, true, true, true, true, true, true, true, true, false, false, false] rfl rfl (any_of HT_.out (by kernel_rfl)) (fun _ _ _ h => h) (Or.inl ⟨by rfl, ?_⟩) ?_ ?_
                          rotate_left
                          · intro w'
                            go_simp
                            with_reducible rfl
                          rotate_left
                          · simp only [Act.put, List.setIfInBounds_toArray, List.set_cons_zero, List.set_cons_succ, i64_w, i32_w]
                            rfl
                          refine one_ (i := 11) (N := some 10) #[true, true, true, true, true, true, true, true, true, true, true, true, false, false] rfl rfl (one_of HT_.out (by kernel_rfl)) (by decide) (fun K hK => ?_)
                          refine box_step ?hg (N := 10) ?hd (cs := #[.slice none 0 0, .slice none 0 0, .slice none 0 0]) (t := 28) ?hr ?_; (case hd => rfl); (case hg => rfl); (case hr => first | (go_simp; done) | (go_simp; rfl))
                          intro gb1050 hg w70 hbox hb
                          have HS6_ := (hb.cell (World.block_lt_of_cell? _ _ (hHeld.2.2.2.2.2.2))).trans (hHeld.2.2.2.2.2.2)
                          have n0_ := am (Kd.R_below (rl HO_1015000.out) hb)
                          have n1_ := am (Kd.R_below (rl HO_1015001.out) hb)
                          have n2_ := am (Kd.R_below (rl HO_1015002.out) hb)
                          have n3_ := am (Kd.R_below (rl HO_1026000.out) hb)
                          have n4_ := am (Kd.R_below (rl HO_1026001.out) hb)
                          have n5_ := am (Kd.R_below (rl HO_1026002.out) hb)
                          have n6_ := am (Kd.R_below (rl HO_1037000.out) hb)
                          have n7_ := am (Kd.R_below (rl HO_1037001.out) hb)
                          have n8_ := am (Kd.R_below (rl HO_1037002.out) hb)
                          have n9_ := am (Kd.R_below (rl HO1042.out) hb)
                          have n10_ := am (Kd.R_below (rl HO1045.out) hb)
                          have n11_ := am (Kd.R_below (rl HO1048.out) hb)
                          have n12_ := am (blk_below (g := gb1014) (o := .cells #[.slice (some ad1039) t1003.length co9, .slice Ao11 t1006.length co11, .slice Ao12 t1009.length co12] 28 (0, 0)) (kl BK1014.out) hb)
                          have n13_ := am (blk_below (g := gb1025) (o := .cells #[.slice Ao15 t1015.length co15, .slice Ao18 t1018.length co18, .slice Ao19 t1021.length co19] 28 (0, 0)) (kl BK1025.out) hb)
                          have n14_ := am (blk_below (g := gb1036) (o := .cells #[.slice Ao23 t1026.length co23, .slice Ao27 t1029.length co27, .slice Ao28 t1032.length co28] 28 (0, 0)) (kl BK1036.out) hb)
                          have n15_ := am (below_step (by repeat (first | (with_reducible first | exact HB.out | apply below_alloc | apply pw_below_drewN | apply below_drew1 | refine below_set ?_ GE1014.out | refine below_set ?_ GE1025.out | refine below_set ?_ GE1036.out) | exact HB.out)) hb)
                          have n16_ := am (hbox)
                          have n17_ := am ((by rw [hg]; exact (below_size (by repeat (first | (with_reducible first | exact HB.out | apply below_alloc | apply pw_below_drewN | apply below_drew1 | refine below_set ?_ GE1014.out | refine below_set ?_ GE1025.out | refine below_set ?_ GE1036.out) | exact HB.out))) : w.heap.size ≤ gb1050))
                          have n18_ := am ((by rw [hg]; exact (below_size (by repeat (first | (with_reducible first | exact HB.out | apply below_alloc | apply pw_below_drewN | apply below_drew1 | refine below_set ?_ GE1014.out | refine below_set ?_ GE1025.out | refine below_set ?_ GE1036.out) | exact HB.out))) : w.heap.size ≤ gb1050))
                          have n19_ := am ((by rw [hg]; exact Nat.ne_of_lt (blk_lt (g := gb1014) (o := .cells #[.slice (some ad1039) t1003.length co9, .slice Ao11 t1006.length co11, .slice Ao12 t1009.length co12] 28 (0, 0)) (kl BK1014.out)) : gb1014 ≠ gb1050))
                          have n20_ := am ((by rw [hg]; exact Nat.ne_of_gt (blk_lt (g := gb1014) (o := .cells #[.slice (some ad1039) t1003.length co9, .slice Ao11 t1006.length co11, .slice Ao12 t1009.length co12] 28 (0, 0)) (kl BK1014.out)) : gb1050 ≠ gb1014))
                          have n21_ := am ((by rw [hg]; exact Nat.ne_of_lt (blk_lt (g := gb1025) (o := .cells #[.slice Ao15 t1015.length co15, .slice Ao18 t1018.length co18, .slice Ao19 t1021.length co19] 28 (0, 0)) (kl BK1025.out)) : gb1025 ≠ gb1050))
                          have n22_ := am ((by rw [hg]; exact Nat.ne_of_gt (blk_lt (g := gb1025) (o := .cells #[.slice Ao15 t1015.length co15, .slice Ao18 t1018.length co18, .slice Ao19 t1021.length co19] 28 (0, 0)) (kl BK1025.out)) : gb1050 ≠ gb1025))
                          have n23_ := am ((by rw [hg]; exact Nat.ne_of_lt (blk_lt (g := gb1036) (o := .cells #[.slice Ao23 t1026.length co23, .slice Ao27 t1029.length co27, .slice Ao28 t1032.length co28] 28 (0, 0)) (kl BK1036.out)) : gb1036 ≠ gb1050))
                          have n24_ := am ((by rw [hg]; exact Nat.ne_of_gt (blk_lt (g := gb1036) (o := .cells #[.slice Ao23 t1026.length co23, .slice Ao27 t1029.length co27, .slice Ao28 t1032.length co28] 28 (0, 0)) (kl BK1036.out)) : gb1050 ≠ gb1036))
                          clear HO_1015000
                          clear HO_1015001
                          clear HO_1015002
                          clear HO_1026000
                          clear HO_1026001
                          clear HO_1026002
                          clear HO_1037000
                          clear HO_1037001
                          clear HO_1037002
                          clear HO1042
                          clear HO1045
                          clear HO1048
                          clear BK1014
                          clear BK1025
                          clear BK1036
                          clear HB
                          have HO_1015000 := n0_
                          have HO_1015001 := n1_
                          have HO_1015002 := n2_
                          have HO_1026000 := n3_
                          have HO_1026001 := n4_
                          have HO_1026002 := n5_
                          have HO_1037000 := n6_
                          have HO_1037001 := n7_
                          have HO_1037002 := n8_
                          have HO1042 := n9_
                          have HO1045 := n10_
                          have HO1048 := n11_
                          have BK1014 := n12_
                          have BK1025 := n13_
                          have BK1036 := n14_
                          have HB := n15_
                          have BK1050 := n16_
                          have GW1050 := n17_
                          have GE1050 := n18_
                          have NB1014_1050 := n19_
                          have NB1050_1014 := n20_
                          have NB1025_1050 := n21_
                          have NB1050_1025 := n22_
                          have NB1036_1050 := n23_
                          have NB1050_1036 := n24_
                          clear n0_ n1_ n2_ n3_ n4_ n5_ n6_ n7_ n8_ n9_ n10_ n11_ n12_ n13_ n14_ n15_ n16_ n17_ n18_ n19_ n20_ n21_ n22_ n23_ n24_
                          clear hb hbox hg
                          refine hK.out _ _ ⟨(blk_cell BK1025.out 0).trans rfl, (blk_cell BK1025.out 1).trans rfl, (blk_cell BK1025.out 2).trans rfl, (blk_cell BK1014.out 0).trans rfl, (blk_cell BK1014.out 1).trans rfl, (blk_cell BK1014.out 2).trans rfl, HS6_⟩ (fun hHeld => ?_)
                          clear hK K
                          refine norm_ (a' := ?_) ?_ ?_
                          rotate_left
                          · show Act.put _ (some 10) _ = _
                            simp only [Act.put, List.setIfInBounds_toArray, List.set_cons_zero, List.set_cons_succ, i64_w, i32_w]
                            rfl
                          exact norm_ (by simp only [putAll, Act.put, List.setIfInBounds_toArray, List.set_cons_zero, List.set_cons_succ]) (hCont (v1041, v1044, v1047, gb1050) _ ⟨hHeld, (rl (Kd.R_mono HO1042.out (fun _ hk => by simp only [ne_eq] at hk ⊢; simp only [hk, not_false_eq_true, and_self]))), (rl (Kd.R_mono HO1045.out (fun _ hk => by simp only [ne_eq] at hk ⊢; simp only [hk, not_false_eq_true, and_self]))), (rl (Kd.R_mono HO1048.out (fun _ hk => by simp only [ne_eq] at hk ⊢; simp only [hk, not_false_eq_true, and_self]))), (rl (Kd.R_mono HO_1015000.out (fun _ hk => by simp only [ne_eq] at hk ⊢; simp only [hk, not_false_eq_true, and_self]))), (rl (Kd.R_mono HO_1015001.out (fun _ hk => by simp only [ne_eq] at hk ⊢; simp only [hk, not_false_eq_true, and_self]))), (rl (Kd.R_mono HO_1015002.out (fun _ hk => by simp only [ne_eq] at hk ⊢; simp only [hk, not_false_eq_true, and_self]))), (rl (Kd.R_mono HO_1026000.out (fun _ hk => by simp only [ne_eq] at hk ⊢; simp only [hk, not_false_eq_true, and_self]))), (rl (Kd.R_mono HO_1026001.out (fun _ hk => by simp only [ne_eq] at hk ⊢; simp only [hk, not_false_eq_true, and_self]))), (rl (Kd.R_mono HO_1026002.out (fun _ hk => by simp only [ne_eq] at hk ⊢; simp only [hk, not_false_eq_true, and_self]))), (rl (Kd.R_mono HO_1037000.out (fun _ hk => by simp only [ne_eq] at hk ⊢; simp only [hk, not_false_eq_true, and_self]))), (rl (Kd.R_mono HO_1037001.out (fun _ hk => by simp only [ne_eq] at hk ⊢; simp only [hk, not_false_eq_true, and_self]))), (rl (Kd.R_mono HO_1037002.out (fun _ hk => by simp only [ne_eq] at hk ⊢; simp only [hk, not_false_eq_true, and_self]))), (kl BK1014.out), (kl BK1025.out), (kl BK1036.out), (kl BK1050.out), GW1050.out, GE1050.out, NB1014_1050.out, NB1050_1014.out, NB1025_1050.out, NB1050_1025.out, NB1036_1050.out, NB1050_1036.out, (by repeat (first | (with_reducible first | exact HB.out | apply below_alloc | apply pw_below_drewN | apply below_drew1 | refine below_set ?_ GE1014.out | refine below_set ?_ GE1025.out | refine below_set ?_ GE1036.out | refine below_set ?_ GE1050.out) | exact HB.out))⟩)
                        · skip
                          refine box_step ?hg (N := 10) ?hd (cs := #[.slice none 0 0, .slice none 0 0, .slice none 0 0]) (t := 28) ?hr ?_; (case hd => rfl); (case hg => rfl); (case hr => first | (go_simp; done) | (go_simp; rfl))
                          intro gb1050 hg w69 hbox hb
                          have HS6_ := (hb.cell (World.block_lt_of_cell? _ _ (hHeld.2.2.2.2.2.2))).trans (hHeld.2.2.2.2.2.2)
                          have n0_ := am (Kd.R_below (rl HO_1015000.out) hb)
                          have n1_ := am (Kd.R_below (rl HO_1015001.out) hb)
                          have n2_ := am (Kd.R_below (rl HO_1015002.out) hb)
                          have n3_ := am (Kd.R_below (rl HO_1026000.out) hb)
                          have n4_ := am (Kd.R_below (rl HO_1026001.out) hb)
                          have n5_ := am (Kd.R_below (rl HO_1026002.out) hb)
                          have n6_ := am (Kd.R_below (rl HO_1037000.out) hb)
                          have n7_ := am (Kd.R_below (rl HO_1037001.out) hb)
                          have n8_ := am (Kd.R_below (rl HO_1037002.out) hb)
                          have n9_ := am (blk_below (g := gb1014) (o := .cells #[.slice (some ad1039) t1003.length co9, .slice Ao11 t1006.length co11, .slice Ao12 t1009.length co12] 28 (0, 0)) (kl BK1014.out) hb)
                          have n10_ := am (blk_below (g := gb1025) (o := .cells #[.slice Ao15 t1015.length co15, .slice Ao18 t1018.length co18, .slice Ao19 t1021.length co19] 28 (0, 0)) (kl BK1025.out) hb)
                          have n11_ := am (blk_below (g := gb1036) (o := .cells #[.slice Ao23 t1026.length co23, .slice Ao27 t1029.length co27, .slice Ao28 t1032.length co28] 28 (0, 0)) (kl BK1036.out) hb)
                          have n12_ := am (below_step (by repeat (first | (with_reducible first | exact HB.out | apply below_alloc | apply pw_below_drewN | apply below_drew1 | refine below_set ?_ GE1014.out | refine below_set ?_ GE1025.out | refine below_set ?_ GE1036.out) | exact HB.out)) hb)
                          have n13_ := am (hbox)
                          have n14_ := am ((by rw [hg]; exact (below_size (by repeat (first | (with_reducible first | exact HB.out | apply below_alloc | apply pw_below_drewN | apply below_drew1 | refine below_set ?_ GE1014.out | refine below_set ?_ GE1025.out | refine below_set ?_ GE1036.out) | exact HB.out))) : w.heap.size ≤ gb1050))
                          have n15_ := am ((by rw [hg]; exact (below_size (by repeat (first | (with_reducible first | exact HB.out | apply below_alloc | apply pw_below_drewN | apply below_drew1 | refine below_set ?_ GE1014.out | refine below_set ?_ GE1025.out | refine below_set ?_ GE1036.out) | exact HB.out))) : w.heap.size ≤ gb1050))
                          have n16_ := am ((by rw [hg]; exact Nat.ne_of_lt (blk_lt (g := gb1014) (o := .cells #[.slice (some ad1039) t1003.length co9, .slice Ao11 t1006.length co11, .slice Ao12 t1009.length co12] 28 (0, 0)) (kl BK1014.out)) : gb1014 ≠ gb1050))
                          have n17_ := am ((by rw [hg]; exact Nat.ne_of_gt (blk_lt (g := gb1014) (o := .cells #[.slice (some ad1039) t1003.length co9, .slice Ao11 t1006.length co11, .slice Ao12 t1009.length co12] 28 (0, 0)) (kl BK1014.out)) : gb1050 ≠ gb1014))
                          have n18_ := am ((by rw [hg]; exact Nat.ne_of_lt (blk_lt (g := gb1025) (o := .cells #[.slice Ao15 t1015.length co15, .slice Ao18 t1018.length co18, .slice Ao19 t1021.length co19] 28 (0, 0)) (kl BK1025.out)) : gb1025 ≠ gb1050))
                          have n19_ := am ((by rw [hg]; exact Nat.ne_of_gt (blk_lt (g := gb1025) (o := .cells #[.slice Ao15 t1015.length co15, .slice Ao18 t1018.length co18, .slice Ao19 t1021.length co19] 28 (0, 0)) (kl BK1025.out)) : gb1050 ≠ gb1025))
                          have n20_ := am ((by rw [hg]; exact Nat.ne_of_lt (blk_lt (g := gb1036) (o := .cells #[.slice Ao23 t1026.length co23, .slice Ao27 t1029.length co27, .slice Ao28 t1032.length co28] 28 (0, 0)) (kl BK1036.out)) : gb1036 ≠ gb1050))
                          have n21_ := am ((by rw [hg]; exact Nat.ne_of_gt (blk_lt (g := gb1036) (o := .cells #[.slice Ao23 t1026.length co23, .slice Ao27 t1029.length co27, .slice Ao28 t1032.length co28] 28 (0, 0)) (kl BK1036.out)) : gb1050 ≠ gb1036))
                          clear HO_1015000
                          clear HO_1015001
                          clear HO_1015002
                          clear HO_1026000
                          clear HO_1026001
                          clear HO_1026002
                          clear HO_1037000
                          clear HO_1037001
                          clear HO_1037002
                          clear BK1014
                          clear BK1025
                          clear BK1036
                          clear HB
                          have HO_1015000 := n0_
                          have HO_1015001 := n1_
                          have HO_1015002 := n2_
                          have HO_1026000 := n3_
                          have HO_1026001 := n4_
                          have HO_1026002 := n5_
                          have HO_1037000 := n6_
                          have HO_1037001 := n7_
                          have HO_1037002 := n8_
                          have BK1014 := n9_
                          have BK1025 := n10_
                          have BK1036 := n11_
                          have HB := n12_
                          have BK1050 := n13_
                          have GW1050 := n14_
                          have GE1050 := n15_
                          have NB1014_1050 := n16_
                          have NB1050_1014 := n17_
                          have NB1025_1050 := n18_
                          have NB1050_1025 := n19_
                          have NB1036_1050 := n20_
                          have NB1050_1036 := n21_
                          clear n0_ n1_ n2_ n3_ n4_ n5_ n6_ n7_ n8_ n9_ n10_ n11_ n12_ n13_ n14_ n15_ n16_ n17_ n18_ n19_ n20_ n21_
                          clear hb hbox hg
                          refine hK.out _ _ ⟨(blk_cell BK1025.out 0).trans rfl, (blk_cell BK1025.out 1).trans rfl, (blk_cell BK1025.out 2).trans rfl, (blk_cell BK1014.out 0).trans rfl, (blk_cell BK1014.out 1).trans rfl, (blk_cell BK1014.out 2).trans rfl, HS6_⟩ (fun hHeld => ?_)
                          clear hK K
                          refine norm_ (a' := ?_) ?_ ?_
                          rotate_left
                          · show Act.put _ (some 10) _ = _
                            simp only [Act.put, List.setIfInBounds_toArray, List.set_cons_zero, List.set_cons_succ, i64_w, i32_w]
                            rfl
                          refine one_ (i := 7) (N := some 64) #[true, true, true, true, true, true, true, true, false, false, false, true, false, false] rfl rfl (one_of HT_.out (by kernel_rfl)) (by decide) (fun K hK => ?_)
                          refine goes_ Try.func44 (by kernel_rfl) rfl #[.agg #[.slice Ao15 t1015.length co15, .slice Ao18 t1018.length co18, .slice Ao19 t1021.length co19], .int .i64 t1012, .int .i64 (rd t1003 t1012)] (by rfl) rfl rfl (by (try simp only [List.map_toArray, List.map_cons, List.map_nil]); first | done | rfl | (simp only [List.length_drop, List.length_take]; rfl)) ?_
                          with_reducible refine (impl_PutLeft.calls kj5 _ _ t1015 _ _ t1018 _ _ t1021 t1012 (rd t1003 t1012) t1040 t1043 t1046 true _ ?side1 ?side2 ?side3 ?side4 ?side5 ?side6 A61.out).mono ?_
                          (case side1 => repeat (first | exact (Kd.R_reads' HO_1026000.out).2.2 | (with_reducible refine Kd.C_alloc ?_ _) | (with_reducible refine Kd.C_drewN ?_ _) | (with_reducible refine Kd.C_drew ?_)))
                          (case side2 => exact (Kd.R_reads' HO_1026000.out).2.1)
                          (case side3 => repeat (first | exact (Kd.R_reads' HO_1026001.out).2.2 | (with_reducible refine Kd.C_alloc ?_ _) | (with_reducible refine Kd.C_drewN ?_ _) | (with_reducible refine Kd.C_drew ?_)))
                          (case side4 => exact (Kd.R_reads' HO_1026001.out).2.1)
                          (case side5 => repeat (first | exact (Kd.R_reads' HO_1026002.out).2.2 | (with_reducible refine Kd.C_alloc ?_ _) | (with_reducible refine Kd.C_drewN ?_ _) | (with_reducible refine Kd.C_drew ?_)))
                          (case side6 => exact (Kd.R_reads' HO_1026002.out).2.1)
                          rintro e w70 ⟨v1041, v1044, v1047, rfl, ho0, ho1, ho2, hb⟩
                          have HS6_ := (hb.cell (World.block_lt_of_cell? _ _ (hHeld.2.2.2.2.2.2))).trans (hHeld.2.2.2.2.2.2)
                          refine ⟨_, rfl, ?_⟩
                          have n0_ := am (Kd.R_mono (Kd.R_told (Kd.R_told (Kd.R_told (Kd.R_old (rl HO_1015000.out) hb) (Kd.R_base ho0)) (Kd.R_base ho1)) (Kd.R_base ho2)) (fun _ h_ => h_.1))
                          have n1_ := am (Kd.R_mono (Kd.R_told (Kd.R_told (Kd.R_told (Kd.R_old (rl HO_1015001.out) hb) (Kd.R_base ho0)) (Kd.R_base ho1)) (Kd.R_base ho2)) (fun _ h_ => h_.1))
                          have n2_ := am (Kd.R_mono (Kd.R_told (Kd.R_told (Kd.R_told (Kd.R_old (rl HO_1015002.out) hb) (Kd.R_base ho0)) (Kd.R_base ho1)) (Kd.R_base ho2)) (fun _ h_ => h_.1))
                          have n3_ := am (Kd.R_mono (Kd.R_told (Kd.R_told (Kd.R_told (Kd.R_old (rl HO_1026000.out) hb) (Kd.R_base ho0)) (Kd.R_base ho1)) (Kd.R_base ho2)) (fun _ h_ => h_.1))
                          have n4_ := am (Kd.R_mono (Kd.R_told (Kd.R_told (Kd.R_told (Kd.R_old (rl HO_1026001.out) hb) (Kd.R_base ho0)) (Kd.R_base ho1)) (Kd.R_base ho2)) (fun _ h_ => h_.1))
                          have n5_ := am (Kd.R_mono (Kd.R_told (Kd.R_told (Kd.R_told (Kd.R_old (rl HO_1026002.out) hb) (Kd.R_base ho0)) (Kd.R_base ho1)) (Kd.R_base ho2)) (fun _ h_ => h_.1))
                          have n6_ := am (Kd.R_mono (Kd.R_told (Kd.R_told (Kd.R_told (Kd.R_old (rl HO_1037000.out) hb) (Kd.R_base ho0)) (Kd.R_base ho1)) (Kd.R_base ho2)) (fun _ h_ => h_.1))
                          have n7_ := am (Kd.R_mono (Kd.R_told (Kd.R_told (Kd.R_told (Kd.R_old (rl HO_1037001.out) hb) (Kd.R_base ho0)) (Kd.R_base ho1)) (Kd.R_base ho2)) (fun _ h_ => h_.1))
                          have n8_ := am (Kd.R_mono (Kd.R_told (Kd.R_told (Kd.R_told (Kd.R_old (rl HO_1037002.out) hb) (Kd.R_base ho0)) (Kd.R_base ho1)) (Kd.R_base ho2)) (fun _ h_ => h_.1))
                          have n9_ := am (Kd.R_lower (Kd.R_new' (Kd.R_new' (Kd.R_new' (Kd.R_new' (Kd.R_new' (Kd.R_new' (Kd.R_new' (Kd.R_new' (Kd.R_new' ho0 (Kd.R_lt (rl HO_1015000.out))) (Kd.R_lt (rl HO_1015001.out))) (Kd.R_lt (rl HO_1015002.out))) (Kd.R_lt (rl HO_1026000.out))) (Kd.R_lt (rl HO_1026001.out))) (Kd.R_lt (rl HO_1026002.out))) (Kd.R_lt (rl HO_1037000.out))) (Kd.R_lt (rl HO_1037001.out))) (Kd.R_lt (rl HO_1037002.out))) (below_size (by repeat (first | (with_reducible first | exact HB.out | apply below_alloc | apply pw_below_drewN | apply below_drew1 | refine below_set ?_ GE1014.out | refine below_set ?_ GE1025.out | refine below_set ?_ GE1036.out | refine below_set ?_ GE1050.out) | exact HB.out))))
                          have n10_ := am (Kd.R_lower (Kd.R_new' (Kd.R_new' (Kd.R_new' (Kd.R_new' (Kd.R_new' (Kd.R_new' (Kd.R_new' (Kd.R_new' (Kd.R_new' ho1 (Kd.R_lt (rl HO_1015000.out))) (Kd.R_lt (rl HO_1015001.out))) (Kd.R_lt (rl HO_1015002.out))) (Kd.R_lt (rl HO_1026000.out))) (Kd.R_lt (rl HO_1026001.out))) (Kd.R_lt (rl HO_1026002.out))) (Kd.R_lt (rl HO_1037000.out))) (Kd.R_lt (rl HO_1037001.out))) (Kd.R_lt (rl HO_1037002.out))) (below_size (by repeat (first | (with_reducible first | exact HB.out | apply below_alloc | apply pw_below_drewN | apply below_drew1 | refine below_set ?_ GE1014.out | refine below_set ?_ GE1025.out | refine below_set ?_ GE1036.out | refine below_set ?_ GE1050.out) | exact HB.out))))
                          have n11_ := am (Kd.R_lower (Kd.R_new' (Kd.R_new' (Kd.R_new' (Kd.R_new' (Kd.R_new' (Kd.R_new' (Kd.R_new' (Kd.R_new' (Kd.R_new' ho2 (Kd.R_lt (rl HO_1015000.out))) (Kd.R_lt (rl HO_1015001.out))) (Kd.R_lt (rl HO_1015002.out))) (Kd.R_lt (rl HO_1026000.out))) (Kd.R_lt (rl HO_1026001.out))) (Kd.R_lt (rl HO_1026002.out))) (Kd.R_lt (rl HO_1037000.out))) (Kd.R_lt (rl HO_1037001.out))) (Kd.R_lt (rl HO_1037002.out))) (below_size (by repeat (first | (with_reducible first | exact HB.out | apply below_alloc | apply pw_below_drewN | apply below_drew1 | refine below_set ?_ GE1014.out | refine below_set ?_ GE1025.out | refine below_set ?_ GE1036.out | refine below_set ?_ GE1050.out) | exact HB.out))))
                          have n12_ := am (blk_below (g := gb1014) (o := .cells #[.slice (some ad1039) t1003.length co9, .slice Ao11 t1006.length co11, .slice Ao12 t1009.length co12] 28 (0, 0)) (kl BK1014.out) hb)
                          have n13_ := am (blk_below (g := gb1025) (o := .cells #[.slice Ao15 t1015.length co15, .slice Ao18 t1018.length co18, .slice Ao19 t1021.length co19] 28 (0, 0)) (kl BK1025.out) hb)
                          have n14_ := am (blk_below (g := gb1036) (o := .cells #[.slice Ao23 t1026.length co23, .slice Ao27 t1029.length co27, .slice Ao28 t1032.length co28] 28 (0, 0)) (kl BK1036.out) hb)
                          have n15_ := am (blk_below (g := gb1050) (o := .cells #[.slice none 0 0, .slice none 0 0, .slice none 0 0] 28 (0, 0)) (kl BK1050.out) hb)
                          have n16_ := am (below_step (by repeat (first | (with_reducible first | exact HB.out | apply below_alloc | apply pw_below_drewN | apply below_drew1 | refine below_set ?_ GE1014.out | refine below_set ?_ GE1025.out | refine below_set ?_ GE1036.out | refine below_set ?_ GE1050.out) | exact HB.out)) hb)
                          clear HO_1015000
                          clear HO_1015001
                          clear HO_1015002
                          clear HO_1026000
                          clear HO_1026001
                          clear HO_1026002
                          clear HO_1037000
                          clear HO_1037001
                          clear HO_1037002
                          clear BK1014
                          clear BK1025
                          clear BK1036
                          clear BK1050
                          clear HB
                          have HO_1015000 := n0_
                          have HO_1015001 := n1_
                          have HO_1015002 := n2_
                          have HO_1026000 := n3_
                          have HO_1026001 := n4_
                          have HO_1026002 := n5_
                          have HO_1037000 := n6_
                          have HO_1037001 := n7_
                          have HO_1037002 := n8_
                          have HO1042 := n9_
                          have HO1045 := n10_
                          have HO1048 := n11_
                          have BK1014 := n12_
                          have BK1025 := n13_
                          have BK1036 := n14_
                          have BK1050 := n15_
                          have HB := n16_
                          clear n0_ n1_ n2_ n3_ n4_ n5_ n6_ n7_ n8_ n9_ n10_ n11_ n12_ n13_ n14_ n15_ n16_
                          (try clear hb)
                          (try clear hb2)
                          (try clear hk)
                          (try clear hi)
                          (try clear ho0)
                          (try clear ho1)
                          (try clear ho2)
                          refine hK.out _ _ ⟨(blk_cell BK1025.out 0).trans rfl, (blk_cell BK1025.out 1).trans rfl, (blk_cell BK1025.out 2).trans rfl, (blk_cell BK1014.out 0).trans rfl, (blk_cell BK1014.out 1).trans rfl, (blk_cell BK1014.out 2).trans rfl, HS6_⟩ (fun hHeld => ?_)
                          clear hK K
                          refine norm_ (a' := ?_) ?_ ?_
                          rotate_left
                          · show Act.put _ (some 64) _ = _
                            simp only [Act.put, List.setIfInBounds_toArray, List.set_cons_zero, List.set_cons_succ, i64_w, i32_w]
                            rfl
                          refine pure_ (i := 8) (N := some 56) (v := ?_) (a' := ?_) #[true, true, true, true, true, true, true, true, true, false, false, true, false, false] rfl rfl (any_of HT_.out (by kernel_rfl)) (fun _ _ _ h => h) (Or.inl ⟨by rfl, ?_⟩) ?_ ?_
                          rotate_left
                          · intro w'
                            go_simp
                            with_reducible rfl
                          rotate_left
                          · simp only [Act.put, List.setIfInBounds_toArray, List.set_cons_zero, List.set_cons_succ, i64_w, i32_w]
                            rfl
                          refine pure_ (i := 9) (N := some 65) (v := ?_) (a' := ?_) #[true, true, true, true, true, true, true, true, true, true, false, true, false, false] rfl rfl (any_of HT_.out (by kernel_rfl)) (fun _ _ _ h => h) (Or.inl ⟨by rfl, ?_⟩) ?_ ?_
                          rotate_left
                          · intro w'
                            go_simp
                            with_reducible rfl
                          rotate_left
                          · simp only [Act.put, List.setIfInBounds_toArray, List.set_cons_zero, List.set_cons_succ, i64_w, i32_w]
                            rfl
                          refine pure_ (i := 10) (N := some 66) (v := ?_) (a' := ?_) #[true, true, true, true, true, true, true, true, true, true, true, true, false, false] rfl rfl (any_of HT_.out (by kernel_rfl)) (fun _ _ _ h => h) (Or.inl ⟨by rfl, ?_⟩) ?_ ?_
                          rotate_left
                          · intro w'
                            go_simp
                            with_reducible rfl
                          rotate_left
                          · simp only [Act.put, List.setIfInBounds_toArray, List.set_cons_zero, List.set_cons_succ, i64_w, i32_w]
                            rfl
                          exact norm_ (by simp only [putAll, Act.put, List.setIfInBounds_toArray, List.set_cons_zero, List.set_cons_succ]) (hCont (v1041, v1044, v1047, gb1050) _ ⟨hHeld, (rl (Kd.R_mono HO1042.out (fun _ hk => by simp only [ne_eq] at hk ⊢; simp only [hk, not_false_eq_true, and_self]))), (rl (Kd.R_mono HO1045.out (fun _ hk => by simp only [ne_eq] at hk ⊢; simp only [hk, not_false_eq_true, and_self]))), (rl (Kd.R_mono HO1048.out (fun _ hk => by simp only [ne_eq] at hk ⊢; simp only [hk, not_false_eq_true, and_self]))), (rl (Kd.R_mono HO_1015000.out (fun _ hk => by simp only [ne_eq] at hk ⊢; simp only [hk, not_false_eq_true, and_self]))), (rl (Kd.R_mono HO_1015001.out (fun _ hk => by simp only [ne_eq] at hk ⊢; simp only [hk, not_false_eq_true, and_self]))), (rl (Kd.R_mono HO_1015002.out (fun _ hk => by simp only [ne_eq] at hk ⊢; simp only [hk, not_false_eq_true, and_self]))), (rl (Kd.R_mono HO_1026000.out (fun _ hk => by simp only [ne_eq] at hk ⊢; simp only [hk, not_false_eq_true, and_self]))), (rl (Kd.R_mono HO_1026001.out (fun _ hk => by simp only [ne_eq] at hk ⊢; simp only [hk, not_false_eq_true, and_self]))), (rl (Kd.R_mono HO_1026002.out (fun _ hk => by simp only [ne_eq] at hk ⊢; simp only [hk, not_false_eq_true, and_self]))), (rl (Kd.R_mono HO_1037000.out (fun _ hk => by simp only [ne_eq] at hk ⊢; simp only [hk, not_false_eq_true, and_self]))), (rl (Kd.R_mono HO_1037001.out (fun _ hk => by simp only [ne_eq] at hk ⊢; simp only [hk, not_false_eq_true, and_self]))), (rl (Kd.R_mono HO_1037002.out (fun _ hk => by simp only [ne_eq] at hk ⊢; simp only [hk, not_false_eq_true, and_self]))), (kl BK1014.out), (kl BK1025.out), (kl BK1036.out), (kl BK1050.out), GW1050.out, GE1050.out, NB1014_1050.out, NB1050_1014.out, NB1025_1050.out, NB1050_1025.out, NB1036_1050.out, NB1050_1036.out, (by repeat (first | (with_reducible first | exact HB.out | apply below_alloc | apply pw_below_drewN | apply below_drew1 | refine below_set ?_ GE1014.out | refine below_set ?_ GE1025.out | refine below_set ?_ GE1036.out | refine below_set ?_ GE1050.out) | exact HB.out))⟩)
                      rintro ⟨v1041, v1044, v1047, gb1050⟩ w71 ⟨hS_, h0_, h1_, h2_, h3_, h4_, h5_, h6_, h7_, h8_, h9_, h10_, h11_, h12_, h13_, h14_, h15_, h16_, h17_, h18_, h19_, h20_, h21_, h22_, h23_, h24_⟩
                      have n0_ : Aside0 (Kd.R (Kd.int .i64) 3 w71 w.heap.size (fun k_ => some k_ ≠ (v1044 : Value).ownBlock ∧ some k_ ≠ (v1047 : Value).ownBlock ∧ some k_ ≠ (.slice (some ad1039) t1003.length co9 : Value).ownBlock ∧ some k_ ≠ (.slice Ao11 t1006.length co11 : Value).ownBlock ∧ some k_ ≠ (.slice Ao12 t1009.length co12 : Value).ownBlock ∧ some k_ ≠ (.slice Ao15 t1015.length co15 : Value).ownBlock ∧ some k_ ≠ (.slice Ao18 t1018.length co18 : Value).ownBlock ∧ some k_ ≠ (.slice Ao19 t1021.length co19 : Value).ownBlock ∧ some k_ ≠ (.slice Ao23 t1026.length co23 : Value).ownBlock ∧ some k_ ≠ (.slice Ao27 t1029.length co27 : Value).ownBlock ∧ some k_ ≠ (.slice Ao28 t1032.length co28 : Value).ownBlock) v1041 t1040) := ⟨h0_⟩
                      have n1_ : Aside0 (Kd.R (Kd.int .i64) 3 w71 w.heap.size (fun k_ => some k_ ≠ (v1041 : Value).ownBlock ∧ some k_ ≠ (v1047 : Value).ownBlock ∧ some k_ ≠ (.slice (some ad1039) t1003.length co9 : Value).ownBlock ∧ some k_ ≠ (.slice Ao11 t1006.length co11 : Value).ownBlock ∧ some k_ ≠ (.slice Ao12 t1009.length co12 : Value).ownBlock ∧ some k_ ≠ (.slice Ao15 t1015.length co15 : Value).ownBlock ∧ some k_ ≠ (.slice Ao18 t1018.length co18 : Value).ownBlock ∧ some k_ ≠ (.slice Ao19 t1021.length co19 : Value).ownBlock ∧ some k_ ≠ (.slice Ao23 t1026.length co23 : Value).ownBlock ∧ some k_ ≠ (.slice Ao27 t1029.length co27 : Value).ownBlock ∧ some k_ ≠ (.slice Ao28 t1032.length co28 : Value).ownBlock) v1044 t1043) := ⟨h1_⟩
                      have n2_ : Aside0 (Kd.R (Kd.int .i64) 3 w71 w.heap.size (fun k_ => some k_ ≠ (v1041 : Value).ownBlock ∧ some k_ ≠ (v1044 : Value).ownBlock ∧ some k_ ≠ (.slice (some ad1039) t1003.length co9 : Value).ownBlock ∧ some k_ ≠ (.slice Ao11 t1006.length co11 : Value).ownBlock ∧ some k_ ≠ (.slice Ao12 t1009.length co12 : Value).ownBlock ∧ some k_ ≠ (.slice Ao15 t1015.length co15 : Value).ownBlock ∧ some k_ ≠ (.slice Ao18 t1018.length co18 : Value).ownBlock ∧ some k_ ≠ (.slice Ao19 t1021.length co19 : Value).ownBlock ∧ some k_ ≠ (.slice Ao23 t1026.length co23 : Value).ownBlock ∧ some k_ ≠ (.slice Ao27 t1029.length co27 : Value).ownBlock ∧ some k_ ≠ (.slice Ao28 t1032.length co28 : Value).ownBlock) v1047 t1046) := ⟨h2_⟩
                      have n3_ : Aside0 (Kd.R (Kd.int .i64) 3 w71 w.heap.size (fun k_ => some k_ ≠ (v1041 : Value).ownBlock ∧ some k_ ≠ (v1044 : Value).ownBlock ∧ some k_ ≠ (v1047 : Value).ownBlock ∧ some k_ ≠ (.slice Ao11 t1006.length co11 : Value).ownBlock ∧ some k_ ≠ (.slice Ao12 t1009.length co12 : Value).ownBlock ∧ some k_ ≠ (.slice Ao15 t1015.length co15 : Value).ownBlock ∧ some k_ ≠ (.slice Ao18 t1018.length co18 : Value).ownBlock ∧ some k_ ≠ (.slice Ao19 t1021.length co19 : Value).ownBlock ∧ some k_ ≠ (.slice Ao23 t1026.length co23 : Value).ownBlock ∧ some k_ ≠ (.slice Ao27 t1029.length co27 : Value).ownBlock ∧ some k_ ≠ (.slice Ao28 t1032.length co28 : Value).ownBlock) (.slice (some ad1039) t1003.length co9) t1003) := ⟨h3_⟩
                      have n4_ : Aside0 (Kd.R (Kd.int .i64) 3 w71 w.heap.size (fun k_ => some k_ ≠ (v1041 : Value).ownBlock ∧ some k_ ≠ (v1044 : Value).ownBlock ∧ some k_ ≠ (v1047 : Value).ownBlock ∧ some k_ ≠ (.slice (some ad1039) t1003.length co9 : Value).ownBlock ∧ some k_ ≠ (.slice Ao12 t1009.length co12 : Value).ownBlock ∧ some k_ ≠ (.slice Ao15 t1015.length co15 : Value).ownBlock ∧ some k_ ≠ (.slice Ao18 t1018.length co18 : Value).ownBlock ∧ some k_ ≠ (.slice Ao19 t1021.length co19 : Value).ownBlock ∧ some k_ ≠ (.slice Ao23 t1026.length co23 : Value).ownBlock ∧ some k_ ≠ (.slice Ao27 t1029.length co27 : Value).ownBlock ∧ some k_ ≠ (.slice Ao28 t1032.length co28 : Value).ownBlock) (.slice Ao11 t1006.length co11) t1006) := ⟨h4_⟩
                      have n5_ : Aside0 (Kd.R (Kd.int .i64) 3 w71 w.heap.size (fun k_ => some k_ ≠ (v1041 : Value).ownBlock ∧ some k_ ≠ (v1044 : Value).ownBlock ∧ some k_ ≠ (v1047 : Value).ownBlock ∧ some k_ ≠ (.slice (some ad1039) t1003.length co9 : Value).ownBlock ∧ some k_ ≠ (.slice Ao11 t1006.length co11 : Value).ownBlock ∧ some k_ ≠ (.slice Ao15 t1015.length co15 : Value).ownBlock ∧ some k_ ≠ (.slice Ao18 t1018.length co18 : Value).ownBlock ∧ some k_ ≠ (.slice Ao19 t1021.length co19 : Value).ownBlock ∧ some k_ ≠ (.slice Ao23 t1026.length co23 : Value).ownBlock ∧ some k_ ≠ (.slice Ao27 t1029.length co27 : Value).ownBlock ∧ some k_ ≠ (.slice Ao28 t1032.length co28 : Value).ownBlock) (.slice Ao12 t1009.length co12) t1009) := ⟨h5_⟩
                      have n6_ : Aside0 (Kd.R (Kd.int .i64) 3 w71 w.heap.size (fun k_ => some k_ ≠ (v1041 : Value).ownBlock ∧ some k_ ≠ (v1044 : Value).ownBlock ∧ some k_ ≠ (v1047 : Value).ownBlock ∧ some k_ ≠ (.slice (some ad1039) t1003.length co9 : Value).ownBlock ∧ some k_ ≠ (.slice Ao11 t1006.length co11 : Value).ownBlock ∧ some k_ ≠ (.slice Ao12 t1009.length co12 : Value).ownBlock ∧ some k_ ≠ (.slice Ao18 t1018.length co18 : Value).ownBlock ∧ some k_ ≠ (.slice Ao19 t1021.length co19 : Value).ownBlock ∧ some k_ ≠ (.slice Ao23 t1026.length co23 : Value).ownBlock ∧ some k_ ≠ (.slice Ao27 t1029.length co27 : Value).ownBlock ∧ some k_ ≠ (.slice Ao28 t1032.length co28 : Value).ownBlock) (.slice Ao15 t1015.length co15) t1015) := ⟨h6_⟩
                      have n7_ : Aside0 (Kd.R (Kd.int .i64) 3 w71 w.heap.size (fun k_ => some k_ ≠ (v1041 : Value).ownBlock ∧ some k_ ≠ (v1044 : Value).ownBlock ∧ some k_ ≠ (v1047 : Value).ownBlock ∧ some k_ ≠ (.slice (some ad1039) t1003.length co9 : Value).ownBlock ∧ some k_ ≠ (.slice Ao11 t1006.length co11 : Value).ownBlock ∧ some k_ ≠ (.slice Ao12 t1009.length co12 : Value).ownBlock ∧ some k_ ≠ (.slice Ao15 t1015.length co15 : Value).ownBlock ∧ some k_ ≠ (.slice Ao19 t1021.length co19 : Value).ownBlock ∧ some k_ ≠ (.slice Ao23 t1026.length co23 : Value).ownBlock ∧ some k_ ≠ (.slice Ao27 t1029.length co27 : Value).ownBlock ∧ some k_ ≠ (.slice Ao28 t1032.length co28 : Value).ownBlock) (.slice Ao18 t1018.length co18) t1018) := ⟨h7_⟩
                      have n8_ : Aside0 (Kd.R (Kd.int .i64) 3 w71 w.heap.size (fun k_ => some k_ ≠ (v1041 : Value).ownBlock ∧ some k_ ≠ (v1044 : Value).ownBlock ∧ some k_ ≠ (v1047 : Value).ownBlock ∧ some k_ ≠ (.slice (some ad1039) t1003.length co9 : Value).ownBlock ∧ some k_ ≠ (.slice Ao11 t1006.length co11 : Value).ownBlock ∧ some k_ ≠ (.slice Ao12 t1009.length co12 : Value).ownBlock ∧ some k_ ≠ (.slice Ao15 t1015.length co15 : Value).ownBlock ∧ some k_ ≠ (.slice Ao18 t1018.length co18 : Value).ownBlock ∧ some k_ ≠ (.slice Ao23 t1026.length co23 : Value).ownBlock ∧ some k_ ≠ (.slice Ao27 t1029.length co27 : Value).ownBlock ∧ some k_ ≠ (.slice Ao28 t1032.length co28 : Value).ownBlock) (.slice Ao19 t1021.length co19) t1021) := ⟨h8_⟩
                      have n9_ : Aside0 (Kd.R (Kd.int .i64) 3 w71 w.heap.size (fun k_ => some k_ ≠ (v1041 : Value).ownBlock ∧ some k_ ≠ (v1044 : Value).ownBlock ∧ some k_ ≠ (v1047 : Value).ownBlock ∧ some k_ ≠ (.slice (some ad1039) t1003.length co9 : Value).ownBlock ∧ some k_ ≠ (.slice Ao11 t1006.length co11 : Value).ownBlock ∧ some k_ ≠ (.slice Ao12 t1009.length co12 : Value).ownBlock ∧ some k_ ≠ (.slice Ao15 t1015.length co15 : Value).ownBlock ∧ some k_ ≠ (.slice Ao18 t1018.length co18 : Value).ownBlock ∧ some k_ ≠ (.slice Ao19 t1021.length co19 : Value).ownBlock ∧ some k_ ≠ (.slice Ao27 t1029.length co27 : Value).ownBlock ∧ some k_ ≠ (.slice Ao28 t1032.length co28 : Value).ownBlock) (.slice Ao23 t1026.length co23) t1026) := ⟨h9_⟩
                      have n10_ : Aside0 (Kd.R (Kd.int .i64) 3 w71 w.heap.size (fun k_ => some k_ ≠ (v1041 : Value).ownBlock ∧ some k_ ≠ (v1044 : Value).ownBlock ∧ some k_ ≠ (v1047 : Value).ownBlock ∧ some k_ ≠ (.slice (some ad1039) t1003.length co9 : Value).ownBlock ∧ some k_ ≠ (.slice Ao11 t1006.length co11 : Value).ownBlock ∧ some k_ ≠ (.slice Ao12 t1009.length co12 : Value).ownBlock ∧ some k_ ≠ (.slice Ao15 t1015.length co15 : Value).ownBlock ∧ some k_ ≠ (.slice Ao18 t1018.length co18 : Value).ownBlock ∧ some k_ ≠ (.slice Ao19 t1021.length co19 : Value).ownBlock ∧ some k_ ≠ (.slice Ao23 t1026.length co23 : Value).ownBlock ∧ some k_ ≠ (.slice Ao28 t1032.length co28 : Value).ownBlock) (.slice Ao27 t1029.length co27) t1029) := ⟨h10_⟩
                      have n11_ : Aside0 (Kd.R (Kd.int .i64) 3 w71 w.heap.size (fun k_ => some k_ ≠ (v1041 : Value).ownBlock ∧ some k_ ≠ (v1044 : Value).ownBlock ∧ some k_ ≠ (v1047 : Value).ownBlock ∧ some k_ ≠ (.slice (some ad1039) t1003.length co9 : Value).ownBlock ∧ some k_ ≠ (.slice Ao11 t1006.length co11 : Value).ownBlock ∧ some k_ ≠ (.slice Ao12 t1009.length co12 : Value).ownBlock ∧ some k_ ≠ (.slice Ao15 t1015.length co15 : Value).ownBlock ∧ some k_ ≠ (.slice Ao18 t1018.length co18 : Value).ownBlock ∧ some k_ ≠ (.slice Ao19 t1021.length co19 : Value).ownBlock ∧ some k_ ≠ (.slice Ao23 t1026.length co23 : Value).ownBlock ∧ some k_ ≠ (.slice Ao27 t1029.length co27 : Value).ownBlock) (.slice Ao28 t1032.length co28) t1032) := ⟨h11_⟩
                      have n12_ : Aside0 (w71.heap[gb1014]? = some (.cells #[.slice (some ad1039) t1003.length co9, .slice Ao11 t1006.length co11, .slice Ao12 t1009.length co12] 28 (0, 0))) := ⟨h12_⟩
                      have n13_ : Aside0 (w71.heap[gb1025]? = some (.cells #[.slice Ao15 t1015.length co15, .slice Ao18 t1018.length co18, .slice Ao19 t1021.length co19] 28 (0, 0))) := ⟨h13_⟩
                      have n14_ : Aside0 (w71.heap[gb1036]? = some (.cells #[.slice Ao23 t1026.length co23, .slice Ao27 t1029.length co27, .slice Ao28 t1032.length co28] 28 (0, 0))) := ⟨h14_⟩
                      have n15_ : Aside0 (w71.heap[gb1050]? = some (.cells #[.slice none 0 0, .slice none 0 0, .slice none 0 0] 28 (0, 0))) := ⟨h15_⟩
                      have n16_ : Aside0 (w.heap.size ≤ gb1050) := ⟨h16_⟩
                      have n17_ : Aside0 (w.heap.size ≤ gb1050) := ⟨h17_⟩
                      have n18_ : Aside0 (gb1014 ≠ gb1050) := ⟨h18_⟩
                      have n19_ : Aside0 (gb1050 ≠ gb1014) := ⟨h19_⟩
                      have n20_ : Aside0 (gb1025 ≠ gb1050) := ⟨h20_⟩
                      have n21_ : Aside0 (gb1050 ≠ gb1025) := ⟨h21_⟩
                      have n22_ : Aside0 (gb1036 ≠ gb1050) := ⟨h22_⟩
                      have n23_ : Aside0 (gb1050 ≠ gb1036) := ⟨h23_⟩
                      have n24_ : Aside0 (Below w.heap.size w w71) := ⟨h24_⟩
                      clear HO_1015000
                      clear HO_1015001
                      clear HO_1015002
                      clear HO_1026000
                      clear HO_1026001
                      clear HO_1026002
                      clear HO_1037000
                      clear HO_1037001
                      clear HO_1037002
                      clear BK1014
                      clear BK1025
                      clear BK1036
                      clear HB
                      clear h0_ h1_ h2_ h3_ h4_ h5_ h6_ h7_ h8_ h9_ h10_ h11_ h12_ h13_ h14_ h15_ h16_ h17_ h18_ h19_ h20_ h21_ h22_ h23_ h24_
                      have HO1042 := n0_
                      have HO1045 := n1_
                      have HO1048 := n2_
                      have HO_1015000 := n3_
                      have HO_1015001 := n4_
                      have HO_1015002 := n5_
                      have HO_1026000 := n6_
                      have HO_1026001 := n7_
                      have HO_1026002 := n8_
                      have HO_1037000 := n9_
                      have HO_1037001 := n10_
                      have HO_1037002 := n11_
                      have BK1014 := n12_
                      have BK1025 := n13_
                      have BK1036 := n14_
                      have BK1050 := n15_
                      have GW1050 := n16_
                      have GE1050 := n17_
                      have NB1014_1050 := n18_
                      have NB1050_1014 := n19_
                      have NB1025_1050 := n20_
                      have NB1050_1025 := n21_
                      have NB1036_1050 := n22_
                      have NB1050_1036 := n23_
                      have HB := n24_
                      clear n0_ n1_ n2_ n3_ n4_ n5_ n6_ n7_ n8_ n9_ n10_ n11_ n12_ n13_ n14_ n15_ n16_ n17_ n18_ n19_ n20_ n21_ n22_ n23_ n24_
                      have hHeld : w71.cell? ⟨gb1025, 0, none⟩ = some (.slice Ao15 t1015.length co15) ∧ w71.cell? ⟨gb1025, 1, none⟩ = some (.slice Ao18 t1018.length co18) ∧ w71.cell? ⟨gb1025, 2, none⟩ = some (.slice Ao19 t1021.length co19) ∧ w71.cell? ⟨gb1014, 0, none⟩ = some (.slice (some ad1039) t1003.length co9) ∧ w71.cell? ⟨gb1014, 1, none⟩ = some (.slice Ao11 t1006.length co11) ∧ w71.cell? ⟨gb1014, 2, none⟩ = some (.slice Ao12 t1009.length co12) ∧ w71.cell? (ad1039.add (t1012).toNat) = some (.int .i64 (rd t1003 t1012)) := hS_
                      obtain ⟨Ao72, co72, eo72⟩ := Kd.R_slice HO1042.out
                      (first | subst eo72 | (injection eo72 with f1_ f2_ f3_; have f4_ := f1_.symm; have f5_ := f3_.symm; clear f1_ f2_ f3_; subst f4_; subst f5_))
                      obtain ⟨Ao74, co74, eo74⟩ := Kd.R_slice HO1045.out
                      (first | subst eo74 | (injection eo74 with f1_ f2_ f3_; have f4_ := f1_.symm; have f5_ := f3_.symm; clear f1_ f2_ f3_; subst f4_; subst f5_))
                      obtain ⟨Ao76, co76, eo76⟩ := Kd.R_slice HO1048.out
                      (first | subst eo76 | (injection eo76 with f1_ f2_ f3_; have f4_ := f1_.symm; have f5_ := f3_.symm; clear f1_ f2_ f3_; subst f4_; subst f5_))
                      refine norm_ (a' := ?_) ?_ ?_
                      rotate_left
                      · simp only [putAll, Act.put, List.setIfInBounds_toArray, List.set_cons_zero, List.set_cons_succ]
                        rfl
                      refine one_ (i := 12) (N := none) #[true, true, true, true, true, true, true, true, true, true, true, true, true, false] rfl rfl (one_of HT_.out (by kernel_rfl)) (by decide) (fun K hK => ?_)
                      have hs73 : w71.cell? ⟨gb1050, 0, none⟩ = some (.slice none 0 0) := (blk_cell BK1050.out 0).trans rfl
                      have hfs73 := blk_frozen BK1050.out 0
                      have hns73_0 := NB1014_1050.out
                      have hns73_1 := NB1025_1050.out
                      have hns73_2 := NB1036_1050.out
                      have hms73_0 := NB1050_1014.out
                      have hms73_1 := NB1050_1025.out
                      have hms73_2 := NB1050_1036.out
                      have hs75 : w71.cell? ⟨gb1050, 1, none⟩ = some (.slice none 0 0) := (blk_cell BK1050.out 1).trans rfl
                      have hfs75 := blk_frozen BK1050.out 1
                      have hns75_0 := NB1014_1050.out
                      have hns75_1 := NB1025_1050.out
                      have hns75_2 := NB1036_1050.out
                      have hms75_0 := NB1050_1014.out
                      have hms75_1 := NB1050_1025.out
                      have hms75_2 := NB1050_1036.out
                      have hs77 : w71.cell? ⟨gb1050, 2, none⟩ = some (.slice none 0 0) := (blk_cell BK1050.out 2).trans rfl
                      have hfs77 := blk_frozen BK1050.out 2
                      have hns77_0 := NB1014_1050.out
                      have hns77_1 := NB1025_1050.out
                      have hns77_2 := NB1036_1050.out
                      have hms77_0 := NB1050_1014.out
                      have hms77_1 := NB1050_1025.out
                      have hms77_2 := NB1050_1036.out
                      refine skip_ (w1 := ?_) (by rfl) rfl ?_ ?_
                      rotate_left
                      · go_simp
                        rfl
                      refine hK.out _ _ ⟨((cell_far (p := ⟨gb1050, _, none⟩) NB1025_1050.out _).trans (((cell_far (p := ⟨gb1050, _, none⟩) NB1025_1050.out _).trans (((cell_far (p := ⟨gb1050, _, none⟩) NB1025_1050.out _).trans (hHeld.1)))))), ((cell_far (p := ⟨gb1050, _, none⟩) NB1025_1050.out _).trans (((cell_far (p := ⟨gb1050, _, none⟩) NB1025_1050.out _).trans (((cell_far (p := ⟨gb1050, _, none⟩) NB1025_1050.out _).trans (hHeld.2.1)))))), ((cell_far (p := ⟨gb1050, _, none⟩) NB1025_1050.out _).trans (((cell_far (p := ⟨gb1050, _, none⟩) NB1025_1050.out _).trans (((cell_far (p := ⟨gb1050, _, none⟩) NB1025_1050.out _).trans (hHeld.2.2.1)))))), ((cell_far (p := ⟨gb1050, _, none⟩) NB1014_1050.out _).trans (((cell_far (p := ⟨gb1050, _, none⟩) NB1014_1050.out _).trans (((cell_far (p := ⟨gb1050, _, none⟩) NB1014_1050.out _).trans (hHeld.2.2.2.1)))))), ((cell_far (p := ⟨gb1050, _, none⟩) NB1014_1050.out _).trans (((cell_far (p := ⟨gb1050, _, none⟩) NB1014_1050.out _).trans (((cell_far (p := ⟨gb1050, _, none⟩) NB1014_1050.out _).trans (hHeld.2.2.2.2.1)))))), ((cell_far (p := ⟨gb1050, _, none⟩) NB1014_1050.out _).trans (((cell_far (p := ⟨gb1050, _, none⟩) NB1014_1050.out _).trans (((cell_far (p := ⟨gb1050, _, none⟩) NB1014_1050.out _).trans (hHeld.2.2.2.2.2.1)))))), ((cell_far (p := ⟨gb1050, _, none⟩) (by first | exact Kd.own_blk (Kd.R_ne HO_1015000.out BK1050.out (by decide)) | (rw [add_block]; exact Kd.own_blk (Kd.R_ne HO_1015000.out BK1050.out (by decide))) | (show (Addr.add _ _).block ≠ _; rw [add_block]; exact Kd.own_blk (Kd.R_ne HO_1015000.out BK1050.out (by decide))) | (dsimp only; exact Kd.own_blk (Kd.R_ne HO_1015000.out BK1050.out (by decide)))) _).trans (((cell_far (p := ⟨gb1050, _, none⟩) (by first | exact Kd.own_blk (Kd.R_ne HO_1015000.out BK1050.out (by decide)) | (rw [add_block]; exact Kd.own_blk (Kd.R_ne HO_1015000.out BK1050.out (by decide))) | (show (Addr.add _ _).block ≠ _; rw [add_block]; exact Kd.own_blk (Kd.R_ne HO_1015000.out BK1050.out (by decide))) | (dsimp only; exact Kd.own_blk (Kd.R_ne HO_1015000.out BK1050.out (by decide)))) _).trans (((cell_far (p := ⟨gb1050, _, none⟩) (by first | exact Kd.own_blk (Kd.R_ne HO_1015000.out BK1050.out (by decide)) | (rw [add_block]; exact Kd.own_blk (Kd.R_ne HO_1015000.out BK1050.out (by decide))) | (show (Addr.add _ _).block ≠ _; rw [add_block]; exact Kd.own_blk (Kd.R_ne HO_1015000.out BK1050.out (by decide))) | (dsimp only; exact Kd.own_blk (Kd.R_ne HO_1015000.out BK1050.out (by decide)))) _).trans (hHeld.2.2.2.2.2.2))))))⟩ (fun hHeld => ?_)
                      clear hK K
                      refine pure_ (i := 13) (N := some 11) (v := ?_) (a' := ?_) #[true, true, true, true, true, true, true, true, true, true, true, true, true, true] rfl rfl (any_of HT_.out (by kernel_rfl)) (fun _ _ _ h => h) (Or.inl ⟨by rfl, ?_⟩) ?_ ?_
                      rotate_left
                      · intro w'
                        go_simp
                        with_reducible rfl
                      rotate_left
                      · simp only [Act.put, List.setIfInBounds_toArray, List.set_cons_zero, List.set_cons_succ, i64_w, i32_w]
                        rfl
                      refine done_ (done_of HT_.out (by kernel_rfl)) ?_
                      have n0_ : Aside0 (Kd.R (Kd.int .i64) 3 (((w71.setCell ⟨gb1050, 0, none⟩ (.slice Ao72 t1040.length co72)).setCell ⟨gb1050, 1, none⟩ (.slice Ao74 t1043.length co74)).setCell ⟨gb1050, 2, none⟩ (.slice Ao76 t1046.length co76)) w.heap.size (fun k_ => some k_ ≠ (.slice Ao11 t1006.length co11 : Value).ownBlock ∧ some k_ ≠ (.slice Ao12 t1009.length co12 : Value).ownBlock ∧ some k_ ≠ (.slice Ao15 t1015.length co15 : Value).ownBlock ∧ some k_ ≠ (.slice Ao18 t1018.length co18 : Value).ownBlock ∧ some k_ ≠ (.slice Ao19 t1021.length co19 : Value).ownBlock ∧ some k_ ≠ (.slice Ao23 t1026.length co23 : Value).ownBlock ∧ some k_ ≠ (.slice Ao27 t1029.length co27 : Value).ownBlock ∧ some k_ ≠ (.slice Ao28 t1032.length co28 : Value).ownBlock ∧ some k_ ≠ (.slice Ao72 t1040.length co72 : Value).ownBlock ∧ some k_ ≠ (.slice Ao74 t1043.length co74 : Value).ownBlock ∧ some k_ ≠ (.slice Ao76 t1046.length co76 : Value).ownBlock) (.slice (some ad1039) t1003.length co9) t1003) := ⟨rl (Kd.R_mono (Kd.R_far (p := ⟨gb1050, 2, none⟩) (Kd.R_far (p := ⟨gb1050, 1, none⟩) (Kd.R_far (p := ⟨gb1050, 0, none⟩) (Kd.R_types HO_1015000.out BK1050.out (by decide)) (fun _ hk => hk.2) (.slice Ao72 t1040.length co72)) (fun _ hk => hk.2) (.slice Ao74 t1043.length co74)) (fun _ hk => hk.2) (.slice Ao76 t1046.length co76)) (fun _ hk => by simp only [ne_eq] at hk ⊢; simp only [hk, not_false_eq_true, and_self]))⟩
                      have n1_ : Aside0 (Kd.R (Kd.int .i64) 3 (((w71.setCell ⟨gb1050, 0, none⟩ (.slice Ao72 t1040.length co72)).setCell ⟨gb1050, 1, none⟩ (.slice Ao74 t1043.length co74)).setCell ⟨gb1050, 2, none⟩ (.slice Ao76 t1046.length co76)) w.heap.size (fun k_ => some k_ ≠ (.slice (some ad1039) t1003.length co9 : Value).ownBlock ∧ some k_ ≠ (.slice Ao12 t1009.length co12 : Value).ownBlock ∧ some k_ ≠ (.slice Ao15 t1015.length co15 : Value).ownBlock ∧ some k_ ≠ (.slice Ao18 t1018.length co18 : Value).ownBlock ∧ some k_ ≠ (.slice Ao19 t1021.length co19 : Value).ownBlock ∧ some k_ ≠ (.slice Ao23 t1026.length co23 : Value).ownBlock ∧ some k_ ≠ (.slice Ao27 t1029.length co27 : Value).ownBlock ∧ some k_ ≠ (.slice Ao28 t1032.length co28 : Value).ownBlock ∧ some k_ ≠ (.slice Ao72 t1040.length co72 : Value).ownBlock ∧ some k_ ≠ (.slice Ao74 t1043.length co74 : Value).ownBlock ∧ some k_ ≠ (.slice Ao76 t1046.length co76 : Value).ownBlock) (.slice Ao11 t1006.length co11) t1006) := ⟨rl (Kd.R_mono (Kd.R_far (p := ⟨gb1050, 2, none⟩) (Kd.R_far (p := ⟨gb1050, 1, none⟩) (Kd.R_far (p := ⟨gb1050, 0, none⟩) (Kd.R_types HO_1015001.out BK1050.out (by decide)) (fun _ hk => hk.2) (.slice Ao72 t1040.length co72)) (fun _ hk => hk.2) (.slice Ao74 t1043.length co74)) (fun _ hk => hk.2) (.slice Ao76 t1046.length co76)) (fun _ hk => by simp only [ne_eq] at hk ⊢; simp only [hk, not_false_eq_true, and_self]))⟩
                      have n2_ : Aside0 (Kd.R (Kd.int .i64) 3 (((w71.setCell ⟨gb1050, 0, none⟩ (.slice Ao72 t1040.length co72)).setCell ⟨gb1050, 1, none⟩ (.slice Ao74 t1043.length co74)).setCell ⟨gb1050, 2, none⟩ (.slice Ao76 t1046.length co76)) w.heap.size (fun k_ => some k_ ≠ (.slice (some ad1039) t1003.length co9 : Value).ownBlock ∧ some k_ ≠ (.slice Ao11 t1006.length co11 : Value).ownBlock ∧ some k_ ≠ (.slice Ao15 t1015.length co15 : Value).ownBlock ∧ some k_ ≠ (.slice Ao18 t1018.length co18 : Value).ownBlock ∧ some k_ ≠ (.slice Ao19 t1021.length co19 : Value).ownBlock ∧ some k_ ≠ (.slice Ao23 t1026.length co23 : Value).ownBlock ∧ some k_ ≠ (.slice Ao27 t1029.length co27 : Value).ownBlock ∧ some k_ ≠ (.slice Ao28 t1032.length co28 : Value).ownBlock ∧ some k_ ≠ (.slice Ao72 t1040.length co72 : Value).ownBlock ∧ some k_ ≠ (.slice Ao74 t1043.length co74 : Value).ownBlock ∧ some k_ ≠ (.slice Ao76 t1046.length co76 : Value).ownBlock) (.slice Ao12 t1009.length co12) t1009) := ⟨rl (Kd.R_mono (Kd.R_far (p := ⟨gb1050, 2, none⟩) (Kd.R_far (p := ⟨gb1050, 1, none⟩) (Kd.R_far (p := ⟨gb1050, 0, none⟩) (Kd.R_types HO_1015002.out BK1050.out (by decide)) (fun _ hk => hk.2) (.slice Ao72 t1040.length co72)) (fun _ hk => hk.2) (.slice Ao74 t1043.length co74)) (fun _ hk => hk.2) (.slice Ao76 t1046.length co76)) (fun _ hk => by simp only [ne_eq] at hk ⊢; simp only [hk, not_false_eq_true, and_self]))⟩
                      have n3_ : Aside0 (Kd.R (Kd.int .i64) 3 (((w71.setCell ⟨gb1050, 0, none⟩ (.slice Ao72 t1040.length co72)).setCell ⟨gb1050, 1, none⟩ (.slice Ao74 t1043.length co74)).setCell ⟨gb1050, 2, none⟩ (.slice Ao76 t1046.length co76)) w.heap.size (fun k_ => some k_ ≠ (.slice (some ad1039) t1003.length co9 : Value).ownBlock ∧ some k_ ≠ (.slice Ao11 t1006.length co11 : Value).ownBlock ∧ some k_ ≠ (.slice Ao12 t1009.length co12 : Value).ownBlock ∧ some k_ ≠ (.slice Ao18 t1018.length co18 : Value).ownBlock ∧ some k_ ≠ (.slice Ao19 t1021.length co19 : Value).ownBlock ∧ some k_ ≠ (.slice Ao23 t1026.length co23 : Value).ownBlock ∧ some k_ ≠ (.slice Ao27 t1029.length co27 : Value).ownBlock ∧ some k_ ≠ (.slice Ao28 t1032.length co28 : Value).ownBlock ∧ some k_ ≠ (.slice Ao72 t1040.length co72 : Value).ownBlock ∧ some k_ ≠ (.slice Ao74 t1043.length co74 : Value).ownBlock ∧ some k_ ≠ (.slice Ao76 t1046.length co76 : Value).ownBlock) (.slice Ao15 t1015.length co15) t1015) := ⟨rl (Kd.R_mono (Kd.R_far (p := ⟨gb1050, 2, none⟩) (Kd.R_far (p := ⟨gb1050, 1, none⟩) (Kd.R_far (p := ⟨gb1050, 0, none⟩) (Kd.R_types HO_1026000.out BK1050.out (by decide)) (fun _ hk => hk.2) (.slice Ao72 t1040.length co72)) (fun _ hk => hk.2) (.slice Ao74 t1043.length co74)) (fun _ hk => hk.2) (.slice Ao76 t1046.length co76)) (fun _ hk => by simp only [ne_eq] at hk ⊢; simp only [hk, not_false_eq_true, and_self]))⟩
                      have n4_ : Aside0 (Kd.R (Kd.int .i64) 3 (((w71.setCell ⟨gb1050, 0, none⟩ (.slice Ao72 t1040.length co72)).setCell ⟨gb1050, 1, none⟩ (.slice Ao74 t1043.length co74)).setCell ⟨gb1050, 2, none⟩ (.slice Ao76 t1046.length co76)) w.heap.size (fun k_ => some k_ ≠ (.slice (some ad1039) t1003.length co9 : Value).ownBlock ∧ some k_ ≠ (.slice Ao11 t1006.length co11 : Value).ownBlock ∧ some k_ ≠ (.slice Ao12 t1009.length co12 : Value).ownBlock ∧ some k_ ≠ (.slice Ao15 t1015.length co15 : Value).ownBlock ∧ some k_ ≠ (.slice Ao19 t1021.length co19 : Value).ownBlock ∧ some k_ ≠ (.slice Ao23 t1026.length co23 : Value).ownBlock ∧ some k_ ≠ (.slice Ao27 t1029.length co27 : Value).ownBlock ∧ some k_ ≠ (.slice Ao28 t1032.length co28 : Value).ownBlock ∧ some k_ ≠ (.slice Ao72 t1040.length co72 : Value).ownBlock ∧ some k_ ≠ (.slice Ao74 t1043.length co74 : Value).ownBlock ∧ some k_ ≠ (.slice Ao76 t1046.length co76 : Value).ownBlock) (.slice Ao18 t1018.length co18) t1018) := ⟨rl (Kd.R_mono (Kd.R_far (p := ⟨gb1050, 2, none⟩) (Kd.R_far (p := ⟨gb1050, 1, none⟩) (Kd.R_far (p := ⟨gb1050, 0, none⟩) (Kd.R_types HO_1026001.out BK1050.out (by decide)) (fun _ hk => hk.2) (.slice Ao72 t1040.length co72)) (fun _ hk => hk.2) (.slice Ao74 t1043.length co74)) (fun _ hk => hk.2) (.slice Ao76 t1046.length co76)) (fun _ hk => by simp only [ne_eq] at hk ⊢; simp only [hk, not_false_eq_true, and_self]))⟩
                      have n5_ : Aside0 (Kd.R (Kd.int .i64) 3 (((w71.setCell ⟨gb1050, 0, none⟩ (.slice Ao72 t1040.length co72)).setCell ⟨gb1050, 1, none⟩ (.slice Ao74 t1043.length co74)).setCell ⟨gb1050, 2, none⟩ (.slice Ao76 t1046.length co76)) w.heap.size (fun k_ => some k_ ≠ (.slice (some ad1039) t1003.length co9 : Value).ownBlock ∧ some k_ ≠ (.slice Ao11 t1006.length co11 : Value).ownBlock ∧ some k_ ≠ (.slice Ao12 t1009.length co12 : Value).ownBlock ∧ some k_ ≠ (.slice Ao15 t1015.length co15 : Value).ownBlock ∧ some k_ ≠ (.slice Ao18 t1018.length co18 : Value).ownBlock ∧ some k_ ≠ (.slice Ao23 t1026.length co23 : Value).ownBlock ∧ some k_ ≠ (.slice Ao27 t1029.length co27 : Value).ownBlock ∧ some k_ ≠ (.slice Ao28 t1032.length co28 : Value).ownBlock ∧ some k_ ≠ (.slice Ao72 t1040.length co72 : Value).ownBlock ∧ some k_ ≠ (.slice Ao74 t1043.length co74 : Value).ownBlock ∧ some k_ ≠ (.slice Ao76 t1046.length co76 : Value).ownBlock) (.slice Ao19 t1021.length co19) t1021) := ⟨rl (Kd.R_mono (Kd.R_far (p := ⟨gb1050, 2, none⟩) (Kd.R_far (p := ⟨gb1050, 1, none⟩) (Kd.R_far (p := ⟨gb1050, 0, none⟩) (Kd.R_types HO_1026002.out BK1050.out (by decide)) (fun _ hk => hk.2) (.slice Ao72 t1040.length co72)) (fun _ hk => hk.2) (.slice Ao74 t1043.length co74)) (fun _ hk => hk.2) (.slice Ao76 t1046.length co76)) (fun _ hk => by simp only [ne_eq] at hk ⊢; simp only [hk, not_false_eq_true, and_self]))⟩
                      have n6_ : Aside0 (Kd.R (Kd.int .i64) 3 (((w71.setCell ⟨gb1050, 0, none⟩ (.slice Ao72 t1040.length co72)).setCell ⟨gb1050, 1, none⟩ (.slice Ao74 t1043.length co74)).setCell ⟨gb1050, 2, none⟩ (.slice Ao76 t1046.length co76)) w.heap.size (fun k_ => some k_ ≠ (.slice (some ad1039) t1003.length co9 : Value).ownBlock ∧ some k_ ≠ (.slice Ao11 t1006.length co11 : Value).ownBlock ∧ some k_ ≠ (.slice Ao12 t1009.length co12 : Value).ownBlock ∧ some k_ ≠ (.slice Ao15 t1015.length co15 : Value).ownBlock ∧ some k_ ≠ (.slice Ao18 t1018.length co18 : Value).ownBlock ∧ some k_ ≠ (.slice Ao19 t1021.length co19 : Value).ownBlock ∧ some k_ ≠ (.slice Ao27 t1029.length co27 : Value).ownBlock ∧ some k_ ≠ (.slice Ao28 t1032.length co28 : Value).ownBlock ∧ some k_ ≠ (.slice Ao72 t1040.length co72 : Value).ownBlock ∧ some k_ ≠ (.slice Ao74 t1043.length co74 : Value).ownBlock ∧ some k_ ≠ (.slice Ao76 t1046.length co76 : Value).ownBlock) (.slice Ao23 t1026.length co23) t1026) := ⟨rl (Kd.R_mono (Kd.R_far (p := ⟨gb1050, 2, none⟩) (Kd.R_far (p := ⟨gb1050, 1, none⟩) (Kd.R_far (p := ⟨gb1050, 0, none⟩) (Kd.R_types HO_1037000.out BK1050.out (by decide)) (fun _ hk => hk.2) (.slice Ao72 t1040.length co72)) (fun _ hk => hk.2) (.slice Ao74 t1043.length co74)) (fun _ hk => hk.2) (.slice Ao76 t1046.length co76)) (fun _ hk => by simp only [ne_eq] at hk ⊢; simp only [hk, not_false_eq_true, and_self]))⟩
                      have n7_ : Aside0 (Kd.R (Kd.int .i64) 3 (((w71.setCell ⟨gb1050, 0, none⟩ (.slice Ao72 t1040.length co72)).setCell ⟨gb1050, 1, none⟩ (.slice Ao74 t1043.length co74)).setCell ⟨gb1050, 2, none⟩ (.slice Ao76 t1046.length co76)) w.heap.size (fun k_ => some k_ ≠ (.slice (some ad1039) t1003.length co9 : Value).ownBlock ∧ some k_ ≠ (.slice Ao11 t1006.length co11 : Value).ownBlock ∧ some k_ ≠ (.slice Ao12 t1009.length co12 : Value).ownBlock ∧ some k_ ≠ (.slice Ao15 t1015.length co15 : Value).ownBlock ∧ some k_ ≠ (.slice Ao18 t1018.length co18 : Value).ownBlock ∧ some k_ ≠ (.slice Ao19 t1021.length co19 : Value).ownBlock ∧ some k_ ≠ (.slice Ao23 t1026.length co23 : Value).ownBlock ∧ some k_ ≠ (.slice Ao28 t1032.length co28 : Value).ownBlock ∧ some k_ ≠ (.slice Ao72 t1040.length co72 : Value).ownBlock ∧ some k_ ≠ (.slice Ao74 t1043.length co74 : Value).ownBlock ∧ some k_ ≠ (.slice Ao76 t1046.length co76 : Value).ownBlock) (.slice Ao27 t1029.length co27) t1029) := ⟨rl (Kd.R_mono (Kd.R_far (p := ⟨gb1050, 2, none⟩) (Kd.R_far (p := ⟨gb1050, 1, none⟩) (Kd.R_far (p := ⟨gb1050, 0, none⟩) (Kd.R_types HO_1037001.out BK1050.out (by decide)) (fun _ hk => hk.2) (.slice Ao72 t1040.length co72)) (fun _ hk => hk.2) (.slice Ao74 t1043.length co74)) (fun _ hk => hk.2) (.slice Ao76 t1046.length co76)) (fun _ hk => by simp only [ne_eq] at hk ⊢; simp only [hk, not_false_eq_true, and_self]))⟩
                      have n8_ : Aside0 (Kd.R (Kd.int .i64) 3 (((w71.setCell ⟨gb1050, 0, none⟩ (.slice Ao72 t1040.length co72)).setCell ⟨gb1050, 1, none⟩ (.slice Ao74 t1043.length co74)).setCell ⟨gb1050, 2, none⟩ (.slice Ao76 t1046.length co76)) w.heap.size (fun k_ => some k_ ≠ (.slice (some ad1039) t1003.length co9 : Value).ownBlock ∧ some k_ ≠ (.slice Ao11 t1006.length co11 : Value).ownBlock ∧ some k_ ≠ (.slice Ao12 t1009.length co12 : Value).ownBlock ∧ some k_ ≠ (.slice Ao15 t1015.length co15 : Value).ownBlock ∧ some k_ ≠ (.slice Ao18 t1018.length co18 : Value).ownBlock ∧ some k_ ≠ (.slice Ao19 t1021.length co19 : Value).ownBlock ∧ some k_ ≠ (.slice Ao23 t1026.length co23 : Value).ownBlock ∧ some k_ ≠ (.slice Ao27 t1029.length co27 : Value).ownBlock ∧ some k_ ≠ (.slice Ao72 t1040.length co72 : Value).ownBlock ∧ some k_ ≠ (.slice Ao74 t1043.length co74 : Value).ownBlock ∧ some k_ ≠ (.slice Ao76 t1046.length co76 : Value).ownBlock) (.slice Ao28 t1032.length co28) t1032) := ⟨rl (Kd.R_mono (Kd.R_far (p := ⟨gb1050, 2, none⟩) (Kd.R_far (p := ⟨gb1050, 1, none⟩) (Kd.R_far (p := ⟨gb1050, 0, none⟩) (Kd.R_types HO_1037002.out BK1050.out (by decide)) (fun _ hk => hk.2) (.slice Ao72 t1040.length co72)) (fun _ hk => hk.2) (.slice Ao74 t1043.length co74)) (fun _ hk => hk.2) (.slice Ao76 t1046.length co76)) (fun _ hk => by simp only [ne_eq] at hk ⊢; simp only [hk, not_false_eq_true, and_self]))⟩
                      have n9_ : Aside0 (Kd.R (Kd.int .i64) 3 (((w71.setCell ⟨gb1050, 0, none⟩ (.slice Ao72 t1040.length co72)).setCell ⟨gb1050, 1, none⟩ (.slice Ao74 t1043.length co74)).setCell ⟨gb1050, 2, none⟩ (.slice Ao76 t1046.length co76)) w.heap.size (fun k_ => some k_ ≠ (.slice (some ad1039) t1003.length co9 : Value).ownBlock ∧ some k_ ≠ (.slice Ao11 t1006.length co11 : Value).ownBlock ∧ some k_ ≠ (.slice Ao12 t1009.length co12 : Value).ownBlock ∧ some k_ ≠ (.slice Ao15 t1015.length co15 : Value).ownBlock ∧ some k_ ≠ (.slice Ao18 t1018.length co18 : Value).ownBlock ∧ some k_ ≠ (.slice Ao19 t1021.length co19 : Value).ownBlock ∧ some k_ ≠ (.slice Ao23 t1026.length co23 : Value).ownBlock ∧ some k_ ≠ (.slice Ao27 t1029.length co27 : Value).ownBlock ∧ some k_ ≠ (.slice Ao28 t1032.length co28 : Value).ownBlock ∧ some k_ ≠ (.slice Ao74 t1043.length co74 : Value).ownBlock ∧ some k_ ≠ (.slice Ao76 t1046.length co76 : Value).ownBlock) (.slice Ao72 t1040.length co72) t1040) := ⟨rl (Kd.R_mono (Kd.R_far (p := ⟨gb1050, 2, none⟩) (Kd.R_far (p := ⟨gb1050, 1, none⟩) (Kd.R_far (p := ⟨gb1050, 0, none⟩) (Kd.R_types HO1042.out BK1050.out (by decide)) (fun _ hk => hk.2) (.slice Ao72 t1040.length co72)) (fun _ hk => hk.2) (.slice Ao74 t1043.length co74)) (fun _ hk => hk.2) (.slice Ao76 t1046.length co76)) (fun _ hk => by simp only [ne_eq] at hk ⊢; simp only [hk, not_false_eq_true, and_self]))⟩
                      have n10_ : Aside0 (Kd.R (Kd.int .i64) 3 (((w71.setCell ⟨gb1050, 0, none⟩ (.slice Ao72 t1040.length co72)).setCell ⟨gb1050, 1, none⟩ (.slice Ao74 t1043.length co74)).setCell ⟨gb1050, 2, none⟩ (.slice Ao76 t1046.length co76)) w.heap.size (fun k_ => some k_ ≠ (.slice (some ad1039) t1003.length co9 : Value).ownBlock ∧ some k_ ≠ (.slice Ao11 t1006.length co11 : Value).ownBlock ∧ some k_ ≠ (.slice Ao12 t1009.length co12 : Value).ownBlock ∧ some k_ ≠ (.slice Ao15 t1015.length co15 : Value).ownBlock ∧ some k_ ≠ (.slice Ao18 t1018.length co18 : Value).ownBlock ∧ some k_ ≠ (.slice Ao19 t1021.length co19 : Value).ownBlock ∧ some k_ ≠ (.slice Ao23 t1026.length co23 : Value).ownBlock ∧ some k_ ≠ (.slice Ao27 t1029.length co27 : Value).ownBlock ∧ some k_ ≠ (.slice Ao28 t1032.length co28 : Value).ownBlock ∧ some k_ ≠ (.slice Ao72 t1040.length co72 : Value).ownBlock ∧ some k_ ≠ (.slice Ao76 t1046.length co76 : Value).ownBlock) (.slice Ao74 t1043.length co74) t1043) := ⟨rl (Kd.R_mono (Kd.R_far (p := ⟨gb1050, 2, none⟩) (Kd.R_far (p := ⟨gb1050, 1, none⟩) (Kd.R_far (p := ⟨gb1050, 0, none⟩) (Kd.R_types HO1045.out BK1050.out (by decide)) (fun _ hk => hk.2) (.slice Ao72 t1040.length co72)) (fun _ hk => hk.2) (.slice Ao74 t1043.length co74)) (fun _ hk => hk.2) (.slice Ao76 t1046.length co76)) (fun _ hk => by simp only [ne_eq] at hk ⊢; simp only [hk, not_false_eq_true, and_self]))⟩
                      have n11_ : Aside0 (Kd.R (Kd.int .i64) 3 (((w71.setCell ⟨gb1050, 0, none⟩ (.slice Ao72 t1040.length co72)).setCell ⟨gb1050, 1, none⟩ (.slice Ao74 t1043.length co74)).setCell ⟨gb1050, 2, none⟩ (.slice Ao76 t1046.length co76)) w.heap.size (fun k_ => some k_ ≠ (.slice (some ad1039) t1003.length co9 : Value).ownBlock ∧ some k_ ≠ (.slice Ao11 t1006.length co11 : Value).ownBlock ∧ some k_ ≠ (.slice Ao12 t1009.length co12 : Value).ownBlock ∧ some k_ ≠ (.slice Ao15 t1015.length co15 : Value).ownBlock ∧ some k_ ≠ (.slice Ao18 t1018.length co18 : Value).ownBlock ∧ some k_ ≠ (.slice Ao19 t1021.length co19 : Value).ownBlock ∧ some k_ ≠ (.slice Ao23 t1026.length co23 : Value).ownBlock ∧ some k_ ≠ (.slice Ao27 t1029.length co27 : Value).ownBlock ∧ some k_ ≠ (.slice Ao28 t1032.length co28 : Value).ownBlock ∧ some k_ ≠ (.slice Ao72 t1040.length co72 : Value).ownBlock ∧ some k_ ≠ (.slice Ao74 t1043.length co74 : Value).ownBlock) (.slice Ao76 t1046.length co76) t1046) := ⟨rl (Kd.R_mono (Kd.R_far (p := ⟨gb1050, 2, none⟩) (Kd.R_far (p := ⟨gb1050, 1, none⟩) (Kd.R_far (p := ⟨gb1050, 0, none⟩) (Kd.R_types HO1048.out BK1050.out (by decide)) (fun _ hk => hk.2) (.slice Ao72 t1040.length co72)) (fun _ hk => hk.2) (.slice Ao74 t1043.length co74)) (fun _ hk => hk.2) (.slice Ao76 t1046.length co76)) (fun _ hk => by simp only [ne_eq] at hk ⊢; simp only [hk, not_false_eq_true, and_self]))⟩
                      have n12_ : Aside0 ((((w71.setCell ⟨gb1050, 0, none⟩ (.slice Ao72 t1040.length co72)).setCell ⟨gb1050, 1, none⟩ (.slice Ao74 t1043.length co74)).setCell ⟨gb1050, 2, none⟩ (.slice Ao76 t1046.length co76)).heap[gb1014]? = some (.cells #[.slice (some ad1039) t1003.length co9, .slice Ao11 t1006.length co11, .slice Ao12 t1009.length co12] 28 (0, 0))) := ⟨by (with_reducible repeat (first | refine blk_drewN ?_ _ | refine blk_drew ?_ | refine blk_alloc ?_ _)); refine blk_far ?_ NB1014_1050.out _; (with_reducible repeat (first | refine blk_drewN ?_ _ | refine blk_drew ?_ | refine blk_alloc ?_ _)); refine blk_far ?_ NB1014_1050.out _; (with_reducible repeat (first | refine blk_drewN ?_ _ | refine blk_drew ?_ | refine blk_alloc ?_ _)); refine blk_far ?_ NB1014_1050.out _; (with_reducible repeat (first | refine blk_drewN ?_ _ | refine blk_drew ?_ | refine blk_alloc ?_ _)); exact BK1014.out⟩
                      have n13_ : Aside0 ((((w71.setCell ⟨gb1050, 0, none⟩ (.slice Ao72 t1040.length co72)).setCell ⟨gb1050, 1, none⟩ (.slice Ao74 t1043.length co74)).setCell ⟨gb1050, 2, none⟩ (.slice Ao76 t1046.length co76)).heap[gb1025]? = some (.cells #[.slice Ao15 t1015.length co15, .slice Ao18 t1018.length co18, .slice Ao19 t1021.length co19] 28 (0, 0))) := ⟨by (with_reducible repeat (first | refine blk_drewN ?_ _ | refine blk_drew ?_ | refine blk_alloc ?_ _)); refine blk_far ?_ NB1025_1050.out _; (with_reducible repeat (first | refine blk_drewN ?_ _ | refine blk_drew ?_ | refine blk_alloc ?_ _)); refine blk_far ?_ NB1025_1050.out _; (with_reducible repeat (first | refine blk_drewN ?_ _ | refine blk_drew ?_ | refine blk_alloc ?_ _)); refine blk_far ?_ NB1025_1050.out _; (with_reducible repeat (first | refine blk_drewN ?_ _ | refine blk_drew ?_ | refine blk_alloc ?_ _)); exact BK1025.out⟩
                      have n14_ : Aside0 ((((w71.setCell ⟨gb1050, 0, none⟩ (.slice Ao72 t1040.length co72)).setCell ⟨gb1050, 1, none⟩ (.slice Ao74 t1043.length co74)).setCell ⟨gb1050, 2, none⟩ (.slice Ao76 t1046.length co76)).heap[gb1036]? = some (.cells #[.slice Ao23 t1026.length co23, .slice Ao27 t1029.length co27, .slice Ao28 t1032.length co28] 28 (0, 0))) := ⟨by (with_reducible repeat (first | refine blk_drewN ?_ _ | refine blk_drew ?_ | refine blk_alloc ?_ _)); refine blk_far ?_ NB1036_1050.out _; (with_reducible repeat (first | refine blk_drewN ?_ _ | refine blk_drew ?_ | refine blk_alloc ?_ _)); refine blk_far ?_ NB1036_1050.out _; (with_reducible repeat (first | refine blk_drewN ?_ _ | refine blk_drew ?_ | refine blk_alloc ?_ _)); refine blk_far ?_ NB1036_1050.out _; (with_reducible repeat (first | refine blk_drewN ?_ _ | refine blk_drew ?_ | refine blk_alloc ?_ _)); exact BK1036.out⟩
                      have n15_ : Aside0 ((((w71.setCell ⟨gb1050, 0, none⟩ (.slice Ao72 t1040.length co72)).setCell ⟨gb1050, 1, none⟩ (.slice Ao74 t1043.length co74)).setCell ⟨gb1050, 2, none⟩ (.slice Ao76 t1046.length co76)).heap[gb1050]? = some (.cells #[.slice Ao72 t1040.length co72, .slice Ao74 t1043.length co74, .slice Ao76 t1046.length co76] 28 (0, 0))) := ⟨by (with_reducible repeat (first | refine blk_drewN ?_ _ | refine blk_drew ?_ | refine blk_alloc ?_ _)); refine blk_put (cs := #[.slice Ao72 t1040.length co72, .slice Ao74 t1043.length co74, .slice none 0 0]) ?_ 2 _ rfl; (with_reducible repeat (first | refine blk_drewN ?_ _ | refine blk_drew ?_ | refine blk_alloc ?_ _)); refine blk_put (cs := #[.slice Ao72 t1040.length co72, .slice none 0 0, .slice none 0 0]) ?_ 1 _ rfl; (with_reducible repeat (first | refine blk_drewN ?_ _ | refine blk_drew ?_ | refine blk_alloc ?_ _)); refine blk_put (cs := #[.slice none 0 0, .slice none 0 0, .slice none 0 0]) ?_ 0 _ rfl; (with_reducible repeat (first | refine blk_drewN ?_ _ | refine blk_drew ?_ | refine blk_alloc ?_ _)); exact BK1050.out⟩
                      have n16_ : Aside0 (Below w.heap.size w (((w71.setCell ⟨gb1050, 0, none⟩ (.slice Ao72 t1040.length co72)).setCell ⟨gb1050, 1, none⟩ (.slice Ao74 t1043.length co74)).setCell ⟨gb1050, 2, none⟩ (.slice Ao76 t1046.length co76))) := ⟨by repeat (first | (with_reducible first | exact HB.out | apply below_alloc | apply pw_below_drewN | apply below_drew1 | refine below_set ?_ GE1014.out | refine below_set ?_ GE1025.out | refine below_set ?_ GE1036.out | refine below_set ?_ GE1050.out) | exact HB.out)⟩
                      (try clear HO_1015000)
                      (try clear HO_1015001)
                      (try clear HO_1015002)
                      (try clear HO_1026000)
                      (try clear HO_1026001)
                      (try clear HO_1026002)
                      (try clear HO_1037000)
                      (try clear HO_1037001)
                      (try clear HO_1037002)
                      (try clear HO1042)
                      (try clear HO1045)
                      (try clear HO1048)
                      (try clear BK1014)
                      (try clear BK1025)
                      (try clear BK1036)
                      (try clear BK1050)
                      (try clear HB)
                      generalize (((w71.setCell ⟨gb1050, 0, none⟩ (.slice Ao72 t1040.length co72)).setCell ⟨gb1050, 1, none⟩ (.slice Ao74 t1043.length co74)).setCell ⟨gb1050, 2, none⟩ (.slice Ao76 t1046.length co76)) = w78 at n0_ n1_ n2_ n3_ n4_ n5_ n6_ n7_ n8_ n9_ n10_ n11_ n12_ n13_ n14_ n15_ n16_ ⊢
                      have HO_1015000 := n0_
                      have HO_1015001 := n1_
                      have HO_1015002 := n2_
                      have HO_1026000 := n3_
                      have HO_1026001 := n4_
                      have HO_1026002 := n5_
                      have HO_1037000 := n6_
                      have HO_1037001 := n7_
                      have HO_1037002 := n8_
                      have HO1042 := n9_
                      have HO1045 := n10_
                      have HO1048 := n11_
                      have BK1014 := n12_
                      have BK1025 := n13_
                      have BK1036 := n14_
                      have BK1050 := n15_
                      have HB := n16_
                      clear n0_ n1_ n2_ n3_ n4_ n5_ n6_ n7_ n8_ n9_ n10_ n11_ n12_ n13_ n14_ n15_ n16_
                      have hnb79 := NB1025_1014.out
                      have hnc79 := NB1014_1025.out
                      have hnb80 := NB1025_1036.out
                      have hnc80 := NB1036_1025.out
                      have hnb81 := NB1025_1050.out
                      have hnc81 := NB1050_1025.out
                      have hcz82_0 : w78.cell? ⟨gb1025, 0, none⟩ = some (.slice Ao15 t1015.length co15) := (blk_cell BK1025.out 0).trans rfl
                      have hcz82_1 : w78.cell? ⟨gb1025, 1, none⟩ = some (.slice Ao18 t1018.length co18) := (blk_cell BK1025.out 1).trans rfl
                      have hcz82_2 : w78.cell? ⟨gb1025, 2, none⟩ = some (.slice Ao19 t1021.length co19) := (blk_cell BK1025.out 2).trans rfl
                      have hfz82_0 := blk_frozen BK1025.out 0
                      have hfz82_1 := blk_frozen BK1025.out 1
                      have hfz82_2 := blk_frozen BK1025.out 2
                      try go_wp2_with (first | ((with_reducible refine gate_callee (f := 20) rfl ?_); refine goesL_ (some 68) rfl rfl Try.func20 (by kernel_rfl) rfl #[.agg #[.slice Ao15 t1015.length co15, .slice Ao18 t1018.length co18, .slice Ao19 t1021.length co19]] rfl (by (try simp only [List.map_toArray, List.map_cons, List.map_nil]); first | done | rfl | (simp only [List.length_drop, List.length_take]; rfl)) ?_; (with_reducible refine (impl_HeapValid.calls kj5 (fun k_ => some k_ = (.slice Ao15 t1015.length co15 : Value).ownBlock) _ _ t1015 (fun k_ => some k_ = (.slice Ao18 t1018.length co18 : Value).ownBlock) _ _ t1018 (fun k_ => some k_ = (.slice Ao19 t1021.length co19 : Value).ownBlock) _ _ t1021 true _ ?side1 ?side2 ?side3 A62.out).mono ?_); (case side1 => exact Kd.R_V (Kd.R_tight rfl (Kd.R_types (Kd.R_types (Kd.R_types (Kd.R_types (HO_1026000.out) BK1014.out (by decide)) BK1025.out (by decide)) BK1036.out (by decide)) BK1050.out (by decide)))); (case side2 => exact Kd.R_V (Kd.R_tight rfl (Kd.R_types (Kd.R_types (Kd.R_types (Kd.R_types (HO_1026001.out) BK1014.out (by decide)) BK1025.out (by decide)) BK1036.out (by decide)) BK1050.out (by decide)))); (case side3 => exact Kd.R_V (Kd.R_tight rfl (Kd.R_types (Kd.R_types (Kd.R_types (Kd.R_types (HO_1026002.out) BK1014.out (by decide)) BK1025.out (by decide)) BK1036.out (by decide)) BK1050.out (by decide)))); rintro e w83 ⟨rfl, hb⟩; refine ⟨_, rfl, ?_⟩; have n0_ := am (Kd.R_below (rl HO_1015000.out) hb); have n1_ := am (Kd.R_below (rl HO_1015001.out) hb); have n2_ := am (Kd.R_below (rl HO_1015002.out) hb); have n3_ := am (Kd.R_below (rl HO_1026000.out) hb); have n4_ := am (Kd.R_below (rl HO_1026001.out) hb); have n5_ := am (Kd.R_below (rl HO_1026002.out) hb); have n6_ := am (Kd.R_below (rl HO_1037000.out) hb); have n7_ := am (Kd.R_below (rl HO_1037001.out) hb); have n8_ := am (Kd.R_below (rl HO_1037002.out) hb); have n9_ := am (Kd.R_below (rl HO1042.out) hb); have n10_ := am (Kd.R_below (rl HO1045.out) hb); have n11_ := am (Kd.R_below (rl HO1048.out) hb); have n12_ := am (blk_below (g := gb1014) (o := .cells #[.slice (some ad1039) t1003.length co9, .slice Ao11 t1006.length co11, .slice Ao12 t1009.length co12] 28 (0, 0)) (kl BK1014.out) hb); have n13_ := am (blk_below (g := gb1025) (o := .cells #[.slice Ao15 t1015.length co15, .slice Ao18 t1018.length co18, .slice Ao19 t1021.length co19] 28 (0, 0)) (kl BK1025.out) hb); have n14_ := am (blk_below (g := gb1036) (o := .cells #[.slice Ao23 t1026.length co23, .slice Ao27 t1029.length co27, .slice Ao28 t1032.length co28] 28 (0, 0)) (kl BK1036.out) hb); have n15_ := am (blk_below (g := gb1050) (o := .cells #[.slice Ao72 t1040.length co72, .slice Ao74 t1043.length co74, .slice Ao76 t1046.length co76] 28 (0, 0)) (kl BK1050.out) hb); have n16_ := am (below_step (by repeat (first | (with_reducible first | exact HB.out | apply below_alloc | apply pw_below_drewN | apply below_drew1 | refine below_set ?_ GE1014.out | refine below_set ?_ GE1025.out | refine below_set ?_ GE1036.out | refine below_set ?_ GE1050.out) | exact HB.out)) hb); clear HO_1015000; clear HO_1015001; clear HO_1015002; clear HO_1026000; clear HO_1026001; clear HO_1026002; clear HO_1037000; clear HO_1037001; clear HO_1037002; clear HO1042; clear HO1045; clear HO1048; clear BK1014; clear BK1025; clear BK1036; clear BK1050; clear HB; have HO_1015000 := n0_; have HO_1015001 := n1_; have HO_1015002 := n2_; have HO_1026000 := n3_; have HO_1026001 := n4_; have HO_1026002 := n5_; have HO_1037000 := n6_; have HO_1037001 := n7_; have HO_1037002 := n8_; have HO1042 := n9_; have HO1045 := n10_; have HO1048 := n11_; have BK1014 := n12_; have BK1025 := n13_; have BK1036 := n14_; have BK1050 := n15_; have HB := n16_; clear n0_ n1_ n2_ n3_ n4_ n5_ n6_ n7_ n8_ n9_ n10_ n11_ n12_ n13_ n14_ n15_ n16_; (try clear hb); (try clear hb2); (try clear hk); (try clear hi); have hcz84_0 : w83.cell? ⟨gb1025, 0, none⟩ = some (.slice Ao15 t1015.length co15) := (blk_cell BK1025.out 0).trans rfl; have hcz84_1 : w83.cell? ⟨gb1025, 1, none⟩ = some (.slice Ao18 t1018.length co18) := (blk_cell BK1025.out 1).trans rfl; have hcz84_2 : w83.cell? ⟨gb1025, 2, none⟩ = some (.slice Ao19 t1021.length co19) := (blk_cell BK1025.out 2).trans rfl; have hfz84_0 := blk_frozen BK1025.out 0; have hfz84_1 := blk_frozen BK1025.out 1; have hfz84_2 := blk_frozen BK1025.out 2; have p1052 : 0 ≤ (t1012 : Int) := of_decide_eq_true (by first | (with_reducible assumption) | assumption); have q1052 : t1012 < (t1015.length : Int) := of_decide_eq_true (by first | (with_reducible assumption) | assumption); obtain ⟨ad1052, e1052, hx1052_0⟩ := Kd.at_int (Kd.R_reads' HO_1026000.out).2.2 t1012 p1052 q1052; cases e1052; replace p1052 := eq_true p1052; replace q1052 := eq_true q1052; have hnb85 := NB1050_1014.out; have hnc85 := NB1014_1050.out; have hnb86 := NB1050_1036.out; have hnc86 := NB1036_1050.out; have hcz87_0 : w83.cell? ⟨gb1050, 0, none⟩ = some (.slice Ao72 t1040.length co72) := (blk_cell BK1050.out 0).trans rfl; have hcz87_1 : w83.cell? ⟨gb1050, 1, none⟩ = some (.slice Ao74 t1043.length co74) := (blk_cell BK1050.out 1).trans rfl; have hcz87_2 : w83.cell? ⟨gb1050, 2, none⟩ = some (.slice Ao76 t1046.length co76) := (blk_cell BK1050.out 2).trans rfl; have hfz87_0 := blk_frozen BK1050.out 0; have hfz87_1 := blk_frozen BK1050.out 1; have hfz87_2 := blk_frozen BK1050.out 2; have hnb88 := NB1014_1036.out; have hnc88 := NB1036_1014.out; have hcz89_0 : w83.cell? ⟨gb1014, 0, none⟩ = some (.slice (some ad1039) t1003.length co9) := (blk_cell BK1014.out 0).trans rfl; have hcz89_1 : w83.cell? ⟨gb1014, 1, none⟩ = some (.slice Ao11 t1006.length co11) := (blk_cell BK1014.out 1).trans rfl; have hcz89_2 : w83.cell? ⟨gb1014, 2, none⟩ = some (.slice Ao12 t1009.length co12) := (blk_cell BK1014.out 2).trans rfl; have hfz89_0 := blk_frozen BK1014.out 0; have hfz89_1 := blk_frozen BK1014.out 1; have hfz89_2 := blk_frozen BK1014.out 2) | (go_at_call 17; (with_reducible refine (impl_HeapSame.calls kj5 _ _ t1040 _ _ t1043 _ _ t1046 _ _ t1003 _ _ t1006 _ _ t1009 t1053 _ ?side1 ?side2 ?side3 ?side4 ?side5 ?side6 ?side7 ?side8 ?side9 ?side10 ?side11 ?side12 A67.out).mono ?_); (case side1 => repeat (first | exact (Kd.R_reads' HO1042.out).2.2 | (with_reducible refine Kd.C_alloc ?_ _) | (with_reducible refine Kd.C_drewN ?_ _) | (with_reducible refine Kd.C_drew ?_))); (case side2 => exact (Kd.R_reads' HO1042.out).2.1); (case side3 => repeat (first | exact (Kd.R_reads' HO1045.out).2.2 | (with_reducible refine Kd.C_alloc ?_ _) | (with_reducible refine Kd.C_drewN ?_ _) | (with_reducible refine Kd.C_drew ?_))); (case side4 => exact (Kd.R_reads' HO1045.out).2.1); (case side5 => repeat (first | exact (Kd.R_reads' HO1048.out).2.2 | (with_reducible refine Kd.C_alloc ?_ _) | (with_reducible refine Kd.C_drewN ?_ _) | (with_reducible refine Kd.C_drew ?_))); (case side6 => exact (Kd.R_reads' HO1048.out).2.1); (case side7 => repeat (first | exact (Kd.R_reads' HO_1015000.out).2.2 | (with_reducible refine Kd.C_alloc ?_ _) | (with_reducible refine Kd.C_drewN ?_ _) | (with_reducible refine Kd.C_drew ?_))); (case side8 => exact (Kd.R_reads' HO_1015000.out).2.1); (case side9 => repeat (first | exact (Kd.R_reads' HO_1015001.out).2.2 | (with_reducible refine Kd.C_alloc ?_ _) | (with_reducible refine Kd.C_drewN ?_ _) | (with_reducible refine Kd.C_drew ?_))); (case side10 => exact (Kd.R_reads' HO_1015001.out).2.1); (case side11 => repeat (first | exact (Kd.R_reads' HO_1015002.out).2.2 | (with_reducible refine Kd.C_alloc ?_ _) | (with_reducible refine Kd.C_drewN ?_ _) | (with_reducible refine Kd.C_drew ?_))); (case side12 => exact (Kd.R_reads' HO_1015002.out).2.1); rintro e w90 ⟨rfl, hb⟩; have n0_ := am (Kd.R_below (rl HO_1015000.out) hb); have n1_ := am (Kd.R_below (rl HO_1015001.out) hb); have n2_ := am (Kd.R_below (rl HO_1015002.out) hb); have n3_ := am (Kd.R_below (rl HO_1026000.out) hb); have n4_ := am (Kd.R_below (rl HO_1026001.out) hb); have n5_ := am (Kd.R_below (rl HO_1026002.out) hb); have n6_ := am (Kd.R_below (rl HO_1037000.out) hb); have n7_ := am (Kd.R_below (rl HO_1037001.out) hb); have n8_ := am (Kd.R_below (rl HO_1037002.out) hb); have n9_ := am (Kd.R_below (rl HO1042.out) hb); have n10_ := am (Kd.R_below (rl HO1045.out) hb); have n11_ := am (Kd.R_below (rl HO1048.out) hb); have n12_ := am (blk_below (g := gb1014) (o := .cells #[.slice (some ad1039) t1003.length co9, .slice Ao11 t1006.length co11, .slice Ao12 t1009.length co12] 28 (0, 0)) (kl BK1014.out) hb); have n13_ := am (blk_below (g := gb1025) (o := .cells #[.slice (some ad1052) t1015.length co15, .slice Ao18 t1018.length co18, .slice Ao19 t1021.length co19] 28 (0, 0)) (kl BK1025.out) hb); have n14_ := am (blk_below (g := gb1036) (o := .cells #[.slice Ao23 t1026.length co23, .slice Ao27 t1029.length co27, .slice Ao28 t1032.length co28] 28 (0, 0)) (kl BK1036.out) hb); have n15_ := am (blk_below (g := gb1050) (o := .cells #[.slice Ao72 t1040.length co72, .slice Ao74 t1043.length co74, .slice Ao76 t1046.length co76] 28 (0, 0)) (kl BK1050.out) hb); have n16_ := am (below_step (by repeat (first | (with_reducible first | exact HB.out | apply below_alloc | apply pw_below_drewN | apply below_drew1 | refine below_set ?_ GE1014.out | refine below_set ?_ GE1025.out | refine below_set ?_ GE1036.out | refine below_set ?_ GE1050.out) | exact HB.out)) hb); clear HO_1015000; clear HO_1015001; clear HO_1015002; clear HO_1026000; clear HO_1026001; clear HO_1026002; clear HO_1037000; clear HO_1037001; clear HO_1037002; clear HO1042; clear HO1045; clear HO1048; clear BK1014; clear BK1025; clear BK1036; clear BK1050; clear HB; have HO_1015000 := n0_; have HO_1015001 := n1_; have HO_1015002 := n2_; have HO_1026000 := n3_; have HO_1026001 := n4_; have HO_1026002 := n5_; have HO_1037000 := n6_; have HO_1037001 := n7_; have HO_1037002 := n8_; have HO1042 := n9_; have HO1045 := n10_; have HO1048 := n11_; have BK1014 := n12_; have BK1025 := n13_; have BK1036 := n14_; have BK1050 := n15_; have HB := n16_; clear n0_ n1_ n2_ n3_ n4_ n5_ n6_ n7_ n8_ n9_ n10_ n11_ n12_ n13_ n14_ n15_ n16_; (try clear hb); (try clear hb2); (try clear hk); (try clear hi)))
                      go_ret
                      exact ⟨by first | rfl | (simp [errW_none, errW_some] <;> rfl) | (simp [*, errW_none, errW_some] <;> rfl), by repeat (first | (with_reducible first | exact HB.out | apply below_alloc | apply pw_below_drewN | apply below_drew1 | refine below_set ?_ GE1014.out | refine below_set ?_ GE1025.out | refine below_set ?_ GE1036.out | refine below_set ?_ GE1050.out) | exact HB.out)⟩
                    · replace c66 := Bool.eq_false_iff.mpr c66
                      subst c66
                      have H1 : (none) = some r := by rw [if_neg (show ¬ (false = true) by decide)] at H; exact H
                      clear H
                      have H := H1
                      clear H1
                      exact absurd H (by simp)
                  · rw [if_neg c65] at H
                    exact absurd H (by simp)
                · rw [if_neg c64] at H
                  exact absurd H (by simp)
              · replace c63 := Bool.eq_false_iff.mpr c63
                subst c63
                have H1 : (none) = some r := by rw [if_neg (show ¬ (false = true) by decide)] at H; exact H
                clear H
                have H := H1
                clear H1
                exact absurd H (by simp)
            · rw [if_neg c60] at H
              exact absurd H (by simp)
          · rw [if_neg c59] at H
            exact absurd H (by simp)

/-- THE ONE PURE STATEMENT of laws_FnPutLeft: yours. -/
def laws_FnPutLeft.Pure : Prop := ∀ (l0 : List Int), l0.length ≤ maxLen → l0.length * 1 ≤ 140737488351232 → (∀ x ∈ l0, (Lit.int .u8 x).wf = true) → ∃ k, laws_FnPutLeft.f k l0 = some true
theorem laws_FnPutLeft.walk (P : laws_FnPutLeft.Pure) (a0 : Option Addr) (len0 cap0 : Nat) (z0 : List Int) (w : World) (w0 : (a0 = none ∧ len0 = 0 ∧ cap0 = 0 ∧ z0 = []) ∨ ∃ x, a0 = some x ∧ len0 ≤ cap0 ∧ cap0 ≤ maxLen ∧ z0.length = cap0 ∧ (∀ i, i < z0.length → w.cell? (x.add i) = some (.int .u8 (z0.getD i 0))) ∧ ∀ n ∈ z0, (Lit.int .u8 n).wf = true) (y0 : len0 * 1 ≤ 140737488351232) :
    Calls Try.prog 13 #[.slice a0 len0 cap0] w fun e w' => e = .returned (.bool true) ∧ Below w.heap.size w w' := by
  obtain ⟨l0, rfl, hr0, hm0, hw0, hc0⟩ := ReadsInt.ofRowC w0
  obtain ⟨k, h⟩ := P l0 hm0 y0 hw0
  refine (laws_FnPutLeft.calls k _ _ l0 true w (Kd.C_of_reads (d := (0 : Int)) (h1 := fun _ => rfl) hr0) hc0 h).mono ?_
  rintro e w' ⟨rfl, hd⟩
  exact ⟨rfl, hd⟩

end Go.Proofs.Ythkipbdnfkpbgaa.A
