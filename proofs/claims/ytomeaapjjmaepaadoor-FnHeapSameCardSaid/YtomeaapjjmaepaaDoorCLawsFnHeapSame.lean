/- Contracts of functions of the given program (CLawsFnHeapSame). No conditions beyond those stated. -/
import Derived.Test.YtomeaapjjmaepaaDoorA0
import Derived.Test.YtomeaapjjmaepaaDoorAImplFormatHeap
import Derived.Test.YtomeaapjjmaepaaDoorAImplHeapSame
import Derived.Test.YtomeaapjjmaepaaDoorASpecDrawHeapSame
import Derived.Test.YtomeaapjjmaepaaDoorASpecHeapSame
import Derived.Test.YtomeaapjjmaepaaDoorA0
namespace Go.Proofs.YtomeaapjjmaepaaDoor.A
open Go.RowKit Go.Proofs.YtomeaapjjmaepaaDoorW.PrintWords Go.Proofs.YtomeaapjjmaepaaDoorW.PrintLast Go.Proofs.YtomeaapjjmaepaaDoorW.PrintMore
attribute [local go_sem] max2_int min2_int max_two min_two max_three min_three max_four min_four   -- for this text's walks alone
set_option linter.unusedVariables false
set_option linter.unusedSimpArgs false

/-! ### laws_FnHeapSame -/
def laws_FnHeapSame.f (k : Nat) (l0 : List Int) : Option (Bool) := if (l0.length : Int) > 1048576 then (some true) else ((spec_DrawHeapSame.f k l0).bind fun bt570 => ((impl_HeapSame.f k bt570.1 bt570.2.1 bt570.2.2.1 bt570.2.2.2.1 bt570.2.2.2.2.1 bt570.2.2.2.2.2).bind fun t590 => ((spec_HeapSame.f k bt570.1 bt570.2.1 bt570.2.2.1 bt570.2.2.2.1 bt570.2.2.2.2.1 bt570.2.2.2.2.2).bind fun t591 => (if (t590 == t591) = true then ((impl_HeapSame.f k bt570.2.2.2.1 bt570.2.2.2.2.1 bt570.2.2.2.2.2 bt570.1 bt570.2.1 bt570.2.2.1).bind fun t592 => (if (t590 == t592) = true then ((impl_HeapSame.f k bt570.1 bt570.2.1 bt570.2.2.1 bt570.1 bt570.2.1 bt570.2.2.1).bind fun t593 => (if t593 = true then (if t590 = true then ((impl_FormatHeap.f k bt570.1 bt570.2.1 bt570.2.2.1).bind fun t594 => ((impl_FormatHeap.f k bt570.2.2.2.1 bt570.2.2.2.2.1 bt570.2.2.2.2.2).bind fun t595 => (some (t594.toList == t595.toList)))) else (some true)) else (none))) else (none))) else (none)))))
theorem laws_FnHeapSame.mono : ∀ a0 k, LeO (laws_FnHeapSame.f k a0) (laws_FnHeapSame.f (k + 1) a0) := by
 intro a0 k
 unfold laws_FnHeapSame.f
 repeat' first
   | (with_reducible exact impl_FormatHeap.mono _ _ _ _)
   | (with_reducible exact impl_HeapSame.mono _ _ _ _ _ _ _)
   | (with_reducible exact spec_DrawHeapSame.mono _ _)
   | (with_reducible exact spec_HeapSame.mono _ _ _ _ _ _ _)
   | (with_reducible exact LeO.refl _)
   | (with_reducible exact LeO.none _)
   | (with_reducible refine LeO.ite ?_ ?_)
   | (with_reducible refine LeO.bind ?_ (fun _ => ?_))
   | exact impl_FormatHeap.mono _ _ _ _
   | exact impl_HeapSame.mono _ _ _ _ _ _ _
   | exact spec_DrawHeapSame.mono _ _
   | exact spec_HeapSame.mono _ _ _ _ _ _ _
   | exact LeO.none _
   | refine LeO.ite ?_ ?_
   | refine LeO.bind ?_ (fun _ => ?_)
def laws_FnHeapSame.T5 : Bool × List (List Nat × List Nat) := (true, [([], []), ([], []), ([], []), ([1, 2], [1, 2]), ([0, 3], [0, 3]), ([4, 3], [4]), ([5], [5]), ([5], [5]), ([5], [5]), ([7, 8, 5, 5], [5, 7, 8]), ([6, 9, 5], [5, 6, 9]), ([5, 10], [5, 10]), ([11, 9], [11]), ([12], [12]), ([12], [12]), ([13, 14, 12, 12], [12, 13, 14]), ([12, 15], [12, 15]), ([16, 15], [16]), ([17], [17]), ([18, 17], [17, 18]), ([19, 17, 17], [17, 19]), ([20], [20]), ([21, 20, 20], [20, 21]), ([20], [20]), ([23, 22, 20], [20, 23]), ([22, 24, 20], [20, 22, 24]), ([20, 25, 17], [17, 20, 25]), ([17, 26], [17, 26]), ([27, 24, 0, 1, 2, 3, 4, 5, 6, 7, 8, 9, 10, 11, 12, 13, 14, 15, 16, 17, 18, 19, 20, 21, 22, 23, 24, 25, 26, 27], [27])])
def laws_FnHeapSame.B5 : List Nat := [0, 0, 0, 6, 15, 31, 63, 63, 63, 447, 1023, 2047, 4095, 8191, 8191, 32767, 65535, 131071, 262143, 524287, 1048575, 2097151, 4194303, 2097151, 16777215, 33554431, 67108863, 134217727, 268435455]
theorem laws_FnHeapSame.tab5 : rtab .any (opsOf Tryd.f6 5) = laws_FnHeapSame.T5 := by kernel_rfl
theorem laws_FnHeapSame.bits5 : waitsOk laws_FnHeapSame.T5.2 laws_FnHeapSame.B5 = true := by kernel_rfl
set_option maxHeartbeats 8000000 in
set_option maxRecDepth 100000 in
theorem laws_FnHeapSame.calls (k : Nat) (A0 : Option Addr) (c0 : Nat) (l0 : List Int) (r : Bool) (w : World) (hr0 : Kd.C (Kd.int .u8) w A0 l0.length l0) (hc0 : l0.length ≤ c0) (h : laws_FnHeapSame.f k l0 = some r) :
  Calls Tryd.prog 6 #[.slice A0 l0.length c0] w fun e w' => e = .returned (.bool r) ∧ Below w.heap.size w w' := by
 have hu24 := Tryd.underlying24
 have HR0 := am hr0
 have HC0 := am hc0
 clear hr0 hc0
 have HB := am (Below.refl w.heap.size w)
 have H : (if (l0.length : Int) > 1048576 then (some true) else ((spec_DrawHeapSame.f k l0).bind fun bt570 => ((impl_HeapSame.f k bt570.1 bt570.2.1 bt570.2.2.1 bt570.2.2.2.1 bt570.2.2.2.2.1 bt570.2.2.2.2.2).bind fun t590 => ((spec_HeapSame.f k bt570.1 bt570.2.1 bt570.2.2.1 bt570.2.2.2.1 bt570.2.2.2.2.1 bt570.2.2.2.2.2).bind fun t591 => (if (t590 == t591) = true then ((impl_HeapSame.f k bt570.2.2.2.1 bt570.2.2.2.2.1 bt570.2.2.2.2.2 bt570.1 bt570.2.1 bt570.2.2.1).bind fun t592 => (if (t590 == t592) = true then ((impl_HeapSame.f k bt570.1 bt570.2.1 bt570.2.2.1 bt570.1 bt570.2.1 bt570.2.2.1).bind fun t593 => (if t593 = true then (if t590 = true then ((impl_FormatHeap.f k bt570.1 bt570.2.1 bt570.2.2.1).bind fun t594 => ((impl_FormatHeap.f k bt570.2.2.2.1 bt570.2.2.2.2.1 bt570.2.2.2.2.2).bind fun t595 => (some (t594.toList == t595.toList)))) else (some true)) else (none))) else (none))) else (none)))))) = some r := h
 clear h
 by_cases c2 : (l0.length : Int) > 1048576
 ·rw [if_pos c2] at H
  have c2b0 : decide (1048576 < (l0.length : Int)) = true := decide_eq_true c2
  have c2b1 : decide (1048576 < l0.length) = true := decide_eq_true (by omega)
  clear c2
  obtain rfl := Option.some.inj H
  go_enter Tryd.func6, Tryd.ntmps6
  go_wp2
  go_ret
  exact ⟨by first | rfl | (simp [errW_none, errW_some] <;> rfl) | (simp [*, errW_none, errW_some] <;> rfl), by exact bs0 HB.out⟩
 ·rw [if_neg c2] at H
  have c2b0 : decide (1048576 < (l0.length : Int)) = false := decide_eq_false c2
  have c2b1 : decide (1048576 < l0.length) = false := decide_eq_false (by omega)
  clear c2
  replace H := Option.bind_eq_some_iff.mp H
  obtain ⟨⟨t570, t573, t576, t579, t582, t585⟩, A30, H⟩ := H
  replace H : ((impl_HeapSame.f k t570 t573 t576 t579 t582 t585).bind fun t590 => ((spec_HeapSame.f k t570 t573 t576 t579 t582 t585).bind fun t591 => (if (t590 == t591) = true then ((impl_HeapSame.f k t579 t582 t585 t570 t573 t576).bind fun t592 => (if (t590 == t592) = true then ((impl_HeapSame.f k t570 t573 t576 t570 t573 t576).bind fun t593 => (if t593 = true then (if t590 = true then ((impl_FormatHeap.f k t570 t573 t576).bind fun t594 => ((impl_FormatHeap.f k t579 t582 t585).bind fun t595 => (some (t594.toList == t595.toList)))) else (some true)) else (none))) else (none))) else (none)))) = some r := H
  have A3 := am A30
  clear A30
  replace H := Option.bind_eq_some_iff.mp H
  obtain ⟨t590, A40, H⟩ := H
  replace H : ((spec_HeapSame.f k t570 t573 t576 t579 t582 t585).bind fun t591 => (if (t590 == t591) = true then ((impl_HeapSame.f k t579 t582 t585 t570 t573 t576).bind fun t592 => (if (t590 == t592) = true then ((impl_HeapSame.f k t570 t573 t576 t570 t573 t576).bind fun t593 => (if t593 = true then (if t590 = true then ((impl_FormatHeap.f k t570 t573 t576).bind fun t594 => ((impl_FormatHeap.f k t579 t582 t585).bind fun t595 => (some (t594.toList == t595.toList)))) else (some true)) else (none))) else (none))) else (none))) = some r := H
  have A4 := am A40
  clear A40
  replace H := Option.bind_eq_some_iff.mp H
  obtain ⟨t591, A50, H⟩ := H
  replace H : (if (t590 == t591) = true then ((impl_HeapSame.f k t579 t582 t585 t570 t573 t576).bind fun t592 => (if (t590 == t592) = true then ((impl_HeapSame.f k t570 t573 t576 t570 t573 t576).bind fun t593 => (if t593 = true then (if t590 = true then ((impl_FormatHeap.f k t570 t573 t576).bind fun t594 => ((impl_FormatHeap.f k t579 t582 t585).bind fun t595 => (some (t594.toList == t595.toList)))) else (some true)) else (none))) else (none))) else (none)) = some r := H
  have A5 := am A50
  clear A50
  by_cases c6 : (t590 == t591) = true
  ·rw [if_pos c6] at H
   have c6b0 : (t590 == t591) = true := c6
   (try (have c6b1 : decide (t590 = t591) = true := by simpa using c6))
   (try (have c6b2 : (t590 == t591) = true := by simpa using c6))
   clear c6
   replace H := Option.bind_eq_some_iff.mp H
   obtain ⟨t592, A70, H⟩ := H
   replace H : (if (t590 == t592) = true then ((impl_HeapSame.f k t570 t573 t576 t570 t573 t576).bind fun t593 => (if t593 = true then (if t590 = true then ((impl_FormatHeap.f k t570 t573 t576).bind fun t594 => ((impl_FormatHeap.f k t579 t582 t585).bind fun t595 => (some (t594.toList == t595.toList)))) else (some true)) else (none))) else (none)) = some r := H
   have A7 := am A70
   clear A70
   by_cases c8 : (t590 == t592) = true
   ·rw [if_pos c8] at H
    have c8b0 : (t590 == t592) = true := c8
    (try (have c8b1 : decide (t590 = t592) = true := by simpa using c8))
    (try (have c8b2 : (t590 == t592) = true := by simpa using c8))
    clear c8
    replace H := Option.bind_eq_some_iff.mp H
    obtain ⟨t593, A90, H⟩ := H
    replace H : (if t593 = true then (if t590 = true then ((impl_FormatHeap.f k t570 t573 t576).bind fun t594 => ((impl_FormatHeap.f k t579 t582 t585).bind fun t595 => (some (t594.toList == t595.toList)))) else (some true)) else (none)) = some r := H
    have A9 := am A90
    clear A90
    by_cases c10 : t593 = true
    ·subst c10
     have H1 : (if t590 = true then ((impl_FormatHeap.f k t570 t573 t576).bind fun t594 => ((impl_FormatHeap.f k t579 t582 t585).bind fun t595 => (some (t594.toList == t595.toList)))) else (some true)) = some r := by rw [if_pos rfl] at H; exact H
     clear H
     have H := H1
     clear H1
     by_cases c11 : t590 = true
     ·subst c11
      have H1 : ((impl_FormatHeap.f k t570 t573 t576).bind fun t594 => ((impl_FormatHeap.f k t579 t582 t585).bind fun t595 => (some (t594.toList == t595.toList)))) = some r := by rw [if_pos rfl] at H; exact H
      clear H
      have H := H1
      clear H1
      replace H := Option.bind_eq_some_iff.mp H
      obtain ⟨t594, A120, H⟩ := H
      replace H : ((impl_FormatHeap.f k t579 t582 t585).bind fun t595 => (some (t594.toList == t595.toList))) = some r := H
      have A12 := am A120
      clear A120
      replace H := Option.bind_eq_some_iff.mp H
      obtain ⟨t595, A130, H⟩ := H
      replace H : (some (t594.toList == t595.toList)) = some r := H
      have A13 := am A130
      clear A130
      obtain rfl := Option.some.inj H
      go_enter Tryd.func6, Tryd.ntmps6
      try go_wp2_with (first | ((with_reducible refine gate_callee (f := 21) rfl ?_); refine gL (some 11) rfl rfl Tryd.func21 (by kernel_rfl) rfl #[.slice A0 l0.length c0] rfl ?_; (with_reducible refine (spec_DrawHeapSame.calls k _ _ l0 t570 t573 t576 t579 t582 t585 _ ?side1 ?side2 A3.out).mono ?_); (case side1 => exact cl (HR0.out)); (case side2 => exact HC0.out); rintro e w14 ⟨v571, v574, v577, v580, v583, v586, rfl, ho0, ho1, ho2, ho3, ho4, ho5, hb⟩; refine ⟨_, rfl, ?_⟩; have HO572 := ln0 ho0 (bl HB.out); have HO575 := ln0 ho1 (bl HB.out); have HO578 := ln0 ho2 (bl HB.out); have HO581 := ln0 ho3 (bl HB.out); have HO584 := ln0 ho4 (bl HB.out); have HO587 := ln0 ho5 (bl HB.out); replace HB := am (below_step (bl HB.out) hb); (try clear hb ho0 ho1 ho2 ho3 ho4 ho5)) | ((with_reducible refine gate_dst (N := 3) rfl ?_); refine box_event ?hg (N := 3) ?hd (cs := #[.slice none 0 0, .slice none 0 0, .slice none 0 0]) (t := 24) ?hr ?_; (case hd => rfl); (case hg => rfl); (case hr => first | (go_simp; done) | (go_simp; rfl)); intro gb588 hg w15 hbox hb; replace HO572 := rb HO572 hb; replace HO575 := rb HO575 hb; replace HO578 := rb HO578 hb; replace HO581 := rb HO581 hb; replace HO584 := rb HO584 hb; replace HO587 := rb HO587 hb; have BK588 := am (hbox); have GW588 := am ((by rw [hg]; exact (below_size (bl HB.out)) : w.heap.size ≤ gb588)); have GE588 := am ((by rw [hg]; exact (below_size (bl HB.out)) : w.heap.size ≤ gb588)); replace HB := am (below_step (bl HB.out) hb); clear hb hbox hg) | ((with_reducible refine gate_dst (N := 4) rfl ?_); refine box_event ?hg (N := 4) ?hd (cs := #[.slice none 0 0, .slice none 0 0, .slice none 0 0]) (t := 24) ?hr ?_; (case hd => rfl); (case hg => rfl); (case hr => first | (go_simp; done) | (go_simp; rfl)); intro gb589 hg w16 hbox hb; replace HO572 := rb HO572 hb; replace HO575 := rb HO575 hb; replace HO578 := rb HO578 hb; replace HO581 := rb HO581 hb; replace HO584 := rb HO584 hb; replace HO587 := rb HO587 hb; have BK589 := am (hbox); have GW589 := am ((by rw [hg]; exact (below_size (bs1 GE588.out HB.out)) : w.heap.size ≤ gb589)); have GE589 := am ((by rw [hg]; exact (below_size (bs1 GE588.out HB.out)) : w.heap.size ≤ gb589)); replace HB := am (below_step (bs1 GE588.out HB.out) hb); have NB588_589 := nb BK588 hg; have NB589_588 := nc BK588 hg; replace BK588 := bb BK588 hb; clear hb hbox hg; obtain ⟨Ao17, co17, eo17⟩ := Kd.R_slice HO572.out; subst eo17; have hnb18 := NB588_589.out; have hnc18 := NB589_588.out; obtain ⟨hcz19_0, hcz19_1, hcz19_2, hfz19_0, hfz19_1, hfz19_2⟩ := cf3 BK588; obtain ⟨Ao20, co20, eo20⟩ := Kd.R_slice HO575.out; subst eo20; obtain ⟨Ao21, co21, eo21⟩ := Kd.R_slice HO578.out; subst eo21; obtain ⟨Ao22, co22, eo22⟩ := Kd.R_slice HO581.out; subst eo22; obtain ⟨hcz23_0, hcz23_1, hcz23_2, hfz23_0, hfz23_1, hfz23_2⟩ := cf3 BK589; obtain ⟨Ao24, co24, eo24⟩ := Kd.R_slice HO584.out; subst eo24; obtain ⟨Ao25, co25, eo25⟩ := Kd.R_slice HO587.out; subst eo25) | ((with_reducible refine gate_callee (f := 15) rfl ?_); refine gL (some 16) rfl rfl Tryd.func15 (by kernel_rfl) rfl #[.agg #[.slice Ao17 t570.length co17, .slice Ao20 t573.length co20, .slice Ao21 t576.length co21], .agg #[.slice Ao22 t579.length co22, .slice Ao24 t582.length co24, .slice Ao25 t585.length co25]] rfl ?_; (with_reducible refine (impl_HeapSame.calls k _ _ t570 _ _ t573 _ _ t576 _ _ t579 _ _ t582 _ _ t585 true _ ?side1 ?side2 ?side3 ?side4 ?side5 ?side6 ?side7 ?side8 ?side9 ?side10 ?side11 ?side12 A4.out).mono ?_); (case side1 => exact (Kd.R_reads' (rl ((Kd.R_mono (Kd.R_mono (Kd.R_far (p := ⟨gb589, 2, none⟩) (Kd.R_far (p := ⟨gb589, 1, none⟩) (Kd.R_far (p := ⟨gb589, 0, none⟩) (Kd.R_far (p := ⟨gb588, 2, none⟩) (Kd.R_far (p := ⟨gb588, 1, none⟩) (Kd.R_far (p := ⟨gb588, 0, none⟩) (Kd.R_types (Kd.R_types HO572.out BK588.out (by decide)) BK589.out (by decide)) (fun _ hk => by first | exact hk.1.2 | (simp only [ne_eq] at hk ⊢; simp only [hk, not_false_eq_true, and_self])) (.slice Ao17 t570.length co17)) (fun _ hk => by first | exact hk.1.2 | (simp only [ne_eq] at hk ⊢; simp only [hk, not_false_eq_true, and_self])) (.slice Ao20 t573.length co20)) (fun _ hk => by first | exact hk.1.2 | (simp only [ne_eq] at hk ⊢; simp only [hk, not_false_eq_true, and_self])) (.slice Ao21 t576.length co21)) (fun _ hk => hk.2) (.slice Ao22 t579.length co22)) (fun _ hk => hk.2) (.slice Ao24 t582.length co24)) (fun _ hk => hk.2) (.slice Ao25 t585.length co25)) (fun _ h_ => h_.1)) (fun _ h_ => h_.1))))).2.2); (case side2 => exact sc HO572); (case side3 => exact (Kd.R_reads' (rl ((Kd.R_mono (Kd.R_mono (Kd.R_far (p := ⟨gb589, 2, none⟩) (Kd.R_far (p := ⟨gb589, 1, none⟩) (Kd.R_far (p := ⟨gb589, 0, none⟩) (Kd.R_far (p := ⟨gb588, 2, none⟩) (Kd.R_far (p := ⟨gb588, 1, none⟩) (Kd.R_far (p := ⟨gb588, 0, none⟩) (Kd.R_types (Kd.R_types HO575.out BK588.out (by decide)) BK589.out (by decide)) (fun _ hk => by first | exact hk.1.2 | (simp only [ne_eq] at hk ⊢; simp only [hk, not_false_eq_true, and_self])) (.slice Ao17 t570.length co17)) (fun _ hk => by first | exact hk.1.2 | (simp only [ne_eq] at hk ⊢; simp only [hk, not_false_eq_true, and_self])) (.slice Ao20 t573.length co20)) (fun _ hk => by first | exact hk.1.2 | (simp only [ne_eq] at hk ⊢; simp only [hk, not_false_eq_true, and_self])) (.slice Ao21 t576.length co21)) (fun _ hk => hk.2) (.slice Ao22 t579.length co22)) (fun _ hk => hk.2) (.slice Ao24 t582.length co24)) (fun _ hk => hk.2) (.slice Ao25 t585.length co25)) (fun _ h_ => h_.1)) (fun _ h_ => h_.1))))).2.2); (case side4 => exact sc HO575); (case side5 => exact (Kd.R_reads' (rl ((Kd.R_mono (Kd.R_mono (Kd.R_far (p := ⟨gb589, 2, none⟩) (Kd.R_far (p := ⟨gb589, 1, none⟩) (Kd.R_far (p := ⟨gb589, 0, none⟩) (Kd.R_far (p := ⟨gb588, 2, none⟩) (Kd.R_far (p := ⟨gb588, 1, none⟩) (Kd.R_far (p := ⟨gb588, 0, none⟩) (Kd.R_types (Kd.R_types HO578.out BK588.out (by decide)) BK589.out (by decide)) (fun _ hk => by first | exact hk.1.2 | (simp only [ne_eq] at hk ⊢; simp only [hk, not_false_eq_true, and_self])) (.slice Ao17 t570.length co17)) (fun _ hk => by first | exact hk.1.2 | (simp only [ne_eq] at hk ⊢; simp only [hk, not_false_eq_true, and_self])) (.slice Ao20 t573.length co20)) (fun _ hk => by first | exact hk.1.2 | (simp only [ne_eq] at hk ⊢; simp only [hk, not_false_eq_true, and_self])) (.slice Ao21 t576.length co21)) (fun _ hk => hk.2) (.slice Ao22 t579.length co22)) (fun _ hk => hk.2) (.slice Ao24 t582.length co24)) (fun _ hk => hk.2) (.slice Ao25 t585.length co25)) (fun _ h_ => h_.1)) (fun _ h_ => h_.1))))).2.2); (case side6 => exact sc HO578); (case side7 => exact (Kd.R_reads' (rl ((Kd.R_mono (Kd.R_mono (Kd.R_far (p := ⟨gb589, 2, none⟩) (Kd.R_far (p := ⟨gb589, 1, none⟩) (Kd.R_far (p := ⟨gb589, 0, none⟩) (Kd.R_far (p := ⟨gb588, 2, none⟩) (Kd.R_far (p := ⟨gb588, 1, none⟩) (Kd.R_far (p := ⟨gb588, 0, none⟩) (Kd.R_types (Kd.R_types HO581.out BK588.out (by decide)) BK589.out (by decide)) (fun _ hk => by first | exact hk.1.2 | (simp only [ne_eq] at hk ⊢; simp only [hk, not_false_eq_true, and_self])) (.slice Ao17 t570.length co17)) (fun _ hk => by first | exact hk.1.2 | (simp only [ne_eq] at hk ⊢; simp only [hk, not_false_eq_true, and_self])) (.slice Ao20 t573.length co20)) (fun _ hk => by first | exact hk.1.2 | (simp only [ne_eq] at hk ⊢; simp only [hk, not_false_eq_true, and_self])) (.slice Ao21 t576.length co21)) (fun _ hk => hk.2) (.slice Ao22 t579.length co22)) (fun _ hk => hk.2) (.slice Ao24 t582.length co24)) (fun _ hk => hk.2) (.slice Ao25 t585.length co25)) (fun _ h_ => h_.1)) (fun _ h_ => h_.1))))).2.2); (case side8 => exact sc HO581); (case side9 => exact (Kd.R_reads' (rl ((Kd.R_mono (Kd.R_mono (Kd.R_far (p := ⟨gb589, 2, none⟩) (Kd.R_far (p := ⟨gb589, 1, none⟩) (Kd.R_far (p := ⟨gb589, 0, none⟩) (Kd.R_far (p := ⟨gb588, 2, none⟩) (Kd.R_far (p := ⟨gb588, 1, none⟩) (Kd.R_far (p := ⟨gb588, 0, none⟩) (Kd.R_types (Kd.R_types HO584.out BK588.out (by decide)) BK589.out (by decide)) (fun _ hk => by first | exact hk.1.2 | (simp only [ne_eq] at hk ⊢; simp only [hk, not_false_eq_true, and_self])) (.slice Ao17 t570.length co17)) (fun _ hk => by first | exact hk.1.2 | (simp only [ne_eq] at hk ⊢; simp only [hk, not_false_eq_true, and_self])) (.slice Ao20 t573.length co20)) (fun _ hk => by first | exact hk.1.2 | (simp only [ne_eq] at hk ⊢; simp only [hk, not_false_eq_true, and_self])) (.slice Ao21 t576.length co21)) (fun _ hk => hk.2) (.slice Ao22 t579.length co22)) (fun _ hk => hk.2) (.slice Ao24 t582.length co24)) (fun _ hk => hk.2) (.slice Ao25 t585.length co25)) (fun _ h_ => h_.1)) (fun _ h_ => h_.1))))).2.2); (case side10 => exact sc HO584); (case side11 => exact (Kd.R_reads' (rl ((Kd.R_mono (Kd.R_mono (Kd.R_far (p := ⟨gb589, 2, none⟩) (Kd.R_far (p := ⟨gb589, 1, none⟩) (Kd.R_far (p := ⟨gb589, 0, none⟩) (Kd.R_far (p := ⟨gb588, 2, none⟩) (Kd.R_far (p := ⟨gb588, 1, none⟩) (Kd.R_far (p := ⟨gb588, 0, none⟩) (Kd.R_types (Kd.R_types HO587.out BK588.out (by decide)) BK589.out (by decide)) (fun _ hk => by first | exact hk.1.2 | (simp only [ne_eq] at hk ⊢; simp only [hk, not_false_eq_true, and_self])) (.slice Ao17 t570.length co17)) (fun _ hk => by first | exact hk.1.2 | (simp only [ne_eq] at hk ⊢; simp only [hk, not_false_eq_true, and_self])) (.slice Ao20 t573.length co20)) (fun _ hk => by first | exact hk.1.2 | (simp only [ne_eq] at hk ⊢; simp only [hk, not_false_eq_true, and_self])) (.slice Ao21 t576.length co21)) (fun _ hk => hk.2) (.slice Ao22 t579.length co22)) (fun _ hk => hk.2) (.slice Ao24 t582.length co24)) (fun _ hk => hk.2) (.slice Ao25 t585.length co25)) (fun _ h_ => h_.1)) (fun _ h_ => h_.1))))).2.2); (case side12 => exact sc HO587); rintro e w26 ⟨rfl, hb⟩; refine ⟨_, rfl, ?_⟩; replace HO572 := am (Kd.R_below (rl ((Kd.R_mono (Kd.R_mono (Kd.R_far (p := ⟨gb589, 2, none⟩) (Kd.R_far (p := ⟨gb589, 1, none⟩) (Kd.R_far (p := ⟨gb589, 0, none⟩) (Kd.R_far (p := ⟨gb588, 2, none⟩) (Kd.R_far (p := ⟨gb588, 1, none⟩) (Kd.R_far (p := ⟨gb588, 0, none⟩) (Kd.R_types (Kd.R_types HO572.out BK588.out (by decide)) BK589.out (by decide)) (fun _ hk => by first | exact hk.1.2 | (simp only [ne_eq] at hk ⊢; simp only [hk, not_false_eq_true, and_self])) (.slice Ao17 t570.length co17)) (fun _ hk => by first | exact hk.1.2 | (simp only [ne_eq] at hk ⊢; simp only [hk, not_false_eq_true, and_self])) (.slice Ao20 t573.length co20)) (fun _ hk => by first | exact hk.1.2 | (simp only [ne_eq] at hk ⊢; simp only [hk, not_false_eq_true, and_self])) (.slice Ao21 t576.length co21)) (fun _ hk => hk.2) (.slice Ao22 t579.length co22)) (fun _ hk => hk.2) (.slice Ao24 t582.length co24)) (fun _ hk => hk.2) (.slice Ao25 t585.length co25)) (fun _ h_ => h_.1)) (fun _ h_ => h_.1)))) hb); replace HO575 := am (Kd.R_below (rl ((Kd.R_mono (Kd.R_mono (Kd.R_far (p := ⟨gb589, 2, none⟩) (Kd.R_far (p := ⟨gb589, 1, none⟩) (Kd.R_far (p := ⟨gb589, 0, none⟩) (Kd.R_far (p := ⟨gb588, 2, none⟩) (Kd.R_far (p := ⟨gb588, 1, none⟩) (Kd.R_far (p := ⟨gb588, 0, none⟩) (Kd.R_types (Kd.R_types HO575.out BK588.out (by decide)) BK589.out (by decide)) (fun _ hk => by first | exact hk.1.2 | (simp only [ne_eq] at hk ⊢; simp only [hk, not_false_eq_true, and_self])) (.slice Ao17 t570.length co17)) (fun _ hk => by first | exact hk.1.2 | (simp only [ne_eq] at hk ⊢; simp only [hk, not_false_eq_true, and_self])) (.slice Ao20 t573.length co20)) (fun _ hk => by first | exact hk.1.2 | (simp only [ne_eq] at hk ⊢; simp only [hk, not_false_eq_true, and_self])) (.slice Ao21 t576.length co21)) (fun _ hk => hk.2) (.slice Ao22 t579.length co22)) (fun _ hk => hk.2) (.slice Ao24 t582.length co24)) (fun _ hk => hk.2) (.slice Ao25 t585.length co25)) (fun _ h_ => h_.1)) (fun _ h_ => h_.1)))) hb); replace HO578 := am (Kd.R_below (rl ((Kd.R_mono (Kd.R_mono (Kd.R_far (p := ⟨gb589, 2, none⟩) (Kd.R_far (p := ⟨gb589, 1, none⟩) (Kd.R_far (p := ⟨gb589, 0, none⟩) (Kd.R_far (p := ⟨gb588, 2, none⟩) (Kd.R_far (p := ⟨gb588, 1, none⟩) (Kd.R_far (p := ⟨gb588, 0, none⟩) (Kd.R_types (Kd.R_types HO578.out BK588.out (by decide)) BK589.out (by decide)) (fun _ hk => by first | exact hk.1.2 | (simp only [ne_eq] at hk ⊢; simp only [hk, not_false_eq_true, and_self])) (.slice Ao17 t570.length co17)) (fun _ hk => by first | exact hk.1.2 | (simp only [ne_eq] at hk ⊢; simp only [hk, not_false_eq_true, and_self])) (.slice Ao20 t573.length co20)) (fun _ hk => by first | exact hk.1.2 | (simp only [ne_eq] at hk ⊢; simp only [hk, not_false_eq_true, and_self])) (.slice Ao21 t576.length co21)) (fun _ hk => hk.2) (.slice Ao22 t579.length co22)) (fun _ hk => hk.2) (.slice Ao24 t582.length co24)) (fun _ hk => hk.2) (.slice Ao25 t585.length co25)) (fun _ h_ => h_.1)) (fun _ h_ => h_.1)))) hb); replace HO581 := am (Kd.R_below (rl ((Kd.R_mono (Kd.R_mono (Kd.R_far (p := ⟨gb589, 2, none⟩) (Kd.R_far (p := ⟨gb589, 1, none⟩) (Kd.R_far (p := ⟨gb589, 0, none⟩) (Kd.R_far (p := ⟨gb588, 2, none⟩) (Kd.R_far (p := ⟨gb588, 1, none⟩) (Kd.R_far (p := ⟨gb588, 0, none⟩) (Kd.R_types (Kd.R_types HO581.out BK588.out (by decide)) BK589.out (by decide)) (fun _ hk => by first | exact hk.1.2 | (simp only [ne_eq] at hk ⊢; simp only [hk, not_false_eq_true, and_self])) (.slice Ao17 t570.length co17)) (fun _ hk => by first | exact hk.1.2 | (simp only [ne_eq] at hk ⊢; simp only [hk, not_false_eq_true, and_self])) (.slice Ao20 t573.length co20)) (fun _ hk => by first | exact hk.1.2 | (simp only [ne_eq] at hk ⊢; simp only [hk, not_false_eq_true, and_self])) (.slice Ao21 t576.length co21)) (fun _ hk => hk.2) (.slice Ao22 t579.length co22)) (fun _ hk => hk.2) (.slice Ao24 t582.length co24)) (fun _ hk => hk.2) (.slice Ao25 t585.length co25)) (fun _ h_ => h_.1)) (fun _ h_ => h_.1)))) hb); replace HO584 := am (Kd.R_below (rl ((Kd.R_mono (Kd.R_mono (Kd.R_far (p := ⟨gb589, 2, none⟩) (Kd.R_far (p := ⟨gb589, 1, none⟩) (Kd.R_far (p := ⟨gb589, 0, none⟩) (Kd.R_far (p := ⟨gb588, 2, none⟩) (Kd.R_far (p := ⟨gb588, 1, none⟩) (Kd.R_far (p := ⟨gb588, 0, none⟩) (Kd.R_types (Kd.R_types HO584.out BK588.out (by decide)) BK589.out (by decide)) (fun _ hk => by first | exact hk.1.2 | (simp only [ne_eq] at hk ⊢; simp only [hk, not_false_eq_true, and_self])) (.slice Ao17 t570.length co17)) (fun _ hk => by first | exact hk.1.2 | (simp only [ne_eq] at hk ⊢; simp only [hk, not_false_eq_true, and_self])) (.slice Ao20 t573.length co20)) (fun _ hk => by first | exact hk.1.2 | (simp only [ne_eq] at hk ⊢; simp only [hk, not_false_eq_true, and_self])) (.slice Ao21 t576.length co21)) (fun _ hk => hk.2) (.slice Ao22 t579.length co22)) (fun _ hk => hk.2) (.slice Ao24 t582.length co24)) (fun _ hk => hk.2) (.slice Ao25 t585.length co25)) (fun _ h_ => h_.1)) (fun _ h_ => h_.1)))) hb); replace HO587 := am (Kd.R_below (rl ((Kd.R_mono (Kd.R_mono (Kd.R_far (p := ⟨gb589, 2, none⟩) (Kd.R_far (p := ⟨gb589, 1, none⟩) (Kd.R_far (p := ⟨gb589, 0, none⟩) (Kd.R_far (p := ⟨gb588, 2, none⟩) (Kd.R_far (p := ⟨gb588, 1, none⟩) (Kd.R_far (p := ⟨gb588, 0, none⟩) (Kd.R_types (Kd.R_types HO587.out BK588.out (by decide)) BK589.out (by decide)) (fun _ hk => by first | exact hk.1.2 | (simp only [ne_eq] at hk ⊢; simp only [hk, not_false_eq_true, and_self])) (.slice Ao17 t570.length co17)) (fun _ hk => by first | exact hk.1.2 | (simp only [ne_eq] at hk ⊢; simp only [hk, not_false_eq_true, and_self])) (.slice Ao20 t573.length co20)) (fun _ hk => by first | exact hk.1.2 | (simp only [ne_eq] at hk ⊢; simp only [hk, not_false_eq_true, and_self])) (.slice Ao21 t576.length co21)) (fun _ hk => hk.2) (.slice Ao22 t579.length co22)) (fun _ hk => hk.2) (.slice Ao24 t582.length co24)) (fun _ hk => hk.2) (.slice Ao25 t585.length co25)) (fun _ h_ => h_.1)) (fun _ h_ => h_.1)))) hb); replace BK588 := am (blk_below (g := gb588) (o := .cells #[.slice Ao17 t570.length co17, .slice Ao20 t573.length co20, .slice Ao21 t576.length co21] 24 (0, 0)) (by (with_reducible repeat (first | refine blk_drewN ?_ _ | refine blk_drew ?_ | refine blk_alloc ?_ _)); refine blk_far ?_ NB588_589.out _; (with_reducible repeat (first | refine blk_drewN ?_ _ | refine blk_drew ?_ | refine blk_alloc ?_ _)); refine blk_far ?_ NB588_589.out _; (with_reducible repeat (first | refine blk_drewN ?_ _ | refine blk_drew ?_ | refine blk_alloc ?_ _)); refine blk_far ?_ NB588_589.out _; (with_reducible repeat (first | refine blk_drewN ?_ _ | refine blk_drew ?_ | refine blk_alloc ?_ _)); refine blk_put (cs := #[.slice Ao17 t570.length co17, .slice Ao20 t573.length co20, .slice none 0 0]) ?_ 2 _ rfl; (with_reducible repeat (first | refine blk_drewN ?_ _ | refine blk_drew ?_ | refine blk_alloc ?_ _)); refine blk_put (cs := #[.slice Ao17 t570.length co17, .slice none 0 0, .slice none 0 0]) ?_ 1 _ rfl; (with_reducible repeat (first | refine blk_drewN ?_ _ | refine blk_drew ?_ | refine blk_alloc ?_ _)); refine blk_put (cs := #[.slice none 0 0, .slice none 0 0, .slice none 0 0]) ?_ 0 _ rfl; (with_reducible repeat (first | refine blk_drewN ?_ _ | refine blk_drew ?_ | refine blk_alloc ?_ _)); exact BK588.out) hb); replace BK589 := bp3 (kf1 NB589_588.out BK589.out) hb; replace HB := am (below_step (bs2 GE588.out GE589.out HB.out) hb); (try clear hb)))
      replace HO572 := am (Kd.R_drew HO572.out)
      replace HO575 := am (Kd.R_drew HO575.out)
      replace HO578 := am (Kd.R_drew HO578.out)
      replace HO581 := am (Kd.R_drew HO581.out)
      replace HO584 := am (Kd.R_drew HO584.out)
      replace HO587 := am (Kd.R_drew HO587.out)
      replace BK588 := am (blk_drew BK588.out)
      replace BK589 := am (blk_drew BK589.out)
      replace HB := am (below_drew1 HB.out)
      refine start_ (n := 29) (S := fun w' => w'.cell? ⟨gb588, 0, none⟩ = some (.slice Ao17 t570.length co17) ∧ w'.cell? ⟨gb588, 1, none⟩ = some (.slice Ao20 t573.length co20) ∧ w'.cell? ⟨gb588, 2, none⟩ = some (.slice Ao21 t576.length co21) ∧ w'.cell? ⟨gb589, 0, none⟩ = some (.slice Ao22 t579.length co22) ∧ w'.cell? ⟨gb589, 1, none⟩ = some (.slice Ao24 t582.length co24) ∧ w'.cell? ⟨gb589, 2, none⟩ = some (.slice Ao25 t585.length co25)) (ds := []) #[false, false, false, false, false, false, false, false, false, false, false, false, false, false, false, false, false, false, false, false, false, false, false, false, false, false, false, false, false] (by kernel_rfl) rfl rfl ⟨(blk_cell BK588.out 0).trans rfl, (blk_cell BK588.out 1).trans rfl, (blk_cell BK588.out 2).trans rfl, (blk_cell BK589.out 0).trans rfl, (blk_cell BK589.out 1).trans rfl, (blk_cell BK589.out 2).trans rfl⟩ (fun hHeld => ?_); refine with_tabW laws_FnHeapSame.tab5 laws_FnHeapSame.bits5 (fun HT_ HW_ => ?_)
      generalize w26.drew = w27 at HO572 HO575 HO578 HO581 HO584 HO587 BK588 BK589 HB hHeld ⊢
      refine pure_ (i := 0) (N := some 17) (v := ?_) (a' := ?_) #[true, false, false, false, false, false, false, false, false, false, false, false, false, false, false, false, false, false, false, false, false, false, false, false, false, false, false, false, false] rfl rfl (any_of HT_.out (by kernel_rfl)) (fun _ _ _ h => h) (Or.inl ⟨by rfl, ?_⟩) ?_ ?_
      rotate_left
      ·intro w'
       go_simp
       with_reducible rfl
      rotate_left
      ·simp only [Act.put, List.setIfInBounds_toArray, List.set_cons_zero, List.set_cons_succ, i64_w, i32_w]
       rfl
      refine take_ (i := 1) (N := some 18) (v := ?_) (a' := ?_) #[true, true, false, false, false, false, false, false, false, false, false, false, false, false, false, false, false, false, false, false, false, false, false, false, false, false, false, false, false] rfl rfl (take_ofW HT_.out HW_.out (by kernel_rfl)) (fun _ _ _ h => h) (Or.inl ⟨by rfl, ?_⟩) hHeld ?_ ?_
      rotate_left
      ·rintro w' ⟨s0, s1, s2, s3, s4, s5⟩
       go_simp
       with_reducible rfl
      rotate_left
      ·simp only [Act.put, List.setIfInBounds_toArray, List.set_cons_zero, List.set_cons_succ, i64_w, i32_w]
       rfl
      refine take_ (i := 2) (N := some 19) (v := ?_) (a' := ?_) #[true, true, true, false, false, false, false, false, false, false, false, false, false, false, false, false, false, false, false, false, false, false, false, false, false, false, false, false, false] rfl rfl (take_ofW HT_.out HW_.out (by kernel_rfl)) (fun _ _ _ h => h) (Or.inl ⟨by rfl, ?_⟩) hHeld ?_ ?_
      rotate_left
      ·rintro w' ⟨s0, s1, s2, s3, s4, s5⟩
       go_simp
       with_reducible rfl
      rotate_left
      ·simp only [Act.put, List.setIfInBounds_toArray, List.set_cons_zero, List.set_cons_succ, i64_w, i32_w]
       rfl
      refine one_ (i := 3) (N := some 20) #[true, true, true, true, false, false, false, false, false, false, false, false, false, false, false, false, false, false, false, false, false, false, false, false, false, false, false, false, false] rfl rfl (one_of HT_.out (by kernel_rfl)) (by decide) (fun K hK => ?_)
      refine goes_ Tryd.func22 (by kernel_rfl) rfl #[.agg #[.slice Ao17 t570.length co17, .slice Ao20 t573.length co20, .slice Ao21 t576.length co21], .agg #[.slice Ao22 t579.length co22, .slice Ao24 t582.length co24, .slice Ao25 t585.length co25]] (by rfl) rfl rfl (by (try simp only [List.map_toArray, List.map_cons, List.map_nil]); first | done | rfl | (simp only [List.length_drop, List.length_take]; rfl)) ?_
      with_reducible refine (spec_HeapSame.calls k _ _ t570 _ _ t573 _ _ t576 _ _ t579 _ _ t582 _ _ t585 t591 _ ?side1 ?side2 ?side3 ?side4 ?side5 ?side6 ?side7 ?side8 ?side9 ?side10 ?side11 ?side12 A5.out).mono ?_
      (case side1 => exact cl ((Kd.R_reads' HO572.out).2.2))
      (case side2 => exact sc HO572)
      (case side3 => exact cl ((Kd.R_reads' HO575.out).2.2))
      (case side4 => exact sc HO575)
      (case side5 => exact cl ((Kd.R_reads' HO578.out).2.2))
      (case side6 => exact sc HO578)
      (case side7 => exact cl ((Kd.R_reads' HO581.out).2.2))
      (case side8 => exact sc HO581)
      (case side9 => exact cl ((Kd.R_reads' HO584.out).2.2))
      (case side10 => exact sc HO584)
      (case side11 => exact cl ((Kd.R_reads' HO587.out).2.2))
      (case side12 => exact sc HO587)
      rintro e w28 ⟨rfl, hb⟩
      refine ⟨_, rfl, ?_⟩
      replace HO572 := rb HO572 hb
      replace HO575 := rb HO575 hb
      replace HO578 := rb HO578 hb
      replace HO581 := rb HO581 hb
      replace HO584 := rb HO584 hb
      replace HO587 := rb HO587 hb
      replace BK588 := bb BK588 hb
      replace BK589 := bb BK589 hb
      replace HB := am (below_step (bs2 GE588.out GE589.out HB.out) hb)
      (try clear hb)
      refine hK.out _ _ ⟨(blk_cell BK588.out 0).trans rfl, (blk_cell BK588.out 1).trans rfl, (blk_cell BK588.out 2).trans rfl, (blk_cell BK589.out 0).trans rfl, (blk_cell BK589.out 1).trans rfl, (blk_cell BK589.out 2).trans rfl⟩ (fun hHeld => ?_)
      clear hK K
      refine norm_ (a' := ?_) ?_ ?_
      rotate_left
      ·show Act.put _ (some 20) _ = _
       simp only [Act.put, List.setIfInBounds_toArray, List.set_cons_zero, List.set_cons_succ, i64_w, i32_w]
       rfl
      refine pure_ (i := 4) (N := some 21) (v := ?_) (a' := ?_) #[true, true, true, true, true, false, false, false, false, false, false, false, false, false, false, false, false, false, false, false, false, false, false, false, false, false, false, false, false] rfl rfl (any_of HT_.out (by kernel_rfl)) (fun _ _ _ h => h) (Or.inl ⟨by rfl, ?_⟩) ?_ ?_
      rotate_left
      ·intro w'
       go_simp
       with_reducible rfl
      rotate_left
      ·simp only [Act.put, List.setIfInBounds_toArray, List.set_cons_zero, List.set_cons_succ, i64_w, i32_w]
       rfl
      refine pure_ (i := 5) (N := some 22) (v := ?_) (a' := ?_) #[true, true, true, true, true, true, false, false, false, false, false, false, false, false, false, false, false, false, false, false, false, false, false, false, false, false, false, false, false] rfl rfl (any_of HT_.out (by kernel_rfl)) (fun _ _ _ h => h) (Or.inl ⟨by rfl, ?_⟩) ?_ ?_
      rotate_left
      ·intro w'
       go_simp
       with_reducible rfl
      rotate_left
      ·simp only [Act.put, List.setIfInBounds_toArray, List.set_cons_zero, List.set_cons_succ, i64_w, i32_w]
       rfl
      refine pure_ (i := 6) (N := some 23) (v := ?_) (a' := ?_) #[true, true, true, true, true, true, true, false, false, false, false, false, false, false, false, false, false, false, false, false, false, false, false, false, false, false, false, false, false] rfl rfl (any_of HT_.out (by kernel_rfl)) (fun _ _ _ h => h) (Or.inl ⟨by rfl, ?_⟩) ?_ ?_
      rotate_left
      ·intro w'
       go_simp
       with_reducible rfl
      rotate_left
      ·simp only [Act.put, List.setIfInBounds_toArray, List.set_cons_zero, List.set_cons_succ, i64_w, i32_w]
       rfl
      refine take_ (i := 7) (N := some 24) (v := ?_) (a' := ?_) #[true, true, true, true, true, true, true, true, false, false, false, false, false, false, false, false, false, false, false, false, false, false, false, false, false, false, false, false, false] rfl rfl (take_ofW HT_.out HW_.out (by kernel_rfl)) (fun _ _ _ h => h) (Or.inl ⟨by rfl, ?_⟩) hHeld ?_ ?_
      rotate_left
      ·rintro w' ⟨s0, s1, s2, s3, s4, s5⟩
       go_simp
       with_reducible rfl
      rotate_left
      ·simp only [Act.put, List.setIfInBounds_toArray, List.set_cons_zero, List.set_cons_succ, i64_w, i32_w]
       rfl
      refine take_ (i := 8) (N := some 25) (v := ?_) (a' := ?_) #[true, true, true, true, true, true, true, true, true, false, false, false, false, false, false, false, false, false, false, false, false, false, false, false, false, false, false, false, false] rfl rfl (take_ofW HT_.out HW_.out (by kernel_rfl)) (fun _ _ _ h => h) (Or.inl ⟨by rfl, ?_⟩) hHeld ?_ ?_
      rotate_left
      ·rintro w' ⟨s0, s1, s2, s3, s4, s5⟩
       go_simp
       with_reducible rfl
      rotate_left
      ·simp only [Act.put, List.setIfInBounds_toArray, List.set_cons_zero, List.set_cons_succ, i64_w, i32_w]
       rfl
      refine one_ (i := 9) (N := some 26) #[true, true, true, true, true, true, true, true, true, true, false, false, false, false, false, false, false, false, false, false, false, false, false, false, false, false, false, false, false] rfl rfl (one_of HT_.out (by kernel_rfl)) (by decide) (fun K hK => ?_)
      refine goes_ Tryd.func15 (by kernel_rfl) rfl #[.agg #[.slice Ao22 t579.length co22, .slice Ao24 t582.length co24, .slice Ao25 t585.length co25], .agg #[.slice Ao17 t570.length co17, .slice Ao20 t573.length co20, .slice Ao21 t576.length co21]] (by rfl) rfl rfl (by (try simp only [List.map_toArray, List.map_cons, List.map_nil]); first | done | rfl | (simp only [List.length_drop, List.length_take]; rfl)) ?_
      with_reducible refine (impl_HeapSame.calls k _ _ t579 _ _ t582 _ _ t585 _ _ t570 _ _ t573 _ _ t576 t592 _ ?side1 ?side2 ?side3 ?side4 ?side5 ?side6 ?side7 ?side8 ?side9 ?side10 ?side11 ?side12 A7.out).mono ?_
      (case side1 => exact cl ((Kd.R_reads' HO581.out).2.2))
      (case side2 => exact sc HO581)
      (case side3 => exact cl ((Kd.R_reads' HO584.out).2.2))
      (case side4 => exact sc HO584)
      (case side5 => exact cl ((Kd.R_reads' HO587.out).2.2))
      (case side6 => exact sc HO587)
      (case side7 => exact cl ((Kd.R_reads' HO572.out).2.2))
      (case side8 => exact sc HO572)
      (case side9 => exact cl ((Kd.R_reads' HO575.out).2.2))
      (case side10 => exact sc HO575)
      (case side11 => exact cl ((Kd.R_reads' HO578.out).2.2))
      (case side12 => exact sc HO578)
      rintro e w29 ⟨rfl, hb⟩
      refine ⟨_, rfl, ?_⟩
      replace HO572 := rb HO572 hb
      replace HO575 := rb HO575 hb
      replace HO578 := rb HO578 hb
      replace HO581 := rb HO581 hb
      replace HO584 := rb HO584 hb
      replace HO587 := rb HO587 hb
      replace BK588 := bb BK588 hb
      replace BK589 := bb BK589 hb
      replace HB := am (below_step (bs2 GE588.out GE589.out HB.out) hb)
      (try clear hb)
      refine hK.out _ _ ⟨(blk_cell BK588.out 0).trans rfl, (blk_cell BK588.out 1).trans rfl, (blk_cell BK588.out 2).trans rfl, (blk_cell BK589.out 0).trans rfl, (blk_cell BK589.out 1).trans rfl, (blk_cell BK589.out 2).trans rfl⟩ (fun hHeld => ?_)
      clear hK K
      refine norm_ (a' := ?_) ?_ ?_
      rotate_left
      ·show Act.put _ (some 26) _ = _
       simp only [Act.put, List.setIfInBounds_toArray, List.set_cons_zero, List.set_cons_succ, i64_w, i32_w]
       rfl
      refine pure_ (i := 10) (N := some 27) (v := ?_) (a' := ?_) #[true, true, true, true, true, true, true, true, true, true, true, false, false, false, false, false, false, false, false, false, false, false, false, false, false, false, false, false, false] rfl rfl (any_of HT_.out (by kernel_rfl)) (fun _ _ _ h => h) (Or.inl ⟨by rfl, ?_⟩) ?_ ?_
      rotate_left
      ·intro w'
       go_simp
       with_reducible rfl
      rotate_left
      ·simp only [Act.put, List.setIfInBounds_toArray, List.set_cons_zero, List.set_cons_succ, i64_w, i32_w]
       rfl
      refine pure_ (i := 11) (N := some 28) (v := ?_) (a' := ?_) #[true, true, true, true, true, true, true, true, true, true, true, true, false, false, false, false, false, false, false, false, false, false, false, false, false, false, false, false, false] rfl rfl (any_of HT_.out (by kernel_rfl)) (fun _ _ _ h => h) (Or.inl ⟨by rfl, ?_⟩) ?_ ?_
      rotate_left
      ·intro w'
       go_simp
       with_reducible rfl
      rotate_left
      ·simp only [Act.put, List.setIfInBounds_toArray, List.set_cons_zero, List.set_cons_succ, i64_w, i32_w]
       rfl
      refine pure_ (i := 12) (N := some 29) (v := ?_) (a' := ?_) #[true, true, true, true, true, true, true, true, true, true, true, true, true, false, false, false, false, false, false, false, false, false, false, false, false, false, false, false, false] rfl rfl (any_of HT_.out (by kernel_rfl)) (fun _ _ _ h => h) (Or.inl ⟨by rfl, ?_⟩) ?_ ?_
      rotate_left
      ·intro w'
       go_simp
       with_reducible rfl
      rotate_left
      ·simp only [Act.put, List.setIfInBounds_toArray, List.set_cons_zero, List.set_cons_succ, i64_w, i32_w]
       rfl
      refine take_ (i := 13) (N := some 30) (v := ?_) (a' := ?_) #[true, true, true, true, true, true, true, true, true, true, true, true, true, true, false, false, false, false, false, false, false, false, false, false, false, false, false, false, false] rfl rfl (take_ofW HT_.out HW_.out (by kernel_rfl)) (fun _ _ _ h => h) (Or.inl ⟨by rfl, ?_⟩) hHeld ?_ ?_
      rotate_left
      ·rintro w' ⟨s0, s1, s2, s3, s4, s5⟩
       go_simp
       with_reducible rfl
      rotate_left
      ·simp only [Act.put, List.setIfInBounds_toArray, List.set_cons_zero, List.set_cons_succ, i64_w, i32_w]
       rfl
      refine take_ (i := 14) (N := some 31) (v := ?_) (a' := ?_) #[true, true, true, true, true, true, true, true, true, true, true, true, true, true, true, false, false, false, false, false, false, false, false, false, false, false, false, false, false] rfl rfl (take_ofW HT_.out HW_.out (by kernel_rfl)) (fun _ _ _ h => h) (Or.inl ⟨by rfl, ?_⟩) hHeld ?_ ?_
      rotate_left
      ·rintro w' ⟨s0, s1, s2, s3, s4, s5⟩
       go_simp
       with_reducible rfl
      rotate_left
      ·simp only [Act.put, List.setIfInBounds_toArray, List.set_cons_zero, List.set_cons_succ, i64_w, i32_w]
       rfl
      refine one_ (i := 15) (N := some 32) #[true, true, true, true, true, true, true, true, true, true, true, true, true, true, true, true, false, false, false, false, false, false, false, false, false, false, false, false, false] rfl rfl (one_of HT_.out (by kernel_rfl)) (by decide) (fun K hK => ?_)
      refine goes_ Tryd.func15 (by kernel_rfl) rfl #[.agg #[.slice Ao17 t570.length co17, .slice Ao20 t573.length co20, .slice Ao21 t576.length co21], .agg #[.slice Ao17 t570.length co17, .slice Ao20 t573.length co20, .slice Ao21 t576.length co21]] (by rfl) rfl rfl (by (try simp only [List.map_toArray, List.map_cons, List.map_nil]); first | done | rfl | (simp only [List.length_drop, List.length_take]; rfl)) ?_
      with_reducible refine (impl_HeapSame.calls k _ _ t570 _ _ t573 _ _ t576 _ _ t570 _ _ t573 _ _ t576 true _ ?side1 ?side2 ?side3 ?side4 ?side5 ?side6 ?side7 ?side8 ?side9 ?side10 ?side11 ?side12 A9.out).mono ?_
      (case side1 => exact cl ((Kd.R_reads' HO572.out).2.2))
      (case side2 => exact sc HO572)
      (case side3 => exact cl ((Kd.R_reads' HO575.out).2.2))
      (case side4 => exact sc HO575)
      (case side5 => exact cl ((Kd.R_reads' HO578.out).2.2))
      (case side6 => exact sc HO578)
      (case side7 => exact cl ((Kd.R_reads' HO572.out).2.2))
      (case side8 => exact sc HO572)
      (case side9 => exact cl ((Kd.R_reads' HO575.out).2.2))
      (case side10 => exact sc HO575)
      (case side11 => exact cl ((Kd.R_reads' HO578.out).2.2))
      (case side12 => exact sc HO578)
      rintro e w30 ⟨rfl, hb⟩
      refine ⟨_, rfl, ?_⟩
      replace HO572 := rb HO572 hb
      replace HO575 := rb HO575 hb
      replace HO578 := rb HO578 hb
      replace HO581 := rb HO581 hb
      replace HO584 := rb HO584 hb
      replace HO587 := rb HO587 hb
      replace BK588 := bb BK588 hb
      replace BK589 := bb BK589 hb
      replace HB := am (below_step (bs2 GE588.out GE589.out HB.out) hb)
      (try clear hb)
      refine hK.out _ _ ⟨(blk_cell BK588.out 0).trans rfl, (blk_cell BK588.out 1).trans rfl, (blk_cell BK588.out 2).trans rfl, (blk_cell BK589.out 0).trans rfl, (blk_cell BK589.out 1).trans rfl, (blk_cell BK589.out 2).trans rfl⟩ (fun hHeld => ?_)
      clear hK K
      refine norm_ (a' := ?_) ?_ ?_
      rotate_left
      ·show Act.put _ (some 32) _ = _
       simp only [Act.put, List.setIfInBounds_toArray, List.set_cons_zero, List.set_cons_succ, i64_w, i32_w]
       rfl
      refine pure_ (i := 16) (N := some 33) (v := ?_) (a' := ?_) #[true, true, true, true, true, true, true, true, true, true, true, true, true, true, true, true, true, false, false, false, false, false, false, false, false, false, false, false, false] rfl rfl (any_of HT_.out (by kernel_rfl)) (fun _ _ _ h => h) (Or.inl ⟨by rfl, ?_⟩) ?_ ?_
      rotate_left
      ·intro w'
       go_simp
       with_reducible rfl
      rotate_left
      ·simp only [Act.put, List.setIfInBounds_toArray, List.set_cons_zero, List.set_cons_succ, i64_w, i32_w]
       rfl
      refine pure_ (i := 17) (N := some 34) (v := ?_) (a' := ?_) #[true, true, true, true, true, true, true, true, true, true, true, true, true, true, true, true, true, true, false, false, false, false, false, false, false, false, false, false, false] rfl rfl (any_of HT_.out (by kernel_rfl)) (fun _ _ _ h => h) (Or.inl ⟨by rfl, ?_⟩) ?_ ?_
      rotate_left
      ·intro w'
       go_simp
       with_reducible rfl
      rotate_left
      ·simp only [Act.put, List.setIfInBounds_toArray, List.set_cons_zero, List.set_cons_succ, i64_w, i32_w]
       rfl
      refine pure_ (i := 18) (N := some 35) (v := ?_) (a' := ?_) #[true, true, true, true, true, true, true, true, true, true, true, true, true, true, true, true, true, true, true, false, false, false, false, false, false, false, false, false, false] rfl rfl (any_of HT_.out (by kernel_rfl)) (fun _ _ _ h => h) (Or.inl ⟨by rfl, ?_⟩) ?_ ?_
      rotate_left
      ·intro w'
       go_simp
       with_reducible rfl
      rotate_left
      ·simp only [Act.put, List.setIfInBounds_toArray, List.set_cons_zero, List.set_cons_succ, i64_w, i32_w]
       rfl
      refine pure_ (i := 19) (N := some 36) (v := ?_) (a' := ?_) #[true, true, true, true, true, true, true, true, true, true, true, true, true, true, true, true, true, true, true, true, false, false, false, false, false, false, false, false, false] rfl rfl (any_of HT_.out (by kernel_rfl)) (fun _ _ _ h => h) (Or.inl ⟨by rfl, ?_⟩) ?_ ?_
      rotate_left
      ·intro w'
       go_simp
       with_reducible rfl
      rotate_left
      ·simp only [Act.put, List.setIfInBounds_toArray, List.set_cons_zero, List.set_cons_succ, i64_w, i32_w]
       rfl
      refine pure_ (i := 20) (N := some 37) (v := ?_) (a' := ?_) #[true, true, true, true, true, true, true, true, true, true, true, true, true, true, true, true, true, true, true, true, true, false, false, false, false, false, false, false, false] rfl rfl (any_of HT_.out (by kernel_rfl)) (fun _ _ _ h => h) (Or.inl ⟨by rfl, ?_⟩) ?_ ?_
      rotate_left
      ·intro w'
       go_simp
       with_reducible rfl
      rotate_left
      ·simp only [Act.put, List.setIfInBounds_toArray, List.set_cons_zero, List.set_cons_succ, i64_w, i32_w]
       rfl
      refine take_ (i := 21) (N := some 38) (v := ?_) (a' := ?_) #[true, true, true, true, true, true, true, true, true, true, true, true, true, true, true, true, true, true, true, true, true, true, false, false, false, false, false, false, false] rfl rfl (take_ofW HT_.out HW_.out (by kernel_rfl)) (fun _ _ _ h => h) (Or.inl ⟨by rfl, ?_⟩) hHeld ?_ ?_
      rotate_left
      ·rintro w' ⟨s0, s1, s2, s3, s4, s5⟩
       go_simp
       with_reducible rfl
      rotate_left
      ·simp only [Act.put, List.setIfInBounds_toArray, List.set_cons_zero, List.set_cons_succ, i64_w, i32_w]
       rfl
      refine take_ (i := 23) (N := some 40) (v := ?_) (a' := ?_) #[true, true, true, true, true, true, true, true, true, true, true, true, true, true, true, true, true, true, true, true, true, true, false, true, false, false, false, false, false] rfl rfl (take_ofW HT_.out HW_.out (by kernel_rfl)) (fun _ _ _ h => h) (Or.inl ⟨by rfl, ?_⟩) hHeld ?_ ?_
      rotate_left
      ·rintro w' ⟨s0, s1, s2, s3, s4, s5⟩
       go_simp
       with_reducible rfl
      rotate_left
      ·simp only [Act.put, List.setIfInBounds_toArray, List.set_cons_zero, List.set_cons_succ, i64_w, i32_w]
       rfl
      refine one_ (i := 22) (N := some 39) #[true, true, true, true, true, true, true, true, true, true, true, true, true, true, true, true, true, true, true, true, true, true, true, true, false, false, false, false, false] rfl rfl (one_of HT_.out (by kernel_rfl)) (by decide) (fun K hK => ?_)
      refine goes_ Tryd.func18 (by kernel_rfl) rfl #[.agg #[.slice Ao17 t570.length co17, .slice Ao20 t573.length co20, .slice Ao21 t576.length co21]] (by rfl) rfl rfl (by (try simp only [List.map_toArray, List.map_cons, List.map_nil]); first | done | rfl | (simp only [List.length_drop, List.length_take]; rfl)) ?_
      with_reducible refine (impl_FormatHeap.calls k _ _ t570 _ _ t573 _ _ t576 t594 _ ?side1 ?side2 ?side3 ?side4 ?side5 ?side6 A12.out).mono ?_
      (case side1 => exact cl ((Kd.R_reads' HO572.out).2.2))
      (case side2 => exact sc HO572)
      (case side3 => exact cl ((Kd.R_reads' HO575.out).2.2))
      (case side4 => exact sc HO575)
      (case side5 => exact cl ((Kd.R_reads' HO578.out).2.2))
      (case side6 => exact sc HO578)
      rintro e w31 ⟨rfl, hb⟩
      refine ⟨_, rfl, ?_⟩
      replace HO572 := rb HO572 hb
      replace HO575 := rb HO575 hb
      replace HO578 := rb HO578 hb
      replace HO581 := rb HO581 hb
      replace HO584 := rb HO584 hb
      replace HO587 := rb HO587 hb
      replace BK588 := bb BK588 hb
      replace BK589 := bb BK589 hb
      replace HB := am (below_step (bs2 GE588.out GE589.out HB.out) hb)
      (try clear hb)
      refine hK.out _ _ ⟨(blk_cell BK588.out 0).trans rfl, (blk_cell BK588.out 1).trans rfl, (blk_cell BK588.out 2).trans rfl, (blk_cell BK589.out 0).trans rfl, (blk_cell BK589.out 1).trans rfl, (blk_cell BK589.out 2).trans rfl⟩ (fun hHeld => ?_)
      clear hK K
      refine norm_ (a' := ?_) ?_ ?_
      rotate_left
      ·show Act.put _ (some 39) _ = _
       simp only [Act.put, List.setIfInBounds_toArray, List.set_cons_zero, List.set_cons_succ, i64_w, i32_w]
       rfl
      refine one_ (i := 24) (N := some 41) #[true, true, true, true, true, true, true, true, true, true, true, true, true, true, true, true, true, true, true, true, true, true, true, true, true, false, false, false, false] rfl rfl (one_of HT_.out (by kernel_rfl)) (by decide) (fun K hK => ?_)
      refine goes_ Tryd.func18 (by kernel_rfl) rfl #[.agg #[.slice Ao22 t579.length co22, .slice Ao24 t582.length co24, .slice Ao25 t585.length co25]] (by rfl) rfl rfl (by (try simp only [List.map_toArray, List.map_cons, List.map_nil]); first | done | rfl | (simp only [List.length_drop, List.length_take]; rfl)) ?_
      with_reducible refine (impl_FormatHeap.calls k _ _ t579 _ _ t582 _ _ t585 t595 _ ?side1 ?side2 ?side3 ?side4 ?side5 ?side6 A13.out).mono ?_
      (case side1 => exact cl ((Kd.R_reads' HO581.out).2.2))
      (case side2 => exact sc HO581)
      (case side3 => exact cl ((Kd.R_reads' HO584.out).2.2))
      (case side4 => exact sc HO584)
      (case side5 => exact cl ((Kd.R_reads' HO587.out).2.2))
      (case side6 => exact sc HO587)
      rintro e w32 ⟨rfl, hb⟩
      refine ⟨_, rfl, ?_⟩
      replace HO572 := rb HO572 hb
      replace HO575 := rb HO575 hb
      replace HO578 := rb HO578 hb
      replace HO581 := rb HO581 hb
      replace HO584 := rb HO584 hb
      replace HO587 := rb HO587 hb
      replace BK588 := bb BK588 hb
      replace BK589 := bb BK589 hb
      replace HB := am (below_step (bs2 GE588.out GE589.out HB.out) hb)
      (try clear hb)
      refine hK.out _ _ ⟨(blk_cell BK588.out 0).trans rfl, (blk_cell BK588.out 1).trans rfl, (blk_cell BK588.out 2).trans rfl, (blk_cell BK589.out 0).trans rfl, (blk_cell BK589.out 1).trans rfl, (blk_cell BK589.out 2).trans rfl⟩ (fun hHeld => ?_)
      clear hK K
      refine norm_ (a' := ?_) ?_ ?_
      rotate_left
      ·show Act.put _ (some 41) _ = _
       simp only [Act.put, List.setIfInBounds_toArray, List.set_cons_zero, List.set_cons_succ, i64_w, i32_w]
       rfl
      refine pure_ (i := 25) (N := some 42) (v := ?_) (a' := ?_) #[true, true, true, true, true, true, true, true, true, true, true, true, true, true, true, true, true, true, true, true, true, true, true, true, true, true, false, false, false] rfl rfl (any_of HT_.out (by kernel_rfl)) (fun _ _ _ h => h) (Or.inl ⟨by rfl, ?_⟩) ?_ ?_
      rotate_left
      ·intro w'
       go_simp
       with_reducible rfl
      rotate_left
      ·simp only [Act.put, List.setIfInBounds_toArray, List.set_cons_zero, List.set_cons_succ, i64_w, i32_w]
       rfl
      refine pure_ (i := 26) (N := some 43) (v := ?_) (a' := ?_) #[true, true, true, true, true, true, true, true, true, true, true, true, true, true, true, true, true, true, true, true, true, true, true, true, true, true, true, false, false] rfl rfl (any_of HT_.out (by kernel_rfl)) (fun _ _ _ h => h) (Or.inl ⟨by rfl, ?_⟩) ?_ ?_
      rotate_left
      ·intro w'
       go_simp
       with_reducible rfl
      rotate_left
      ·simp only [Act.put, List.setIfInBounds_toArray, List.set_cons_zero, List.set_cons_succ, i64_w, i32_w]
       rfl
      refine pure_ (i := 27) (N := some 44) (v := ?_) (a' := ?_) #[true, true, true, true, true, true, true, true, true, true, true, true, true, true, true, true, true, true, true, true, true, true, true, true, true, true, true, true, false] rfl rfl (any_of HT_.out (by kernel_rfl)) (fun _ _ _ h => h) (Or.inl ⟨by rfl, ?_⟩) ?_ ?_
      rotate_left
      ·intro w'
       go_simp
       with_reducible rfl
      rotate_left
      ·simp only [Act.put, List.setIfInBounds_toArray, List.set_cons_zero, List.set_cons_succ, i64_w, i32_w]
       rfl
      refine pure_ (i := 28) (N := some 2) (v := ?_) (a' := ?_) #[true, true, true, true, true, true, true, true, true, true, true, true, true, true, true, true, true, true, true, true, true, true, true, true, true, true, true, true, true] rfl rfl (any_of HT_.out (by kernel_rfl)) (fun _ _ _ h => h) (Or.inl ⟨by rfl, ?_⟩) ?_ ?_
      rotate_left
      ·intro w'
       go_simp
       with_reducible rfl
      rotate_left
      ·simp only [Act.put, List.setIfInBounds_toArray, List.set_cons_zero, List.set_cons_succ, i64_w, i32_w]
       rfl
      refine done_ (done_of HT_.out (by kernel_rfl)) ?_
      try go_wp2
      go_ret
      exact ⟨by first | rfl | (simp [errW_none, errW_some] <;> rfl) | (simp [*, errW_none, errW_some] <;> rfl), by exact bs2 GE588.out GE589.out HB.out⟩
     ·replace c11 := Bool.eq_false_iff.mpr c11
      subst c11
      have H1 : (some true) = some r := by rw [if_neg (show ¬ (false = true) by decide)] at H; exact H
      clear H
      have H := H1
      clear H1
      obtain rfl := Option.some.inj H
      go_enter Tryd.func6, Tryd.ntmps6
      try go_wp2_with (first | ((with_reducible refine gate_callee (f := 21) rfl ?_); refine gL (some 11) rfl rfl Tryd.func21 (by kernel_rfl) rfl #[.slice A0 l0.length c0] rfl ?_; (with_reducible refine (spec_DrawHeapSame.calls k _ _ l0 t570 t573 t576 t579 t582 t585 _ ?side1 ?side2 A3.out).mono ?_); (case side1 => exact cl (HR0.out)); (case side2 => exact HC0.out); rintro e w33 ⟨v571, v574, v577, v580, v583, v586, rfl, ho0, ho1, ho2, ho3, ho4, ho5, hb⟩; refine ⟨_, rfl, ?_⟩; have HO572 := ln0 ho0 (bl HB.out); have HO575 := ln0 ho1 (bl HB.out); have HO578 := ln0 ho2 (bl HB.out); have HO581 := ln0 ho3 (bl HB.out); have HO584 := ln0 ho4 (bl HB.out); have HO587 := ln0 ho5 (bl HB.out); replace HB := am (below_step (bl HB.out) hb); (try clear hb ho0 ho1 ho2 ho3 ho4 ho5)) | ((with_reducible refine gate_dst (N := 3) rfl ?_); refine box_event ?hg (N := 3) ?hd (cs := #[.slice none 0 0, .slice none 0 0, .slice none 0 0]) (t := 24) ?hr ?_; (case hd => rfl); (case hg => rfl); (case hr => first | (go_simp; done) | (go_simp; rfl)); intro gb588 hg w34 hbox hb; replace HO572 := rb HO572 hb; replace HO575 := rb HO575 hb; replace HO578 := rb HO578 hb; replace HO581 := rb HO581 hb; replace HO584 := rb HO584 hb; replace HO587 := rb HO587 hb; have BK588 := am (hbox); have GW588 := am ((by rw [hg]; exact (below_size (bl HB.out)) : w.heap.size ≤ gb588)); have GE588 := am ((by rw [hg]; exact (below_size (bl HB.out)) : w.heap.size ≤ gb588)); replace HB := am (below_step (bl HB.out) hb); clear hb hbox hg) | ((with_reducible refine gate_dst (N := 4) rfl ?_); refine box_event ?hg (N := 4) ?hd (cs := #[.slice none 0 0, .slice none 0 0, .slice none 0 0]) (t := 24) ?hr ?_; (case hd => rfl); (case hg => rfl); (case hr => first | (go_simp; done) | (go_simp; rfl)); intro gb589 hg w35 hbox hb; replace HO572 := rb HO572 hb; replace HO575 := rb HO575 hb; replace HO578 := rb HO578 hb; replace HO581 := rb HO581 hb; replace HO584 := rb HO584 hb; replace HO587 := rb HO587 hb; have BK589 := am (hbox); have GW589 := am ((by rw [hg]; exact (below_size (bs1 GE588.out HB.out)) : w.heap.size ≤ gb589)); have GE589 := am ((by rw [hg]; exact (below_size (bs1 GE588.out HB.out)) : w.heap.size ≤ gb589)); replace HB := am (below_step (bs1 GE588.out HB.out) hb); have NB588_589 := nb BK588 hg; have NB589_588 := nc BK588 hg; replace BK588 := bb BK588 hb; clear hb hbox hg; obtain ⟨Ao36, co36, eo36⟩ := Kd.R_slice HO572.out; subst eo36; have hnb37 := NB588_589.out; have hnc37 := NB589_588.out; obtain ⟨hcz38_0, hcz38_1, hcz38_2, hfz38_0, hfz38_1, hfz38_2⟩ := cf3 BK588; obtain ⟨Ao39, co39, eo39⟩ := Kd.R_slice HO575.out; subst eo39; obtain ⟨Ao40, co40, eo40⟩ := Kd.R_slice HO578.out; subst eo40; obtain ⟨Ao41, co41, eo41⟩ := Kd.R_slice HO581.out; subst eo41; obtain ⟨hcz42_0, hcz42_1, hcz42_2, hfz42_0, hfz42_1, hfz42_2⟩ := cf3 BK589; obtain ⟨Ao43, co43, eo43⟩ := Kd.R_slice HO584.out; subst eo43; obtain ⟨Ao44, co44, eo44⟩ := Kd.R_slice HO587.out; subst eo44) | ((with_reducible refine gate_callee (f := 15) rfl ?_); refine gL (some 16) rfl rfl Tryd.func15 (by kernel_rfl) rfl #[.agg #[.slice Ao36 t570.length co36, .slice Ao39 t573.length co39, .slice Ao40 t576.length co40], .agg #[.slice Ao41 t579.length co41, .slice Ao43 t582.length co43, .slice Ao44 t585.length co44]] rfl ?_; (with_reducible refine (impl_HeapSame.calls k _ _ t570 _ _ t573 _ _ t576 _ _ t579 _ _ t582 _ _ t585 false _ ?side1 ?side2 ?side3 ?side4 ?side5 ?side6 ?side7 ?side8 ?side9 ?side10 ?side11 ?side12 A4.out).mono ?_); (case side1 => exact (Kd.R_reads' (rl ((Kd.R_mono (Kd.R_mono (Kd.R_far (p := ⟨gb589, 2, none⟩) (Kd.R_far (p := ⟨gb589, 1, none⟩) (Kd.R_far (p := ⟨gb589, 0, none⟩) (Kd.R_far (p := ⟨gb588, 2, none⟩) (Kd.R_far (p := ⟨gb588, 1, none⟩) (Kd.R_far (p := ⟨gb588, 0, none⟩) (Kd.R_types (Kd.R_types HO572.out BK588.out (by decide)) BK589.out (by decide)) (fun _ hk => by first | exact hk.1.2 | (simp only [ne_eq] at hk ⊢; simp only [hk, not_false_eq_true, and_self])) (.slice Ao36 t570.length co36)) (fun _ hk => by first | exact hk.1.2 | (simp only [ne_eq] at hk ⊢; simp only [hk, not_false_eq_true, and_self])) (.slice Ao39 t573.length co39)) (fun _ hk => by first | exact hk.1.2 | (simp only [ne_eq] at hk ⊢; simp only [hk, not_false_eq_true, and_self])) (.slice Ao40 t576.length co40)) (fun _ hk => hk.2) (.slice Ao41 t579.length co41)) (fun _ hk => hk.2) (.slice Ao43 t582.length co43)) (fun _ hk => hk.2) (.slice Ao44 t585.length co44)) (fun _ h_ => h_.1)) (fun _ h_ => h_.1))))).2.2); (case side2 => exact sc HO572); (case side3 => exact (Kd.R_reads' (rl ((Kd.R_mono (Kd.R_mono (Kd.R_far (p := ⟨gb589, 2, none⟩) (Kd.R_far (p := ⟨gb589, 1, none⟩) (Kd.R_far (p := ⟨gb589, 0, none⟩) (Kd.R_far (p := ⟨gb588, 2, none⟩) (Kd.R_far (p := ⟨gb588, 1, none⟩) (Kd.R_far (p := ⟨gb588, 0, none⟩) (Kd.R_types (Kd.R_types HO575.out BK588.out (by decide)) BK589.out (by decide)) (fun _ hk => by first | exact hk.1.2 | (simp only [ne_eq] at hk ⊢; simp only [hk, not_false_eq_true, and_self])) (.slice Ao36 t570.length co36)) (fun _ hk => by first | exact hk.1.2 | (simp only [ne_eq] at hk ⊢; simp only [hk, not_false_eq_true, and_self])) (.slice Ao39 t573.length co39)) (fun _ hk => by first | exact hk.1.2 | (simp only [ne_eq] at hk ⊢; simp only [hk, not_false_eq_true, and_self])) (.slice Ao40 t576.length co40)) (fun _ hk => hk.2) (.slice Ao41 t579.length co41)) (fun _ hk => hk.2) (.slice Ao43 t582.length co43)) (fun _ hk => hk.2) (.slice Ao44 t585.length co44)) (fun _ h_ => h_.1)) (fun _ h_ => h_.1))))).2.2); (case side4 => exact sc HO575); (case side5 => exact (Kd.R_reads' (rl ((Kd.R_mono (Kd.R_mono (Kd.R_far (p := ⟨gb589, 2, none⟩) (Kd.R_far (p := ⟨gb589, 1, none⟩) (Kd.R_far (p := ⟨gb589, 0, none⟩) (Kd.R_far (p := ⟨gb588, 2, none⟩) (Kd.R_far (p := ⟨gb588, 1, none⟩) (Kd.R_far (p := ⟨gb588, 0, none⟩) (Kd.R_types (Kd.R_types HO578.out BK588.out (by decide)) BK589.out (by decide)) (fun _ hk => by first | exact hk.1.2 | (simp only [ne_eq] at hk ⊢; simp only [hk, not_false_eq_true, and_self])) (.slice Ao36 t570.length co36)) (fun _ hk => by first | exact hk.1.2 | (simp only [ne_eq] at hk ⊢; simp only [hk, not_false_eq_true, and_self])) (.slice Ao39 t573.length co39)) (fun _ hk => by first | exact hk.1.2 | (simp only [ne_eq] at hk ⊢; simp only [hk, not_false_eq_true, and_self])) (.slice Ao40 t576.length co40)) (fun _ hk => hk.2) (.slice Ao41 t579.length co41)) (fun _ hk => hk.2) (.slice Ao43 t582.length co43)) (fun _ hk => hk.2) (.slice Ao44 t585.length co44)) (fun _ h_ => h_.1)) (fun _ h_ => h_.1))))).2.2); (case side6 => exact sc HO578); (case side7 => exact (Kd.R_reads' (rl ((Kd.R_mono (Kd.R_mono (Kd.R_far (p := ⟨gb589, 2, none⟩) (Kd.R_far (p := ⟨gb589, 1, none⟩) (Kd.R_far (p := ⟨gb589, 0, none⟩) (Kd.R_far (p := ⟨gb588, 2, none⟩) (Kd.R_far (p := ⟨gb588, 1, none⟩) (Kd.R_far (p := ⟨gb588, 0, none⟩) (Kd.R_types (Kd.R_types HO581.out BK588.out (by decide)) BK589.out (by decide)) (fun _ hk => by first | exact hk.1.2 | (simp only [ne_eq] at hk ⊢; simp only [hk, not_false_eq_true, and_self])) (.slice Ao36 t570.length co36)) (fun _ hk => by first | exact hk.1.2 | (simp only [ne_eq] at hk ⊢; simp only [hk, not_false_eq_true, and_self])) (.slice Ao39 t573.length co39)) (fun _ hk => by first | exact hk.1.2 | (simp only [ne_eq] at hk ⊢; simp only [hk, not_false_eq_true, and_self])) (.slice Ao40 t576.length co40)) (fun _ hk => hk.2) (.slice Ao41 t579.length co41)) (fun _ hk => hk.2) (.slice Ao43 t582.length co43)) (fun _ hk => hk.2) (.slice Ao44 t585.length co44)) (fun _ h_ => h_.1)) (fun _ h_ => h_.1))))).2.2); (case side8 => exact sc HO581); (case side9 => exact (Kd.R_reads' (rl ((Kd.R_mono (Kd.R_mono (Kd.R_far (p := ⟨gb589, 2, none⟩) (Kd.R_far (p := ⟨gb589, 1, none⟩) (Kd.R_far (p := ⟨gb589, 0, none⟩) (Kd.R_far (p := ⟨gb588, 2, none⟩) (Kd.R_far (p := ⟨gb588, 1, none⟩) (Kd.R_far (p := ⟨gb588, 0, none⟩) (Kd.R_types (Kd.R_types HO584.out BK588.out (by decide)) BK589.out (by decide)) (fun _ hk => by first | exact hk.1.2 | (simp only [ne_eq] at hk ⊢; simp only [hk, not_false_eq_true, and_self])) (.slice Ao36 t570.length co36)) (fun _ hk => by first | exact hk.1.2 | (simp only [ne_eq] at hk ⊢; simp only [hk, not_false_eq_true, and_self])) (.slice Ao39 t573.length co39)) (fun _ hk => by first | exact hk.1.2 | (simp only [ne_eq] at hk ⊢; simp only [hk, not_false_eq_true, and_self])) (.slice Ao40 t576.length co40)) (fun _ hk => hk.2) (.slice Ao41 t579.length co41)) (fun _ hk => hk.2) (.slice Ao43 t582.length co43)) (fun _ hk => hk.2) (.slice Ao44 t585.length co44)) (fun _ h_ => h_.1)) (fun _ h_ => h_.1))))).2.2); (case side10 => exact sc HO584); (case side11 => exact (Kd.R_reads' (rl ((Kd.R_mono (Kd.R_mono (Kd.R_far (p := ⟨gb589, 2, none⟩) (Kd.R_far (p := ⟨gb589, 1, none⟩) (Kd.R_far (p := ⟨gb589, 0, none⟩) (Kd.R_far (p := ⟨gb588, 2, none⟩) (Kd.R_far (p := ⟨gb588, 1, none⟩) (Kd.R_far (p := ⟨gb588, 0, none⟩) (Kd.R_types (Kd.R_types HO587.out BK588.out (by decide)) BK589.out (by decide)) (fun _ hk => by first | exact hk.1.2 | (simp only [ne_eq] at hk ⊢; simp only [hk, not_false_eq_true, and_self])) (.slice Ao36 t570.length co36)) (fun _ hk => by first | exact hk.1.2 | (simp only [ne_eq] at hk ⊢; simp only [hk, not_false_eq_true, and_self])) (.slice Ao39 t573.length co39)) (fun _ hk => by first | exact hk.1.2 | (simp only [ne_eq] at hk ⊢; simp only [hk, not_false_eq_true, and_self])) (.slice Ao40 t576.length co40)) (fun _ hk => hk.2) (.slice Ao41 t579.length co41)) (fun _ hk => hk.2) (.slice Ao43 t582.length co43)) (fun _ hk => hk.2) (.slice Ao44 t585.length co44)) (fun _ h_ => h_.1)) (fun _ h_ => h_.1))))).2.2); (case side12 => exact sc HO587); rintro e w45 ⟨rfl, hb⟩; refine ⟨_, rfl, ?_⟩; replace HO572 := am (Kd.R_below (rl ((Kd.R_mono (Kd.R_mono (Kd.R_far (p := ⟨gb589, 2, none⟩) (Kd.R_far (p := ⟨gb589, 1, none⟩) (Kd.R_far (p := ⟨gb589, 0, none⟩) (Kd.R_far (p := ⟨gb588, 2, none⟩) (Kd.R_far (p := ⟨gb588, 1, none⟩) (Kd.R_far (p := ⟨gb588, 0, none⟩) (Kd.R_types (Kd.R_types HO572.out BK588.out (by decide)) BK589.out (by decide)) (fun _ hk => by first | exact hk.1.2 | (simp only [ne_eq] at hk ⊢; simp only [hk, not_false_eq_true, and_self])) (.slice Ao36 t570.length co36)) (fun _ hk => by first | exact hk.1.2 | (simp only [ne_eq] at hk ⊢; simp only [hk, not_false_eq_true, and_self])) (.slice Ao39 t573.length co39)) (fun _ hk => by first | exact hk.1.2 | (simp only [ne_eq] at hk ⊢; simp only [hk, not_false_eq_true, and_self])) (.slice Ao40 t576.length co40)) (fun _ hk => hk.2) (.slice Ao41 t579.length co41)) (fun _ hk => hk.2) (.slice Ao43 t582.length co43)) (fun _ hk => hk.2) (.slice Ao44 t585.length co44)) (fun _ h_ => h_.1)) (fun _ h_ => h_.1)))) hb); replace HO575 := am (Kd.R_below (rl ((Kd.R_mono (Kd.R_mono (Kd.R_far (p := ⟨gb589, 2, none⟩) (Kd.R_far (p := ⟨gb589, 1, none⟩) (Kd.R_far (p := ⟨gb589, 0, none⟩) (Kd.R_far (p := ⟨gb588, 2, none⟩) (Kd.R_far (p := ⟨gb588, 1, none⟩) (Kd.R_far (p := ⟨gb588, 0, none⟩) (Kd.R_types (Kd.R_types HO575.out BK588.out (by decide)) BK589.out (by decide)) (fun _ hk => by first | exact hk.1.2 | (simp only [ne_eq] at hk ⊢; simp only [hk, not_false_eq_true, and_self])) (.slice Ao36 t570.length co36)) (fun _ hk => by first | exact hk.1.2 | (simp only [ne_eq] at hk ⊢; simp only [hk, not_false_eq_true, and_self])) (.slice Ao39 t573.length co39)) (fun _ hk => by first | exact hk.1.2 | (simp only [ne_eq] at hk ⊢; simp only [hk, not_false_eq_true, and_self])) (.slice Ao40 t576.length co40)) (fun _ hk => hk.2) (.slice Ao41 t579.length co41)) (fun _ hk => hk.2) (.slice Ao43 t582.length co43)) (fun _ hk => hk.2) (.slice Ao44 t585.length co44)) (fun _ h_ => h_.1)) (fun _ h_ => h_.1)))) hb); replace HO578 := am (Kd.R_below (rl ((Kd.R_mono (Kd.R_mono (Kd.R_far (p := ⟨gb589, 2, none⟩) (Kd.R_far (p := ⟨gb589, 1, none⟩) (Kd.R_far (p := ⟨gb589, 0, none⟩) (Kd.R_far (p := ⟨gb588, 2, none⟩) (Kd.R_far (p := ⟨gb588, 1, none⟩) (Kd.R_far (p := ⟨gb588, 0, none⟩) (Kd.R_types (Kd.R_types HO578.out BK588.out (by decide)) BK589.out (by decide)) (fun _ hk => by first | exact hk.1.2 | (simp only [ne_eq] at hk ⊢; simp only [hk, not_false_eq_true, and_self])) (.slice Ao36 t570.length co36)) (fun _ hk => by first | exact hk.1.2 | (simp only [ne_eq] at hk ⊢; simp only [hk, not_false_eq_true, and_self])) (.slice Ao39 t573.length co39)) (fun _ hk => by first | exact hk.1.2 | (simp only [ne_eq] at hk ⊢; simp only [hk, not_false_eq_true, and_self])) (.slice Ao40 t576.length co40)) (fun _ hk => hk.2) (.slice Ao41 t579.length co41)) (fun _ hk => hk.2) (.slice Ao43 t582.length co43)) (fun _ hk => hk.2) (.slice Ao44 t585.length co44)) (fun _ h_ => h_.1)) (fun _ h_ => h_.1)))) hb); replace HO581 := am (Kd.R_below (rl ((Kd.R_mono (Kd.R_mono (Kd.R_far (p := ⟨gb589, 2, none⟩) (Kd.R_far (p := ⟨gb589, 1, none⟩) (Kd.R_far (p := ⟨gb589, 0, none⟩) (Kd.R_far (p := ⟨gb588, 2, none⟩) (Kd.R_far (p := ⟨gb588, 1, none⟩) (Kd.R_far (p := ⟨gb588, 0, none⟩) (Kd.R_types (Kd.R_types HO581.out BK588.out (by decide)) BK589.out (by decide)) (fun _ hk => by first | exact hk.1.2 | (simp only [ne_eq] at hk ⊢; simp only [hk, not_false_eq_true, and_self])) (.slice Ao36 t570.length co36)) (fun _ hk => by first | exact hk.1.2 | (simp only [ne_eq] at hk ⊢; simp only [hk, not_false_eq_true, and_self])) (.slice Ao39 t573.length co39)) (fun _ hk => by first | exact hk.1.2 | (simp only [ne_eq] at hk ⊢; simp only [hk, not_false_eq_true, and_self])) (.slice Ao40 t576.length co40)) (fun _ hk => hk.2) (.slice Ao41 t579.length co41)) (fun _ hk => hk.2) (.slice Ao43 t582.length co43)) (fun _ hk => hk.2) (.slice Ao44 t585.length co44)) (fun _ h_ => h_.1)) (fun _ h_ => h_.1)))) hb); replace HO584 := am (Kd.R_below (rl ((Kd.R_mono (Kd.R_mono (Kd.R_far (p := ⟨gb589, 2, none⟩) (Kd.R_far (p := ⟨gb589, 1, none⟩) (Kd.R_far (p := ⟨gb589, 0, none⟩) (Kd.R_far (p := ⟨gb588, 2, none⟩) (Kd.R_far (p := ⟨gb588, 1, none⟩) (Kd.R_far (p := ⟨gb588, 0, none⟩) (Kd.R_types (Kd.R_types HO584.out BK588.out (by decide)) BK589.out (by decide)) (fun _ hk => by first | exact hk.1.2 | (simp only [ne_eq] at hk ⊢; simp only [hk, not_false_eq_true, and_self])) (.slice Ao36 t570.length co36)) (fun _ hk => by first | exact hk.1.2 | (simp only [ne_eq] at hk ⊢; simp only [hk, not_false_eq_true, and_self])) (.slice Ao39 t573.length co39)) (fun _ hk => by first | exact hk.1.2 | (simp only [ne_eq] at hk ⊢; simp only [hk, not_false_eq_true, and_self])) (.slice Ao40 t576.length co40)) (fun _ hk => hk.2) (.slice Ao41 t579.length co41)) (fun _ hk => hk.2) (.slice Ao43 t582.length co43)) (fun _ hk => hk.2) (.slice Ao44 t585.length co44)) (fun _ h_ => h_.1)) (fun _ h_ => h_.1)))) hb); replace HO587 := am (Kd.R_below (rl ((Kd.R_mono (Kd.R_mono (Kd.R_far (p := ⟨gb589, 2, none⟩) (Kd.R_far (p := ⟨gb589, 1, none⟩) (Kd.R_far (p := ⟨gb589, 0, none⟩) (Kd.R_far (p := ⟨gb588, 2, none⟩) (Kd.R_far (p := ⟨gb588, 1, none⟩) (Kd.R_far (p := ⟨gb588, 0, none⟩) (Kd.R_types (Kd.R_types HO587.out BK588.out (by decide)) BK589.out (by decide)) (fun _ hk => by first | exact hk.1.2 | (simp only [ne_eq] at hk ⊢; simp only [hk, not_false_eq_true, and_self])) (.slice Ao36 t570.length co36)) (fun _ hk => by first | exact hk.1.2 | (simp only [ne_eq] at hk ⊢; simp only [hk, not_false_eq_true, and_self])) (.slice Ao39 t573.length co39)) (fun _ hk => by first | exact hk.1.2 | (simp only [ne_eq] at hk ⊢; simp only [hk, not_false_eq_true, and_self])) (.slice Ao40 t576.length co40)) (fun _ hk => hk.2) (.slice Ao41 t579.length co41)) (fun _ hk => hk.2) (.slice Ao43 t582.length co43)) (fun _ hk => hk.2) (.slice Ao44 t585.length co44)) (fun _ h_ => h_.1)) (fun _ h_ => h_.1)))) hb); replace BK588 := am (blk_below (g := gb588) (o := .cells #[.slice Ao36 t570.length co36, .slice Ao39 t573.length co39, .slice Ao40 t576.length co40] 24 (0, 0)) (by (with_reducible repeat (first | refine blk_drewN ?_ _ | refine blk_drew ?_ | refine blk_alloc ?_ _)); refine blk_far ?_ NB588_589.out _; (with_reducible repeat (first | refine blk_drewN ?_ _ | refine blk_drew ?_ | refine blk_alloc ?_ _)); refine blk_far ?_ NB588_589.out _; (with_reducible repeat (first | refine blk_drewN ?_ _ | refine blk_drew ?_ | refine blk_alloc ?_ _)); refine blk_far ?_ NB588_589.out _; (with_reducible repeat (first | refine blk_drewN ?_ _ | refine blk_drew ?_ | refine blk_alloc ?_ _)); refine blk_put (cs := #[.slice Ao36 t570.length co36, .slice Ao39 t573.length co39, .slice none 0 0]) ?_ 2 _ rfl; (with_reducible repeat (first | refine blk_drewN ?_ _ | refine blk_drew ?_ | refine blk_alloc ?_ _)); refine blk_put (cs := #[.slice Ao36 t570.length co36, .slice none 0 0, .slice none 0 0]) ?_ 1 _ rfl; (with_reducible repeat (first | refine blk_drewN ?_ _ | refine blk_drew ?_ | refine blk_alloc ?_ _)); refine blk_put (cs := #[.slice none 0 0, .slice none 0 0, .slice none 0 0]) ?_ 0 _ rfl; (with_reducible repeat (first | refine blk_drewN ?_ _ | refine blk_drew ?_ | refine blk_alloc ?_ _)); exact BK588.out) hb); replace BK589 := bp3 (kf1 NB589_588.out BK589.out) hb; replace HB := am (below_step (bs2 GE588.out GE589.out HB.out) hb); (try clear hb)))
      replace HO572 := am (Kd.R_drew HO572.out)
      replace HO575 := am (Kd.R_drew HO575.out)
      replace HO578 := am (Kd.R_drew HO578.out)
      replace HO581 := am (Kd.R_drew HO581.out)
      replace HO584 := am (Kd.R_drew HO584.out)
      replace HO587 := am (Kd.R_drew HO587.out)
      replace BK588 := am (blk_drew BK588.out)
      replace BK589 := am (blk_drew BK589.out)
      replace HB := am (below_drew1 HB.out)
      refine start_ (n := 29) (S := fun w' => w'.cell? ⟨gb588, 0, none⟩ = some (.slice Ao36 t570.length co36) ∧ w'.cell? ⟨gb588, 1, none⟩ = some (.slice Ao39 t573.length co39) ∧ w'.cell? ⟨gb588, 2, none⟩ = some (.slice Ao40 t576.length co40) ∧ w'.cell? ⟨gb589, 0, none⟩ = some (.slice Ao41 t579.length co41) ∧ w'.cell? ⟨gb589, 1, none⟩ = some (.slice Ao43 t582.length co43) ∧ w'.cell? ⟨gb589, 2, none⟩ = some (.slice Ao44 t585.length co44)) (ds := []) #[false, false, false, false, false, false, false, false, false, false, false, false, false, false, false, false, false, false, false, false, false, false, false, false, false, false, false, false, false] (by kernel_rfl) rfl rfl ⟨(blk_cell BK588.out 0).trans rfl, (blk_cell BK588.out 1).trans rfl, (blk_cell BK588.out 2).trans rfl, (blk_cell BK589.out 0).trans rfl, (blk_cell BK589.out 1).trans rfl, (blk_cell BK589.out 2).trans rfl⟩ (fun hHeld => ?_); refine with_tabW laws_FnHeapSame.tab5 laws_FnHeapSame.bits5 (fun HT_ HW_ => ?_)
      generalize w45.drew = w46 at HO572 HO575 HO578 HO581 HO584 HO587 BK588 BK589 HB hHeld ⊢
      refine pure_ (i := 0) (N := some 17) (v := ?_) (a' := ?_) #[true, false, false, false, false, false, false, false, false, false, false, false, false, false, false, false, false, false, false, false, false, false, false, false, false, false, false, false, false] rfl rfl (any_of HT_.out (by kernel_rfl)) (fun _ _ _ h => h) (Or.inl ⟨by rfl, ?_⟩) ?_ ?_
      rotate_left
      ·intro w'
       go_simp
       with_reducible rfl
      rotate_left
      ·simp only [Act.put, List.setIfInBounds_toArray, List.set_cons_zero, List.set_cons_succ, i64_w, i32_w]
       rfl
      refine take_ (i := 1) (N := some 18) (v := ?_) (a' := ?_) #[true, true, false, false, false, false, false, false, false, false, false, false, false, false, false, false, false, false, false, false, false, false, false, false, false, false, false, false, false] rfl rfl (take_ofW HT_.out HW_.out (by kernel_rfl)) (fun _ _ _ h => h) (Or.inl ⟨by rfl, ?_⟩) hHeld ?_ ?_
      rotate_left
      ·rintro w' ⟨s0, s1, s2, s3, s4, s5⟩
       go_simp
       with_reducible rfl
      rotate_left
      ·simp only [Act.put, List.setIfInBounds_toArray, List.set_cons_zero, List.set_cons_succ, i64_w, i32_w]
       rfl
      refine take_ (i := 2) (N := some 19) (v := ?_) (a' := ?_) #[true, true, true, false, false, false, false, false, false, false, false, false, false, false, false, false, false, false, false, false, false, false, false, false, false, false, false, false, false] rfl rfl (take_ofW HT_.out HW_.out (by kernel_rfl)) (fun _ _ _ h => h) (Or.inl ⟨by rfl, ?_⟩) hHeld ?_ ?_
      rotate_left
      ·rintro w' ⟨s0, s1, s2, s3, s4, s5⟩
       go_simp
       with_reducible rfl
      rotate_left
      ·simp only [Act.put, List.setIfInBounds_toArray, List.set_cons_zero, List.set_cons_succ, i64_w, i32_w]
       rfl
      refine one_ (i := 3) (N := some 20) #[true, true, true, true, false, false, false, false, false, false, false, false, false, false, false, false, false, false, false, false, false, false, false, false, false, false, false, false, false] rfl rfl (one_of HT_.out (by kernel_rfl)) (by decide) (fun K hK => ?_)
      refine goes_ Tryd.func22 (by kernel_rfl) rfl #[.agg #[.slice Ao36 t570.length co36, .slice Ao39 t573.length co39, .slice Ao40 t576.length co40], .agg #[.slice Ao41 t579.length co41, .slice Ao43 t582.length co43, .slice Ao44 t585.length co44]] (by rfl) rfl rfl (by (try simp only [List.map_toArray, List.map_cons, List.map_nil]); first | done | rfl | (simp only [List.length_drop, List.length_take]; rfl)) ?_
      with_reducible refine (spec_HeapSame.calls k _ _ t570 _ _ t573 _ _ t576 _ _ t579 _ _ t582 _ _ t585 t591 _ ?side1 ?side2 ?side3 ?side4 ?side5 ?side6 ?side7 ?side8 ?side9 ?side10 ?side11 ?side12 A5.out).mono ?_
      (case side1 => exact cl ((Kd.R_reads' HO572.out).2.2))
      (case side2 => exact sc HO572)
      (case side3 => exact cl ((Kd.R_reads' HO575.out).2.2))
      (case side4 => exact sc HO575)
      (case side5 => exact cl ((Kd.R_reads' HO578.out).2.2))
      (case side6 => exact sc HO578)
      (case side7 => exact cl ((Kd.R_reads' HO581.out).2.2))
      (case side8 => exact sc HO581)
      (case side9 => exact cl ((Kd.R_reads' HO584.out).2.2))
      (case side10 => exact sc HO584)
      (case side11 => exact cl ((Kd.R_reads' HO587.out).2.2))
      (case side12 => exact sc HO587)
      rintro e w47 ⟨rfl, hb⟩
      refine ⟨_, rfl, ?_⟩
      replace HO572 := rb HO572 hb
      replace HO575 := rb HO575 hb
      replace HO578 := rb HO578 hb
      replace HO581 := rb HO581 hb
      replace HO584 := rb HO584 hb
      replace HO587 := rb HO587 hb
      replace BK588 := bb BK588 hb
      replace BK589 := bb BK589 hb
      replace HB := am (below_step (bs2 GE588.out GE589.out HB.out) hb)
      (try clear hb)
      refine hK.out _ _ ⟨(blk_cell BK588.out 0).trans rfl, (blk_cell BK588.out 1).trans rfl, (blk_cell BK588.out 2).trans rfl, (blk_cell BK589.out 0).trans rfl, (blk_cell BK589.out 1).trans rfl, (blk_cell BK589.out 2).trans rfl⟩ (fun hHeld => ?_)
      clear hK K
      refine norm_ (a' := ?_) ?_ ?_
      rotate_left
      ·show Act.put _ (some 20) _ = _
       simp only [Act.put, List.setIfInBounds_toArray, List.set_cons_zero, List.set_cons_succ, i64_w, i32_w]
       rfl
      refine pure_ (i := 4) (N := some 21) (v := ?_) (a' := ?_) #[true, true, true, true, true, false, false, false, false, false, false, false, false, false, false, false, false, false, false, false, false, false, false, false, false, false, false, false, false] rfl rfl (any_of HT_.out (by kernel_rfl)) (fun _ _ _ h => h) (Or.inl ⟨by rfl, ?_⟩) ?_ ?_
      rotate_left
      ·intro w'
       go_simp
       with_reducible rfl
      rotate_left
      ·simp only [Act.put, List.setIfInBounds_toArray, List.set_cons_zero, List.set_cons_succ, i64_w, i32_w]
       rfl
      refine pure_ (i := 5) (N := some 22) (v := ?_) (a' := ?_) #[true, true, true, true, true, true, false, false, false, false, false, false, false, false, false, false, false, false, false, false, false, false, false, false, false, false, false, false, false] rfl rfl (any_of HT_.out (by kernel_rfl)) (fun _ _ _ h => h) (Or.inl ⟨by rfl, ?_⟩) ?_ ?_
      rotate_left
      ·intro w'
       go_simp
       with_reducible rfl
      rotate_left
      ·simp only [Act.put, List.setIfInBounds_toArray, List.set_cons_zero, List.set_cons_succ, i64_w, i32_w]
       rfl
      refine pure_ (i := 6) (N := some 23) (v := ?_) (a' := ?_) #[true, true, true, true, true, true, true, false, false, false, false, false, false, false, false, false, false, false, false, false, false, false, false, false, false, false, false, false, false] rfl rfl (any_of HT_.out (by kernel_rfl)) (fun _ _ _ h => h) (Or.inl ⟨by rfl, ?_⟩) ?_ ?_
      rotate_left
      ·intro w'
       go_simp
       with_reducible rfl
      rotate_left
      ·simp only [Act.put, List.setIfInBounds_toArray, List.set_cons_zero, List.set_cons_succ, i64_w, i32_w]
       rfl
      refine take_ (i := 7) (N := some 24) (v := ?_) (a' := ?_) #[true, true, true, true, true, true, true, true, false, false, false, false, false, false, false, false, false, false, false, false, false, false, false, false, false, false, false, false, false] rfl rfl (take_ofW HT_.out HW_.out (by kernel_rfl)) (fun _ _ _ h => h) (Or.inl ⟨by rfl, ?_⟩) hHeld ?_ ?_
      rotate_left
      ·rintro w' ⟨s0, s1, s2, s3, s4, s5⟩
       go_simp
       with_reducible rfl
      rotate_left
      ·simp only [Act.put, List.setIfInBounds_toArray, List.set_cons_zero, List.set_cons_succ, i64_w, i32_w]
       rfl
      refine take_ (i := 8) (N := some 25) (v := ?_) (a' := ?_) #[true, true, true, true, true, true, true, true, true, false, false, false, false, false, false, false, false, false, false, false, false, false, false, false, false, false, false, false, false] rfl rfl (take_ofW HT_.out HW_.out (by kernel_rfl)) (fun _ _ _ h => h) (Or.inl ⟨by rfl, ?_⟩) hHeld ?_ ?_
      rotate_left
      ·rintro w' ⟨s0, s1, s2, s3, s4, s5⟩
       go_simp
       with_reducible rfl
      rotate_left
      ·simp only [Act.put, List.setIfInBounds_toArray, List.set_cons_zero, List.set_cons_succ, i64_w, i32_w]
       rfl
      refine one_ (i := 9) (N := some 26) #[true, true, true, true, true, true, true, true, true, true, false, false, false, false, false, false, false, false, false, false, false, false, false, false, false, false, false, false, false] rfl rfl (one_of HT_.out (by kernel_rfl)) (by decide) (fun K hK => ?_)
      refine goes_ Tryd.func15 (by kernel_rfl) rfl #[.agg #[.slice Ao41 t579.length co41, .slice Ao43 t582.length co43, .slice Ao44 t585.length co44], .agg #[.slice Ao36 t570.length co36, .slice Ao39 t573.length co39, .slice Ao40 t576.length co40]] (by rfl) rfl rfl (by (try simp only [List.map_toArray, List.map_cons, List.map_nil]); first | done | rfl | (simp only [List.length_drop, List.length_take]; rfl)) ?_
      with_reducible refine (impl_HeapSame.calls k _ _ t579 _ _ t582 _ _ t585 _ _ t570 _ _ t573 _ _ t576 t592 _ ?side1 ?side2 ?side3 ?side4 ?side5 ?side6 ?side7 ?side8 ?side9 ?side10 ?side11 ?side12 A7.out).mono ?_
      (case side1 => exact cl ((Kd.R_reads' HO581.out).2.2))
      (case side2 => exact sc HO581)
      (case side3 => exact cl ((Kd.R_reads' HO584.out).2.2))
      (case side4 => exact sc HO584)
      (case side5 => exact cl ((Kd.R_reads' HO587.out).2.2))
      (case side6 => exact sc HO587)
      (case side7 => exact cl ((Kd.R_reads' HO572.out).2.2))
      (case side8 => exact sc HO572)
      (case side9 => exact cl ((Kd.R_reads' HO575.out).2.2))
      (case side10 => exact sc HO575)
      (case side11 => exact cl ((Kd.R_reads' HO578.out).2.2))
      (case side12 => exact sc HO578)
      rintro e w48 ⟨rfl, hb⟩
      refine ⟨_, rfl, ?_⟩
      replace HO572 := rb HO572 hb
      replace HO575 := rb HO575 hb
      replace HO578 := rb HO578 hb
      replace HO581 := rb HO581 hb
      replace HO584 := rb HO584 hb
      replace HO587 := rb HO587 hb
      replace BK588 := bb BK588 hb
      replace BK589 := bb BK589 hb
      replace HB := am (below_step (bs2 GE588.out GE589.out HB.out) hb)
      (try clear hb)
      refine hK.out _ _ ⟨(blk_cell BK588.out 0).trans rfl, (blk_cell BK588.out 1).trans rfl, (blk_cell BK588.out 2).trans rfl, (blk_cell BK589.out 0).trans rfl, (blk_cell BK589.out 1).trans rfl, (blk_cell BK589.out 2).trans rfl⟩ (fun hHeld => ?_)
      clear hK K
      refine norm_ (a' := ?_) ?_ ?_
      rotate_left
      ·show Act.put _ (some 26) _ = _
       simp only [Act.put, List.setIfInBounds_toArray, List.set_cons_zero, List.set_cons_succ, i64_w, i32_w]
       rfl
      refine pure_ (i := 10) (N := some 27) (v := ?_) (a' := ?_) #[true, true, true, true, true, true, true, true, true, true, true, false, false, false, false, false, false, false, false, false, false, false, false, false, false, false, false, false, false] rfl rfl (any_of HT_.out (by kernel_rfl)) (fun _ _ _ h => h) (Or.inl ⟨by rfl, ?_⟩) ?_ ?_
      rotate_left
      ·intro w'
       go_simp
       with_reducible rfl
      rotate_left
      ·simp only [Act.put, List.setIfInBounds_toArray, List.set_cons_zero, List.set_cons_succ, i64_w, i32_w]
       rfl
      refine pure_ (i := 11) (N := some 28) (v := ?_) (a' := ?_) #[true, true, true, true, true, true, true, true, true, true, true, true, false, false, false, false, false, false, false, false, false, false, false, false, false, false, false, false, false] rfl rfl (any_of HT_.out (by kernel_rfl)) (fun _ _ _ h => h) (Or.inl ⟨by rfl, ?_⟩) ?_ ?_
      rotate_left
      ·intro w'
       go_simp
       with_reducible rfl
      rotate_left
      ·simp only [Act.put, List.setIfInBounds_toArray, List.set_cons_zero, List.set_cons_succ, i64_w, i32_w]
       rfl
      refine pure_ (i := 12) (N := some 29) (v := ?_) (a' := ?_) #[true, true, true, true, true, true, true, true, true, true, true, true, true, false, false, false, false, false, false, false, false, false, false, false, false, false, false, false, false] rfl rfl (any_of HT_.out (by kernel_rfl)) (fun _ _ _ h => h) (Or.inl ⟨by rfl, ?_⟩) ?_ ?_
      rotate_left
      ·intro w'
       go_simp
       with_reducible rfl
      rotate_left
      ·simp only [Act.put, List.setIfInBounds_toArray, List.set_cons_zero, List.set_cons_succ, i64_w, i32_w]
       rfl
      refine take_ (i := 13) (N := some 30) (v := ?_) (a' := ?_) #[true, true, true, true, true, true, true, true, true, true, true, true, true, true, false, false, false, false, false, false, false, false, false, false, false, false, false, false, false] rfl rfl (take_ofW HT_.out HW_.out (by kernel_rfl)) (fun _ _ _ h => h) (Or.inl ⟨by rfl, ?_⟩) hHeld ?_ ?_
      rotate_left
      ·rintro w' ⟨s0, s1, s2, s3, s4, s5⟩
       go_simp
       with_reducible rfl
      rotate_left
      ·simp only [Act.put, List.setIfInBounds_toArray, List.set_cons_zero, List.set_cons_succ, i64_w, i32_w]
       rfl
      refine take_ (i := 14) (N := some 31) (v := ?_) (a' := ?_) #[true, true, true, true, true, true, true, true, true, true, true, true, true, true, true, false, false, false, false, false, false, false, false, false, false, false, false, false, false] rfl rfl (take_ofW HT_.out HW_.out (by kernel_rfl)) (fun _ _ _ h => h) (Or.inl ⟨by rfl, ?_⟩) hHeld ?_ ?_
      rotate_left
      ·rintro w' ⟨s0, s1, s2, s3, s4, s5⟩
       go_simp
       with_reducible rfl
      rotate_left
      ·simp only [Act.put, List.setIfInBounds_toArray, List.set_cons_zero, List.set_cons_succ, i64_w, i32_w]
       rfl
      refine one_ (i := 15) (N := some 32) #[true, true, true, true, true, true, true, true, true, true, true, true, true, true, true, true, false, false, false, false, false, false, false, false, false, false, false, false, false] rfl rfl (one_of HT_.out (by kernel_rfl)) (by decide) (fun K hK => ?_)
      refine goes_ Tryd.func15 (by kernel_rfl) rfl #[.agg #[.slice Ao36 t570.length co36, .slice Ao39 t573.length co39, .slice Ao40 t576.length co40], .agg #[.slice Ao36 t570.length co36, .slice Ao39 t573.length co39, .slice Ao40 t576.length co40]] (by rfl) rfl rfl (by (try simp only [List.map_toArray, List.map_cons, List.map_nil]); first | done | rfl | (simp only [List.length_drop, List.length_take]; rfl)) ?_
      with_reducible refine (impl_HeapSame.calls k _ _ t570 _ _ t573 _ _ t576 _ _ t570 _ _ t573 _ _ t576 true _ ?side1 ?side2 ?side3 ?side4 ?side5 ?side6 ?side7 ?side8 ?side9 ?side10 ?side11 ?side12 A9.out).mono ?_
      (case side1 => exact cl ((Kd.R_reads' HO572.out).2.2))
      (case side2 => exact sc HO572)
      (case side3 => exact cl ((Kd.R_reads' HO575.out).2.2))
      (case side4 => exact sc HO575)
      (case side5 => exact cl ((Kd.R_reads' HO578.out).2.2))
      (case side6 => exact sc HO578)
      (case side7 => exact cl ((Kd.R_reads' HO572.out).2.2))
      (case side8 => exact sc HO572)
      (case side9 => exact cl ((Kd.R_reads' HO575.out).2.2))
      (case side10 => exact sc HO575)
      (case side11 => exact cl ((Kd.R_reads' HO578.out).2.2))
      (case side12 => exact sc HO578)
      rintro e w49 ⟨rfl, hb⟩
      refine ⟨_, rfl, ?_⟩
      replace HO572 := rb HO572 hb
      replace HO575 := rb HO575 hb
      replace HO578 := rb HO578 hb
      replace HO581 := rb HO581 hb
      replace HO584 := rb HO584 hb
      replace HO587 := rb HO587 hb
      replace BK588 := bb BK588 hb
      replace BK589 := bb BK589 hb
      replace HB := am (below_step (bs2 GE588.out GE589.out HB.out) hb)
      (try clear hb)
      refine hK.out _ _ ⟨(blk_cell BK588.out 0).trans rfl, (blk_cell BK588.out 1).trans rfl, (blk_cell BK588.out 2).trans rfl, (blk_cell BK589.out 0).trans rfl, (blk_cell BK589.out 1).trans rfl, (blk_cell BK589.out 2).trans rfl⟩ (fun hHeld => ?_)
      clear hK K
      refine norm_ (a' := ?_) ?_ ?_
      rotate_left
      ·show Act.put _ (some 32) _ = _
       simp only [Act.put, List.setIfInBounds_toArray, List.set_cons_zero, List.set_cons_succ, i64_w, i32_w]
       rfl
      refine pure_ (i := 16) (N := some 33) (v := ?_) (a' := ?_) #[true, true, true, true, true, true, true, true, true, true, true, true, true, true, true, true, true, false, false, false, false, false, false, false, false, false, false, false, false] rfl rfl (any_of HT_.out (by kernel_rfl)) (fun _ _ _ h => h) (Or.inl ⟨by rfl, ?_⟩) ?_ ?_
      rotate_left
      ·intro w'
       go_simp
       with_reducible rfl
      rotate_left
      ·simp only [Act.put, List.setIfInBounds_toArray, List.set_cons_zero, List.set_cons_succ, i64_w, i32_w]
       rfl
      refine pure_ (i := 17) (N := some 34) (v := ?_) (a' := ?_) #[true, true, true, true, true, true, true, true, true, true, true, true, true, true, true, true, true, true, false, false, false, false, false, false, false, false, false, false, false] rfl rfl (any_of HT_.out (by kernel_rfl)) (fun _ _ _ h => h) (Or.inl ⟨by rfl, ?_⟩) ?_ ?_
      rotate_left
      ·intro w'
       go_simp
       with_reducible rfl
      rotate_left
      ·simp only [Act.put, List.setIfInBounds_toArray, List.set_cons_zero, List.set_cons_succ, i64_w, i32_w]
       rfl
      refine pure_ (i := 18) (N := some 35) (v := ?_) (a' := ?_) #[true, true, true, true, true, true, true, true, true, true, true, true, true, true, true, true, true, true, true, false, false, false, false, false, false, false, false, false, false] rfl rfl (any_of HT_.out (by kernel_rfl)) (fun _ _ _ h => h) (Or.inl ⟨by rfl, ?_⟩) ?_ ?_
      rotate_left
      ·intro w'
       go_simp
       with_reducible rfl
      rotate_left
      ·simp only [Act.put, List.setIfInBounds_toArray, List.set_cons_zero, List.set_cons_succ, i64_w, i32_w]
       rfl
      refine pure_ (i := 19) (N := some 36) (v := ?_) (a' := ?_) #[true, true, true, true, true, true, true, true, true, true, true, true, true, true, true, true, true, true, true, true, false, false, false, false, false, false, false, false, false] rfl rfl (any_of HT_.out (by kernel_rfl)) (fun _ _ _ h => h) (Or.inl ⟨by rfl, ?_⟩) ?_ ?_
      rotate_left
      ·intro w'
       go_simp
       with_reducible rfl
      rotate_left
      ·simp only [Act.put, List.setIfInBounds_toArray, List.set_cons_zero, List.set_cons_succ, i64_w, i32_w]
       rfl
      refine pure_ (i := 20) (N := some 37) (v := ?_) (a' := ?_) #[true, true, true, true, true, true, true, true, true, true, true, true, true, true, true, true, true, true, true, true, true, false, false, false, false, false, false, false, false] rfl rfl (any_of HT_.out (by kernel_rfl)) (fun _ _ _ h => h) (Or.inl ⟨by rfl, ?_⟩) ?_ ?_
      rotate_left
      ·intro w'
       go_simp
       with_reducible rfl
      rotate_left
      ·simp only [Act.put, List.setIfInBounds_toArray, List.set_cons_zero, List.set_cons_succ, i64_w, i32_w]
       rfl
      refine pure_ (i := 21) (N := some 38) (v := undef) (a' := ?_) #[true, true, true, true, true, true, true, true, true, true, true, true, true, true, true, true, true, true, true, true, true, true, false, false, false, false, false, false, false] rfl rfl (any_of HT_.out (by kernel_rfl)) (fun _ _ _ h => h) (Or.inr ⟨by rfl, rfl⟩) ?_ ?_
      rotate_left
      ·simp only [Act.put, List.setIfInBounds_toArray, List.set_cons_zero, List.set_cons_succ, i64_w, i32_w]
       rfl
      refine pure_ (i := 22) (N := some 39) (v := undef) (a' := ?_) #[true, true, true, true, true, true, true, true, true, true, true, true, true, true, true, true, true, true, true, true, true, true, true, false, false, false, false, false, false] rfl rfl (any_of HT_.out (by kernel_rfl)) (fun _ _ _ h => h) (Or.inr ⟨by rfl, rfl⟩) ?_ ?_
      rotate_left
      ·simp only [Act.put, List.setIfInBounds_toArray, List.set_cons_zero, List.set_cons_succ, i64_w, i32_w]
       rfl
      refine pure_ (i := 23) (N := some 40) (v := undef) (a' := ?_) #[true, true, true, true, true, true, true, true, true, true, true, true, true, true, true, true, true, true, true, true, true, true, true, true, false, false, false, false, false] rfl rfl (any_of HT_.out (by kernel_rfl)) (fun _ _ _ h => h) (Or.inr ⟨by rfl, rfl⟩) ?_ ?_
      rotate_left
      ·simp only [Act.put, List.setIfInBounds_toArray, List.set_cons_zero, List.set_cons_succ, i64_w, i32_w]
       rfl
      refine pure_ (i := 24) (N := some 41) (v := undef) (a' := ?_) #[true, true, true, true, true, true, true, true, true, true, true, true, true, true, true, true, true, true, true, true, true, true, true, true, true, false, false, false, false] rfl rfl (any_of HT_.out (by kernel_rfl)) (fun _ _ _ h => h) (Or.inr ⟨by rfl, rfl⟩) ?_ ?_
      rotate_left
      ·simp only [Act.put, List.setIfInBounds_toArray, List.set_cons_zero, List.set_cons_succ, i64_w, i32_w]
       rfl
      refine pure_ (i := 25) (N := some 42) (v := undef) (a' := ?_) #[true, true, true, true, true, true, true, true, true, true, true, true, true, true, true, true, true, true, true, true, true, true, true, true, true, true, false, false, false] rfl rfl (any_of HT_.out (by kernel_rfl)) (fun _ _ _ h => h) (Or.inr ⟨by rfl, rfl⟩) ?_ ?_
      rotate_left
      ·simp only [Act.put, List.setIfInBounds_toArray, List.set_cons_zero, List.set_cons_succ, i64_w, i32_w]
       rfl
      refine pure_ (i := 26) (N := some 43) (v := ?_) (a' := ?_) #[true, true, true, true, true, true, true, true, true, true, true, true, true, true, true, true, true, true, true, true, true, true, true, true, true, true, true, false, false] rfl rfl (any_of HT_.out (by kernel_rfl)) (fun _ _ _ h => h) (Or.inl ⟨by rfl, ?_⟩) ?_ ?_
      rotate_left
      ·intro w'
       go_simp
       with_reducible rfl
      rotate_left
      ·simp only [Act.put, List.setIfInBounds_toArray, List.set_cons_zero, List.set_cons_succ, i64_w, i32_w]
       rfl
      refine pure_ (i := 27) (N := some 44) (v := ?_) (a' := ?_) #[true, true, true, true, true, true, true, true, true, true, true, true, true, true, true, true, true, true, true, true, true, true, true, true, true, true, true, true, false] rfl rfl (any_of HT_.out (by kernel_rfl)) (fun _ _ _ h => h) (Or.inl ⟨by rfl, ?_⟩) ?_ ?_
      rotate_left
      ·intro w'
       go_simp
       with_reducible rfl
      rotate_left
      ·simp only [Act.put, List.setIfInBounds_toArray, List.set_cons_zero, List.set_cons_succ, i64_w, i32_w]
       rfl
      refine pure_ (i := 28) (N := some 2) (v := ?_) (a' := ?_) #[true, true, true, true, true, true, true, true, true, true, true, true, true, true, true, true, true, true, true, true, true, true, true, true, true, true, true, true, true] rfl rfl (any_of HT_.out (by kernel_rfl)) (fun _ _ _ h => h) (Or.inl ⟨by rfl, ?_⟩) ?_ ?_
      rotate_left
      ·intro w'
       go_simp
       with_reducible rfl
      rotate_left
      ·simp only [Act.put, List.setIfInBounds_toArray, List.set_cons_zero, List.set_cons_succ, i64_w, i32_w]
       rfl
      refine done_ (done_of HT_.out (by kernel_rfl)) ?_
      try go_wp2
      go_ret
      exact ⟨by first | rfl | (simp [errW_none, errW_some] <;> rfl) | (simp [*, errW_none, errW_some] <;> rfl), by exact bs2 GE588.out GE589.out HB.out⟩
    ·replace c10 := Bool.eq_false_iff.mpr c10
     subst c10
     have H1 : (none) = some r := by rw [if_neg (show ¬ (false = true) by decide)] at H; exact H
     clear H
     have H := H1
     clear H1
     exact absurd H (by simp)
   ·rw [if_neg c8] at H
    have c8b0 : (t590 == t592) = false := by simpa using c8
    (try (have c8b1 : decide (t590 = t592) = false := by simpa using c8))
    (try (have c8b2 : (t590 == t592) = false := by simpa using c8))
    (try (have c8b3 : ¬ (t590 = t592) := by simpa using c8))
    clear c8
    exact absurd H (by simp)
  ·rw [if_neg c6] at H
   have c6b0 : (t590 == t591) = false := by simpa using c6
   (try (have c6b1 : decide (t590 = t591) = false := by simpa using c6))
   (try (have c6b2 : (t590 == t591) = false := by simpa using c6))
   (try (have c6b3 : ¬ (t590 = t591) := by simpa using c6))
   clear c6
   exact absurd H (by simp)

/-- THE ONE PURE STATEMENT of laws_FnHeapSame: yours. -/
def laws_FnHeapSame.Pure : Prop := ∀ (l0 : List Int), l0.length ≤ maxLen → l0.length * 1 ≤ 140737488351232 → (∀ x ∈ l0, (Lit.int .u8 x).wf = true) → ∃ k, laws_FnHeapSame.f k l0 = some true
theorem laws_FnHeapSame.walk (P : laws_FnHeapSame.Pure) (a0 : Option Addr) (len0 cap0 : Nat) (z0 : List Int) (w : World) (w0 : (a0 = none ∧ len0 = 0 ∧ cap0 = 0 ∧ z0 = []) ∨ ∃ x, a0 = some x ∧ len0 ≤ cap0 ∧ cap0 ≤ maxLen ∧ z0.length = cap0 ∧ (∀ i, i < z0.length → w.cell? (x.add i) = some (.int .u8 (z0.getD i 0))) ∧ ∀ n ∈ z0, (Lit.int .u8 n).wf = true) (y0 : len0 * 1 ≤ 140737488351232) :
  Calls Tryd.prog 6 #[.slice a0 len0 cap0] w fun e w' => e = .returned (.bool true) ∧ Below w.heap.size w w' := by
 obtain ⟨l0, rfl, hr0, hm0, hw0, hc0⟩ := ReadsInt.ofRowC w0
 obtain ⟨k, h⟩ := P l0 hm0 y0 hw0
 refine (laws_FnHeapSame.calls k _ _ l0 true w (Kd.C_of_reads (d := (0 : Int)) (h1 := fun _ => rfl) hr0) hc0 h).mono ?_
 rintro e w' ⟨rfl, hd⟩
 exact ⟨rfl, hd⟩

end Go.Proofs.YtomeaapjjmaepaaDoor.A
