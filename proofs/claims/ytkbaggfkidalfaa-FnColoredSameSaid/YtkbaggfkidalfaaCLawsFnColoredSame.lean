/- Contracts of functions of the given program (CLawsFnColoredSame). No conditions beyond those stated. -/
import Derived.Test.YtkbaggfkidalfaaA0
import Derived.Test.YtkbaggfkidalfaaAImplColoredSame
import Derived.Test.YtkbaggfkidalfaaAImplColoredValid
import Derived.Test.YtkbaggfkidalfaaASpecColoredSame
import Derived.Test.YtkbaggfkidalfaaASpecColoredValid
import Derived.Test.YtkbaggfkidalfaaASpecDrawColoredSame
import Derived.Test.YtkbaggfkidalfaaA0
namespace Go.Proofs.Ytkbaggfkidalfaa.A
open Go.RowKit Go.Proofs.YtkbaggfkidalfaaW.PrintWords Go.Proofs.YtkbaggfkidalfaaW.PrintLast Go.Proofs.YtkbaggfkidalfaaW.PrintMore
attribute [local go_sem] max2_int min2_int max_two min_two max_three min_three max_four min_four   -- for this text's walks alone
set_option linter.unusedVariables false
set_option linter.unusedSimpArgs false

/-! ### laws_FnColoredSame -/
def laws_FnColoredSame.f (k : Nat) (l0 : List Int) : Option (Bool) := if (l0.length : Int) > 1048576 then (some true) else ((spec_DrawColoredSame.f k l0).bind fun bt1031 => ((impl_ColoredSame.f k bt1031.1 bt1031.2.1 bt1031.2.2.1 bt1031.2.2.2.1 bt1031.2.2.2.2.1 bt1031.2.2.2.2.2.1 bt1031.2.2.2.2.2.2.1 bt1031.2.2.2.2.2.2.2).bind fun t1057 => ((spec_ColoredSame.f k bt1031.1 bt1031.2.1 bt1031.2.2.1 bt1031.2.2.2.1 bt1031.2.2.2.2.1 bt1031.2.2.2.2.2.1 bt1031.2.2.2.2.2.2.1 bt1031.2.2.2.2.2.2.2).bind fun t1058 => (if (t1057 == t1058) = true then ((impl_ColoredSame.f k bt1031.2.2.2.2.1 bt1031.2.2.2.2.2.1 bt1031.2.2.2.2.2.2.1 bt1031.2.2.2.2.2.2.2 bt1031.1 bt1031.2.1 bt1031.2.2.1 bt1031.2.2.2.1).bind fun t1059 => (if (t1057 == t1059) = true then ((impl_ColoredSame.f k bt1031.1 bt1031.2.1 bt1031.2.2.1 bt1031.2.2.2.1 bt1031.1 bt1031.2.1 bt1031.2.2.1 bt1031.2.2.2.1).bind fun t1060 => (if t1060 = true then (if t1057 = true then ((impl_ColoredValid.f k bt1031.1 bt1031.2.1 bt1031.2.2.1 bt1031.2.2.2.1).bind fun t1061 => ((impl_ColoredValid.f k bt1031.2.2.2.2.1 bt1031.2.2.2.2.2.1 bt1031.2.2.2.2.2.2.1 bt1031.2.2.2.2.2.2.2).bind fun t1062 => (if (t1061 == t1062) = true then ((impl_ColoredValid.f k bt1031.2.2.2.2.1 bt1031.2.2.2.2.2.1 bt1031.2.2.2.2.2.2.1 bt1031.2.2.2.2.2.2.2).bind fun t1063 => ((spec_ColoredValid.f k bt1031.2.2.2.2.1 bt1031.2.2.2.2.2.1 bt1031.2.2.2.2.2.2.1 bt1031.2.2.2.2.2.2.2).bind fun t1064 => (some (t1063 == t1064)))) else (none)))) else ((impl_ColoredValid.f k bt1031.2.2.2.2.1 bt1031.2.2.2.2.2.1 bt1031.2.2.2.2.2.2.1 bt1031.2.2.2.2.2.2.2).bind fun t1065 => ((spec_ColoredValid.f k bt1031.2.2.2.2.1 bt1031.2.2.2.2.2.1 bt1031.2.2.2.2.2.2.1 bt1031.2.2.2.2.2.2.2).bind fun t1066 => (some (t1065 == t1066))))) else (none))) else (none))) else (none)))))
theorem laws_FnColoredSame.mono : ∀ a0 k, LeO (laws_FnColoredSame.f k a0) (laws_FnColoredSame.f (k + 1) a0) := by
 intro a0 k
 unfold laws_FnColoredSame.f
 repeat' first
   | (with_reducible exact impl_ColoredSame.mono _ _ _ _ _ _ _ _ _)
   | (with_reducible exact impl_ColoredValid.mono _ _ _ _ _)
   | (with_reducible exact spec_ColoredSame.mono _ _ _ _ _ _ _ _ _)
   | (with_reducible exact spec_ColoredValid.mono _ _ _ _ _)
   | (with_reducible exact spec_DrawColoredSame.mono _ _)
   | (with_reducible exact LeO.refl _)
   | (with_reducible exact LeO.none _)
   | (with_reducible refine LeO.ite ?_ ?_)
   | (with_reducible refine LeO.bind ?_ (fun _ => ?_))
   | exact impl_ColoredSame.mono _ _ _ _ _ _ _ _ _
   | exact impl_ColoredValid.mono _ _ _ _ _
   | exact spec_ColoredSame.mono _ _ _ _ _ _ _ _ _
   | exact spec_ColoredValid.mono _ _ _ _ _
   | exact spec_DrawColoredSame.mono _ _
   | exact LeO.none _
   | refine LeO.ite ?_ ?_
   | refine LeO.bind ?_ (fun _ => ?_)
def laws_FnColoredSame.T5 : Bool × List (List Nat × List Nat) := (true, [([], []), ([], []), ([], []), ([1, 2], [1, 2]), ([0, 3], [0, 3]), ([4, 3], [4]), ([5], [5]), ([5], [5]), ([5], [5]), ([7, 8, 5, 5], [5, 7, 8]), ([6, 9, 5], [5, 6, 9]), ([5, 10], [5, 10]), ([11, 9], [11]), ([12], [12]), ([12], [12]), ([13, 14, 12, 12], [12, 13, 14]), ([12, 15], [12, 15]), ([16, 15], [16]), ([17], [17]), ([18, 17], [17, 18]), ([19, 17, 17], [17, 19]), ([20], [20]), ([21, 20, 20], [20, 21]), ([20], [20]), ([23, 22, 20], [20, 23]), ([22, 24, 20], [20, 22, 24]), ([20, 25, 17], [17, 20, 25]), ([17, 26], [17, 26]), ([27, 24], [27]), ([28], [28]), ([29, 28, 28], [28, 29]), ([28], [28]), ([31, 30, 28], [28, 31]), ([30, 32, 28], [28, 30, 32]), ([28, 33], [28, 33]), ([34, 32, 0, 1, 2, 3, 4, 5, 6, 7, 8, 9, 10, 11, 12, 13, 14, 15, 16, 17, 18, 19, 20, 21, 22, 23, 24, 25, 26, 27, 28, 29, 30, 31, 32, 33, 34], [34])])
def laws_FnColoredSame.B5 : List Nat := [0, 0, 0, 6, 15, 31, 63, 63, 63, 447, 1023, 2047, 4095, 8191, 8191, 32767, 65535, 131071, 262143, 524287, 1048575, 2097151, 4194303, 2097151, 16777215, 33554431, 67108863, 134217727, 268435455, 536870911, 1073741823, 536870911, 4294967295, 8589934591, 17179869183, 34359738367]
theorem laws_FnColoredSame.tab5 : rtab .any (opsOf Try.f8 5) = laws_FnColoredSame.T5 := by kernel_rfl
theorem laws_FnColoredSame.bits5 : waitsOk laws_FnColoredSame.T5.2 laws_FnColoredSame.B5 = true := by kernel_rfl
set_option maxHeartbeats 8000000 in
set_option maxRecDepth 100000 in
theorem laws_FnColoredSame.calls (k : Nat) (A0 : Option Addr) (c0 : Nat) (l0 : List Int) (r : Bool) (w : World) (hr0 : Kd.C (Kd.int .u8) w A0 l0.length l0) (hc0 : l0.length ≤ c0) (h : laws_FnColoredSame.f k l0 = some r) :
  Calls Try.prog 8 #[.slice A0 l0.length c0] w fun e w' => e = .returned (.bool r) ∧ Below w.heap.size w w' := by
 have hu30 := Try.underlying30
 have HR0 := am hr0
 have HC0 := am hc0
 clear hr0 hc0
 have HB := am (Below.refl w.heap.size w)
 have H : (if (l0.length : Int) > 1048576 then (some true) else ((spec_DrawColoredSame.f k l0).bind fun bt1031 => ((impl_ColoredSame.f k bt1031.1 bt1031.2.1 bt1031.2.2.1 bt1031.2.2.2.1 bt1031.2.2.2.2.1 bt1031.2.2.2.2.2.1 bt1031.2.2.2.2.2.2.1 bt1031.2.2.2.2.2.2.2).bind fun t1057 => ((spec_ColoredSame.f k bt1031.1 bt1031.2.1 bt1031.2.2.1 bt1031.2.2.2.1 bt1031.2.2.2.2.1 bt1031.2.2.2.2.2.1 bt1031.2.2.2.2.2.2.1 bt1031.2.2.2.2.2.2.2).bind fun t1058 => (if (t1057 == t1058) = true then ((impl_ColoredSame.f k bt1031.2.2.2.2.1 bt1031.2.2.2.2.2.1 bt1031.2.2.2.2.2.2.1 bt1031.2.2.2.2.2.2.2 bt1031.1 bt1031.2.1 bt1031.2.2.1 bt1031.2.2.2.1).bind fun t1059 => (if (t1057 == t1059) = true then ((impl_ColoredSame.f k bt1031.1 bt1031.2.1 bt1031.2.2.1 bt1031.2.2.2.1 bt1031.1 bt1031.2.1 bt1031.2.2.1 bt1031.2.2.2.1).bind fun t1060 => (if t1060 = true then (if t1057 = true then ((impl_ColoredValid.f k bt1031.1 bt1031.2.1 bt1031.2.2.1 bt1031.2.2.2.1).bind fun t1061 => ((impl_ColoredValid.f k bt1031.2.2.2.2.1 bt1031.2.2.2.2.2.1 bt1031.2.2.2.2.2.2.1 bt1031.2.2.2.2.2.2.2).bind fun t1062 => (if (t1061 == t1062) = true then ((impl_ColoredValid.f k bt1031.2.2.2.2.1 bt1031.2.2.2.2.2.1 bt1031.2.2.2.2.2.2.1 bt1031.2.2.2.2.2.2.2).bind fun t1063 => ((spec_ColoredValid.f k bt1031.2.2.2.2.1 bt1031.2.2.2.2.2.1 bt1031.2.2.2.2.2.2.1 bt1031.2.2.2.2.2.2.2).bind fun t1064 => (some (t1063 == t1064)))) else (none)))) else ((impl_ColoredValid.f k bt1031.2.2.2.2.1 bt1031.2.2.2.2.2.1 bt1031.2.2.2.2.2.2.1 bt1031.2.2.2.2.2.2.2).bind fun t1065 => ((spec_ColoredValid.f k bt1031.2.2.2.2.1 bt1031.2.2.2.2.2.1 bt1031.2.2.2.2.2.2.1 bt1031.2.2.2.2.2.2.2).bind fun t1066 => (some (t1065 == t1066))))) else (none))) else (none))) else (none)))))) = some r := h
 clear h
 by_cases c2 : (l0.length : Int) > 1048576
 ·rw [if_pos c2] at H
  have c2b0 : decide (1048576 < (l0.length : Int)) = true := decide_eq_true c2
  have c2b1 : decide (1048576 < l0.length) = true := decide_eq_true (by omega)
  clear c2
  obtain rfl := Option.some.inj H
  go_enter Try.func8, Try.ntmps8
  go_wp2
  go_ret
  exact ⟨by first | rfl | (simp [errW_none, errW_some] <;> rfl) | (simp [*, errW_none, errW_some] <;> rfl), by exact bs0 HB.out⟩
 ·rw [if_neg c2] at H
  have c2b0 : decide (1048576 < (l0.length : Int)) = false := decide_eq_false c2
  have c2b1 : decide (1048576 < l0.length) = false := decide_eq_false (by omega)
  clear c2
  replace H := Option.bind_eq_some_iff.mp H
  obtain ⟨⟨t1031, t1034, t1037, t1040, t1043, t1046, t1049, t1052⟩, A30, H⟩ := H
  replace H : ((impl_ColoredSame.f k t1031 t1034 t1037 t1040 t1043 t1046 t1049 t1052).bind fun t1057 => ((spec_ColoredSame.f k t1031 t1034 t1037 t1040 t1043 t1046 t1049 t1052).bind fun t1058 => (if (t1057 == t1058) = true then ((impl_ColoredSame.f k t1043 t1046 t1049 t1052 t1031 t1034 t1037 t1040).bind fun t1059 => (if (t1057 == t1059) = true then ((impl_ColoredSame.f k t1031 t1034 t1037 t1040 t1031 t1034 t1037 t1040).bind fun t1060 => (if t1060 = true then (if t1057 = true then ((impl_ColoredValid.f k t1031 t1034 t1037 t1040).bind fun t1061 => ((impl_ColoredValid.f k t1043 t1046 t1049 t1052).bind fun t1062 => (if (t1061 == t1062) = true then ((impl_ColoredValid.f k t1043 t1046 t1049 t1052).bind fun t1063 => ((spec_ColoredValid.f k t1043 t1046 t1049 t1052).bind fun t1064 => (some (t1063 == t1064)))) else (none)))) else ((impl_ColoredValid.f k t1043 t1046 t1049 t1052).bind fun t1065 => ((spec_ColoredValid.f k t1043 t1046 t1049 t1052).bind fun t1066 => (some (t1065 == t1066))))) else (none))) else (none))) else (none)))) = some r := H
  have A3 := am A30
  clear A30
  replace H := Option.bind_eq_some_iff.mp H
  obtain ⟨t1057, A40, H⟩ := H
  replace H : ((spec_ColoredSame.f k t1031 t1034 t1037 t1040 t1043 t1046 t1049 t1052).bind fun t1058 => (if (t1057 == t1058) = true then ((impl_ColoredSame.f k t1043 t1046 t1049 t1052 t1031 t1034 t1037 t1040).bind fun t1059 => (if (t1057 == t1059) = true then ((impl_ColoredSame.f k t1031 t1034 t1037 t1040 t1031 t1034 t1037 t1040).bind fun t1060 => (if t1060 = true then (if t1057 = true then ((impl_ColoredValid.f k t1031 t1034 t1037 t1040).bind fun t1061 => ((impl_ColoredValid.f k t1043 t1046 t1049 t1052).bind fun t1062 => (if (t1061 == t1062) = true then ((impl_ColoredValid.f k t1043 t1046 t1049 t1052).bind fun t1063 => ((spec_ColoredValid.f k t1043 t1046 t1049 t1052).bind fun t1064 => (some (t1063 == t1064)))) else (none)))) else ((impl_ColoredValid.f k t1043 t1046 t1049 t1052).bind fun t1065 => ((spec_ColoredValid.f k t1043 t1046 t1049 t1052).bind fun t1066 => (some (t1065 == t1066))))) else (none))) else (none))) else (none))) = some r := H
  have A4 := am A40
  clear A40
  replace H := Option.bind_eq_some_iff.mp H
  obtain ⟨t1058, A50, H⟩ := H
  replace H : (if (t1057 == t1058) = true then ((impl_ColoredSame.f k t1043 t1046 t1049 t1052 t1031 t1034 t1037 t1040).bind fun t1059 => (if (t1057 == t1059) = true then ((impl_ColoredSame.f k t1031 t1034 t1037 t1040 t1031 t1034 t1037 t1040).bind fun t1060 => (if t1060 = true then (if t1057 = true then ((impl_ColoredValid.f k t1031 t1034 t1037 t1040).bind fun t1061 => ((impl_ColoredValid.f k t1043 t1046 t1049 t1052).bind fun t1062 => (if (t1061 == t1062) = true then ((impl_ColoredValid.f k t1043 t1046 t1049 t1052).bind fun t1063 => ((spec_ColoredValid.f k t1043 t1046 t1049 t1052).bind fun t1064 => (some (t1063 == t1064)))) else (none)))) else ((impl_ColoredValid.f k t1043 t1046 t1049 t1052).bind fun t1065 => ((spec_ColoredValid.f k t1043 t1046 t1049 t1052).bind fun t1066 => (some (t1065 == t1066))))) else (none))) else (none))) else (none)) = some r := H
  have A5 := am A50
  clear A50
  by_cases c6 : (t1057 == t1058) = true
  ·rw [if_pos c6] at H
   have c6b0 : (t1057 == t1058) = true := c6
   (try (have c6b1 : decide (t1057 = t1058) = true := by simpa using c6))
   (try (have c6b2 : (t1057 == t1058) = true := by simpa using c6))
   clear c6
   replace H := Option.bind_eq_some_iff.mp H
   obtain ⟨t1059, A70, H⟩ := H
   replace H : (if (t1057 == t1059) = true then ((impl_ColoredSame.f k t1031 t1034 t1037 t1040 t1031 t1034 t1037 t1040).bind fun t1060 => (if t1060 = true then (if t1057 = true then ((impl_ColoredValid.f k t1031 t1034 t1037 t1040).bind fun t1061 => ((impl_ColoredValid.f k t1043 t1046 t1049 t1052).bind fun t1062 => (if (t1061 == t1062) = true then ((impl_ColoredValid.f k t1043 t1046 t1049 t1052).bind fun t1063 => ((spec_ColoredValid.f k t1043 t1046 t1049 t1052).bind fun t1064 => (some (t1063 == t1064)))) else (none)))) else ((impl_ColoredValid.f k t1043 t1046 t1049 t1052).bind fun t1065 => ((spec_ColoredValid.f k t1043 t1046 t1049 t1052).bind fun t1066 => (some (t1065 == t1066))))) else (none))) else (none)) = some r := H
   have A7 := am A70
   clear A70
   by_cases c8 : (t1057 == t1059) = true
   ·rw [if_pos c8] at H
    have c8b0 : (t1057 == t1059) = true := c8
    (try (have c8b1 : decide (t1057 = t1059) = true := by simpa using c8))
    (try (have c8b2 : (t1057 == t1059) = true := by simpa using c8))
    clear c8
    replace H := Option.bind_eq_some_iff.mp H
    obtain ⟨t1060, A90, H⟩ := H
    replace H : (if t1060 = true then (if t1057 = true then ((impl_ColoredValid.f k t1031 t1034 t1037 t1040).bind fun t1061 => ((impl_ColoredValid.f k t1043 t1046 t1049 t1052).bind fun t1062 => (if (t1061 == t1062) = true then ((impl_ColoredValid.f k t1043 t1046 t1049 t1052).bind fun t1063 => ((spec_ColoredValid.f k t1043 t1046 t1049 t1052).bind fun t1064 => (some (t1063 == t1064)))) else (none)))) else ((impl_ColoredValid.f k t1043 t1046 t1049 t1052).bind fun t1065 => ((spec_ColoredValid.f k t1043 t1046 t1049 t1052).bind fun t1066 => (some (t1065 == t1066))))) else (none)) = some r := H
    have A9 := am A90
    clear A90
    by_cases c10 : t1060 = true
    ·subst c10
     have H1 : (if t1057 = true then ((impl_ColoredValid.f k t1031 t1034 t1037 t1040).bind fun t1061 => ((impl_ColoredValid.f k t1043 t1046 t1049 t1052).bind fun t1062 => (if (t1061 == t1062) = true then ((impl_ColoredValid.f k t1043 t1046 t1049 t1052).bind fun t1063 => ((spec_ColoredValid.f k t1043 t1046 t1049 t1052).bind fun t1064 => (some (t1063 == t1064)))) else (none)))) else ((impl_ColoredValid.f k t1043 t1046 t1049 t1052).bind fun t1065 => ((spec_ColoredValid.f k t1043 t1046 t1049 t1052).bind fun t1066 => (some (t1065 == t1066))))) = some r := by rw [if_pos rfl] at H; exact H
     clear H
     have H := H1
     clear H1
     by_cases c11 : t1057 = true
     ·subst c11
      have H1 : ((impl_ColoredValid.f k t1031 t1034 t1037 t1040).bind fun t1061 => ((impl_ColoredValid.f k t1043 t1046 t1049 t1052).bind fun t1062 => (if (t1061 == t1062) = true then ((impl_ColoredValid.f k t1043 t1046 t1049 t1052).bind fun t1063 => ((spec_ColoredValid.f k t1043 t1046 t1049 t1052).bind fun t1064 => (some (t1063 == t1064)))) else (none)))) = some r := by rw [if_pos rfl] at H; exact H
      clear H
      have H := H1
      clear H1
      replace H := Option.bind_eq_some_iff.mp H
      obtain ⟨t1061, A120, H⟩ := H
      replace H : ((impl_ColoredValid.f k t1043 t1046 t1049 t1052).bind fun t1062 => (if (t1061 == t1062) = true then ((impl_ColoredValid.f k t1043 t1046 t1049 t1052).bind fun t1063 => ((spec_ColoredValid.f k t1043 t1046 t1049 t1052).bind fun t1064 => (some (t1063 == t1064)))) else (none))) = some r := H
      have A12 := am A120
      clear A120
      replace H := Option.bind_eq_some_iff.mp H
      obtain ⟨t1062, A130, H⟩ := H
      replace H : (if (t1061 == t1062) = true then ((impl_ColoredValid.f k t1043 t1046 t1049 t1052).bind fun t1063 => ((spec_ColoredValid.f k t1043 t1046 t1049 t1052).bind fun t1064 => (some (t1063 == t1064)))) else (none)) = some r := H
      have A13 := am A130
      clear A130
      by_cases c14 : (t1061 == t1062) = true
      ·rw [if_pos c14] at H
       have c14b0 : (t1061 == t1062) = true := c14
       (try (have c14b1 : decide (t1061 = t1062) = true := by simpa using c14))
       (try (have c14b2 : (t1061 == t1062) = true := by simpa using c14))
       clear c14
       replace H := Option.bind_eq_some_iff.mp H
       obtain ⟨t1063, A150, H⟩ := H
       replace H : ((spec_ColoredValid.f k t1043 t1046 t1049 t1052).bind fun t1064 => (some (t1063 == t1064))) = some r := H
       have A15 := am A150
       clear A150
       replace H := Option.bind_eq_some_iff.mp H
       obtain ⟨t1064, A160, H⟩ := H
       replace H : (some (t1063 == t1064)) = some r := H
       have A16 := am A160
       clear A160
       obtain rfl := Option.some.inj H
       go_enter Try.func8, Try.ntmps8
       try go_wp2_with (first | ((with_reducible refine gate_callee (f := 33) rfl ?_); refine gL (some 11) rfl rfl Try.func33 (by kernel_rfl) rfl #[.slice A0 l0.length c0] rfl ?_; (with_reducible refine (spec_DrawColoredSame.calls k _ _ l0 t1031 t1034 t1037 t1040 t1043 t1046 t1049 t1052 _ ?side1 ?side2 A3.out).mono ?_); (case side1 => exact cl (HR0.out)); (case side2 => exact HC0.out); rintro e w17 ⟨v1032, v1035, v1038, v1041, v1044, v1047, v1050, v1053, rfl, ho0, ho1, ho2, ho3, ho4, ho5, ho6, ho7, hb⟩; refine ⟨_, rfl, ?_⟩; have HO1033 := ln0 ho0 (bl HB.out); have HO1036 := ln0 ho1 (bl HB.out); have HO1039 := ln0 ho2 (bl HB.out); have HO1042 := ln0 ho3 (bl HB.out); have HO1045 := ln0 ho4 (bl HB.out); have HO1048 := ln0 ho5 (bl HB.out); have HO1051 := ln0 ho6 (bl HB.out); have HO1054 := ln0 ho7 (bl HB.out); replace HB := am (below_step (bl HB.out) hb); (try clear hb ho0 ho1 ho2 ho3 ho4 ho5 ho6 ho7)) | ((with_reducible refine gate_dst (N := 3) rfl ?_); refine box_event ?hg (N := 3) ?hd (cs := #[.slice none 0 0, .slice none 0 0, .slice none 0 0, .slice none 0 0]) (t := 30) ?hr ?_; (case hd => rfl); (case hg => rfl); (case hr => first | (go_simp; done) | (go_simp; rfl)); intro gb1055 hg w18 hbox hb; replace HO1033 := rb HO1033 hb; replace HO1036 := rb HO1036 hb; replace HO1039 := rb HO1039 hb; replace HO1042 := rb HO1042 hb; replace HO1045 := rb HO1045 hb; replace HO1048 := rb HO1048 hb; replace HO1051 := rb HO1051 hb; replace HO1054 := rb HO1054 hb; have BK1055 := am (hbox); have GW1055 := am ((by rw [hg]; exact (below_size (bl HB.out)) : w.heap.size ≤ gb1055)); have GE1055 := am ((by rw [hg]; exact (below_size (bl HB.out)) : w.heap.size ≤ gb1055)); replace HB := am (below_step (bl HB.out) hb); clear hb hbox hg) | ((with_reducible refine gate_dst (N := 4) rfl ?_); refine box_event ?hg (N := 4) ?hd (cs := #[.slice none 0 0, .slice none 0 0, .slice none 0 0, .slice none 0 0]) (t := 30) ?hr ?_; (case hd => rfl); (case hg => rfl); (case hr => first | (go_simp; done) | (go_simp; rfl)); intro gb1056 hg w19 hbox hb; replace HO1033 := rb HO1033 hb; replace HO1036 := rb HO1036 hb; replace HO1039 := rb HO1039 hb; replace HO1042 := rb HO1042 hb; replace HO1045 := rb HO1045 hb; replace HO1048 := rb HO1048 hb; replace HO1051 := rb HO1051 hb; replace HO1054 := rb HO1054 hb; have BK1056 := am (hbox); have GW1056 := am ((by rw [hg]; exact (below_size (bs1 GE1055.out HB.out)) : w.heap.size ≤ gb1056)); have GE1056 := am ((by rw [hg]; exact (below_size (bs1 GE1055.out HB.out)) : w.heap.size ≤ gb1056)); replace HB := am (below_step (bs1 GE1055.out HB.out) hb); have NB1055_1056 := nb BK1055 hg; have NB1056_1055 := nc BK1055 hg; replace BK1055 := bb BK1055 hb; clear hb hbox hg; obtain ⟨Ao20, co20, eo20⟩ := Kd.R_slice HO1033.out; subst eo20; have hnb21 := NB1055_1056.out; have hnc21 := NB1056_1055.out; obtain ⟨hcz22_0, hcz22_1, hcz22_2, hcz22_3, hfz22_0, hfz22_1, hfz22_2, hfz22_3⟩ := cf4 BK1055; obtain ⟨Ao23, co23, eo23⟩ := Kd.R_slice HO1036.out; subst eo23; obtain ⟨Ao24, co24, eo24⟩ := Kd.R_slice HO1039.out; subst eo24; obtain ⟨Ao25, co25, eo25⟩ := Kd.R_slice HO1042.out; subst eo25; obtain ⟨Ao26, co26, eo26⟩ := Kd.R_slice HO1045.out; subst eo26; obtain ⟨hcz27_0, hcz27_1, hcz27_2, hcz27_3, hfz27_0, hfz27_1, hfz27_2, hfz27_3⟩ := cf4 BK1056; obtain ⟨Ao28, co28, eo28⟩ := Kd.R_slice HO1048.out; subst eo28; obtain ⟨Ao29, co29, eo29⟩ := Kd.R_slice HO1051.out; subst eo29; obtain ⟨Ao30, co30, eo30⟩ := Kd.R_slice HO1054.out; subst eo30) | ((with_reducible refine gate_callee (f := 34) rfl ?_); refine gL (some 16) rfl rfl Try.func34 (by kernel_rfl) rfl #[.agg #[.slice Ao20 t1031.length co20, .slice Ao23 t1034.length co23, .slice Ao24 t1037.length co24, .slice Ao25 t1040.length co25], .agg #[.slice Ao26 t1043.length co26, .slice Ao28 t1046.length co28, .slice Ao29 t1049.length co29, .slice Ao30 t1052.length co30]] rfl ?_; (with_reducible refine (impl_ColoredSame.calls k _ _ t1031 _ _ t1034 _ _ t1037 _ _ t1040 _ _ t1043 _ _ t1046 _ _ t1049 _ _ t1052 true _ ?side1 ?side2 ?side3 ?side4 ?side5 ?side6 ?side7 ?side8 ?side9 ?side10 ?side11 ?side12 ?side13 ?side14 ?side15 ?side16 A4.out).mono ?_); (case side1 => exact (Kd.R_reads' (rl ((Kd.R_mono (Kd.R_mono (Kd.R_far (p := ⟨gb1056, 3, none⟩) (Kd.R_far (p := ⟨gb1056, 2, none⟩) (Kd.R_far (p := ⟨gb1056, 1, none⟩) (Kd.R_far (p := ⟨gb1056, 0, none⟩) (Kd.R_far (p := ⟨gb1055, 3, none⟩) (Kd.R_far (p := ⟨gb1055, 2, none⟩) (Kd.R_far (p := ⟨gb1055, 1, none⟩) (Kd.R_far (p := ⟨gb1055, 0, none⟩) (Kd.R_types (Kd.R_types HO1033.out BK1055.out (by decide)) BK1056.out (by decide)) (fun _ hk => by first | exact hk.1.2 | (simp only [ne_eq] at hk ⊢; simp only [hk, not_false_eq_true, and_self])) (.slice Ao20 t1031.length co20)) (fun _ hk => by first | exact hk.1.2 | (simp only [ne_eq] at hk ⊢; simp only [hk, not_false_eq_true, and_self])) (.slice Ao23 t1034.length co23)) (fun _ hk => by first | exact hk.1.2 | (simp only [ne_eq] at hk ⊢; simp only [hk, not_false_eq_true, and_self])) (.slice Ao24 t1037.length co24)) (fun _ hk => by first | exact hk.1.2 | (simp only [ne_eq] at hk ⊢; simp only [hk, not_false_eq_true, and_self])) (.slice Ao25 t1040.length co25)) (fun _ hk => hk.2) (.slice Ao26 t1043.length co26)) (fun _ hk => hk.2) (.slice Ao28 t1046.length co28)) (fun _ hk => hk.2) (.slice Ao29 t1049.length co29)) (fun _ hk => hk.2) (.slice Ao30 t1052.length co30)) (fun _ h_ => h_.1)) (fun _ h_ => h_.1))))).2.2); (case side2 => exact sc HO1033); (case side3 => exact (Kd.R_reads' (rl ((Kd.R_mono (Kd.R_mono (Kd.R_far (p := ⟨gb1056, 3, none⟩) (Kd.R_far (p := ⟨gb1056, 2, none⟩) (Kd.R_far (p := ⟨gb1056, 1, none⟩) (Kd.R_far (p := ⟨gb1056, 0, none⟩) (Kd.R_far (p := ⟨gb1055, 3, none⟩) (Kd.R_far (p := ⟨gb1055, 2, none⟩) (Kd.R_far (p := ⟨gb1055, 1, none⟩) (Kd.R_far (p := ⟨gb1055, 0, none⟩) (Kd.R_types (Kd.R_types HO1036.out BK1055.out (by decide)) BK1056.out (by decide)) (fun _ hk => by first | exact hk.1.2 | (simp only [ne_eq] at hk ⊢; simp only [hk, not_false_eq_true, and_self])) (.slice Ao20 t1031.length co20)) (fun _ hk => by first | exact hk.1.2 | (simp only [ne_eq] at hk ⊢; simp only [hk, not_false_eq_true, and_self])) (.slice Ao23 t1034.length co23)) (fun _ hk => by first | exact hk.1.2 | (simp only [ne_eq] at hk ⊢; simp only [hk, not_false_eq_true, and_self])) (.slice Ao24 t1037.length co24)) (fun _ hk => by first | exact hk.1.2 | (simp only [ne_eq] at hk ⊢; simp only [hk, not_false_eq_true, and_self])) (.slice Ao25 t1040.length co25)) (fun _ hk => hk.2) (.slice Ao26 t1043.length co26)) (fun _ hk => hk.2) (.slice Ao28 t1046.length co28)) (fun _ hk => hk.2) (.slice Ao29 t1049.length co29)) (fun _ hk => hk.2) (.slice Ao30 t1052.length co30)) (fun _ h_ => h_.1)) (fun _ h_ => h_.1))))).2.2); (case side4 => exact sc HO1036); (case side5 => exact (Kd.R_reads' (rl ((Kd.R_mono (Kd.R_mono (Kd.R_far (p := ⟨gb1056, 3, none⟩) (Kd.R_far (p := ⟨gb1056, 2, none⟩) (Kd.R_far (p := ⟨gb1056, 1, none⟩) (Kd.R_far (p := ⟨gb1056, 0, none⟩) (Kd.R_far (p := ⟨gb1055, 3, none⟩) (Kd.R_far (p := ⟨gb1055, 2, none⟩) (Kd.R_far (p := ⟨gb1055, 1, none⟩) (Kd.R_far (p := ⟨gb1055, 0, none⟩) (Kd.R_types (Kd.R_types HO1039.out BK1055.out (by decide)) BK1056.out (by decide)) (fun _ hk => by first | exact hk.1.2 | (simp only [ne_eq] at hk ⊢; simp only [hk, not_false_eq_true, and_self])) (.slice Ao20 t1031.length co20)) (fun _ hk => by first | exact hk.1.2 | (simp only [ne_eq] at hk ⊢; simp only [hk, not_false_eq_true, and_self])) (.slice Ao23 t1034.length co23)) (fun _ hk => by first | exact hk.1.2 | (simp only [ne_eq] at hk ⊢; simp only [hk, not_false_eq_true, and_self])) (.slice Ao24 t1037.length co24)) (fun _ hk => by first | exact hk.1.2 | (simp only [ne_eq] at hk ⊢; simp only [hk, not_false_eq_true, and_self])) (.slice Ao25 t1040.length co25)) (fun _ hk => hk.2) (.slice Ao26 t1043.length co26)) (fun _ hk => hk.2) (.slice Ao28 t1046.length co28)) (fun _ hk => hk.2) (.slice Ao29 t1049.length co29)) (fun _ hk => hk.2) (.slice Ao30 t1052.length co30)) (fun _ h_ => h_.1)) (fun _ h_ => h_.1))))).2.2); (case side6 => exact sc HO1039); (case side7 => exact (Kd.R_reads' (rl ((Kd.R_mono (Kd.R_mono (Kd.R_far (p := ⟨gb1056, 3, none⟩) (Kd.R_far (p := ⟨gb1056, 2, none⟩) (Kd.R_far (p := ⟨gb1056, 1, none⟩) (Kd.R_far (p := ⟨gb1056, 0, none⟩) (Kd.R_far (p := ⟨gb1055, 3, none⟩) (Kd.R_far (p := ⟨gb1055, 2, none⟩) (Kd.R_far (p := ⟨gb1055, 1, none⟩) (Kd.R_far (p := ⟨gb1055, 0, none⟩) (Kd.R_types (Kd.R_types HO1042.out BK1055.out (by decide)) BK1056.out (by decide)) (fun _ hk => by first | exact hk.1.2 | (simp only [ne_eq] at hk ⊢; simp only [hk, not_false_eq_true, and_self])) (.slice Ao20 t1031.length co20)) (fun _ hk => by first | exact hk.1.2 | (simp only [ne_eq] at hk ⊢; simp only [hk, not_false_eq_true, and_self])) (.slice Ao23 t1034.length co23)) (fun _ hk => by first | exact hk.1.2 | (simp only [ne_eq] at hk ⊢; simp only [hk, not_false_eq_true, and_self])) (.slice Ao24 t1037.length co24)) (fun _ hk => by first | exact hk.1.2 | (simp only [ne_eq] at hk ⊢; simp only [hk, not_false_eq_true, and_self])) (.slice Ao25 t1040.length co25)) (fun _ hk => hk.2) (.slice Ao26 t1043.length co26)) (fun _ hk => hk.2) (.slice Ao28 t1046.length co28)) (fun _ hk => hk.2) (.slice Ao29 t1049.length co29)) (fun _ hk => hk.2) (.slice Ao30 t1052.length co30)) (fun _ h_ => h_.1)) (fun _ h_ => h_.1))))).2.2); (case side8 => exact sc HO1042); (case side9 => exact (Kd.R_reads' (rl ((Kd.R_mono (Kd.R_mono (Kd.R_far (p := ⟨gb1056, 3, none⟩) (Kd.R_far (p := ⟨gb1056, 2, none⟩) (Kd.R_far (p := ⟨gb1056, 1, none⟩) (Kd.R_far (p := ⟨gb1056, 0, none⟩) (Kd.R_far (p := ⟨gb1055, 3, none⟩) (Kd.R_far (p := ⟨gb1055, 2, none⟩) (Kd.R_far (p := ⟨gb1055, 1, none⟩) (Kd.R_far (p := ⟨gb1055, 0, none⟩) (Kd.R_types (Kd.R_types HO1045.out BK1055.out (by decide)) BK1056.out (by decide)) (fun _ hk => by first | exact hk.1.2 | (simp only [ne_eq] at hk ⊢; simp only [hk, not_false_eq_true, and_self])) (.slice Ao20 t1031.length co20)) (fun _ hk => by first | exact hk.1.2 | (simp only [ne_eq] at hk ⊢; simp only [hk, not_false_eq_true, and_self])) (.slice Ao23 t1034.length co23)) (fun _ hk => by first | exact hk.1.2 | (simp only [ne_eq] at hk ⊢; simp only [hk, not_false_eq_true, and_self])) (.slice Ao24 t1037.length co24)) (fun _ hk => by first | exact hk.1.2 | (simp only [ne_eq] at hk ⊢; simp only [hk, not_false_eq_true, and_self])) (.slice Ao25 t1040.length co25)) (fun _ hk => hk.2) (.slice Ao26 t1043.length co26)) (fun _ hk => hk.2) (.slice Ao28 t1046.length co28)) (fun _ hk => hk.2) (.slice Ao29 t1049.length co29)) (fun _ hk => hk.2) (.slice Ao30 t1052.length co30)) (fun _ h_ => h_.1)) (fun _ h_ => h_.1))))).2.2); (case side10 => exact sc HO1045); (case side11 => exact (Kd.R_reads' (rl ((Kd.R_mono (Kd.R_mono (Kd.R_far (p := ⟨gb1056, 3, none⟩) (Kd.R_far (p := ⟨gb1056, 2, none⟩) (Kd.R_far (p := ⟨gb1056, 1, none⟩) (Kd.R_far (p := ⟨gb1056, 0, none⟩) (Kd.R_far (p := ⟨gb1055, 3, none⟩) (Kd.R_far (p := ⟨gb1055, 2, none⟩) (Kd.R_far (p := ⟨gb1055, 1, none⟩) (Kd.R_far (p := ⟨gb1055, 0, none⟩) (Kd.R_types (Kd.R_types HO1048.out BK1055.out (by decide)) BK1056.out (by decide)) (fun _ hk => by first | exact hk.1.2 | (simp only [ne_eq] at hk ⊢; simp only [hk, not_false_eq_true, and_self])) (.slice Ao20 t1031.length co20)) (fun _ hk => by first | exact hk.1.2 | (simp only [ne_eq] at hk ⊢; simp only [hk, not_false_eq_true, and_self])) (.slice Ao23 t1034.length co23)) (fun _ hk => by first | exact hk.1.2 | (simp only [ne_eq] at hk ⊢; simp only [hk, not_false_eq_true, and_self])) (.slice Ao24 t1037.length co24)) (fun _ hk => by first | exact hk.1.2 | (simp only [ne_eq] at hk ⊢; simp only [hk, not_false_eq_true, and_self])) (.slice Ao25 t1040.length co25)) (fun _ hk => hk.2) (.slice Ao26 t1043.length co26)) (fun _ hk => hk.2) (.slice Ao28 t1046.length co28)) (fun _ hk => hk.2) (.slice Ao29 t1049.length co29)) (fun _ hk => hk.2) (.slice Ao30 t1052.length co30)) (fun _ h_ => h_.1)) (fun _ h_ => h_.1))))).2.2); (case side12 => exact sc HO1048); (case side13 => exact (Kd.R_reads' (rl ((Kd.R_mono (Kd.R_mono (Kd.R_far (p := ⟨gb1056, 3, none⟩) (Kd.R_far (p := ⟨gb1056, 2, none⟩) (Kd.R_far (p := ⟨gb1056, 1, none⟩) (Kd.R_far (p := ⟨gb1056, 0, none⟩) (Kd.R_far (p := ⟨gb1055, 3, none⟩) (Kd.R_far (p := ⟨gb1055, 2, none⟩) (Kd.R_far (p := ⟨gb1055, 1, none⟩) (Kd.R_far (p := ⟨gb1055, 0, none⟩) (Kd.R_types (Kd.R_types HO1051.out BK1055.out (by decide)) BK1056.out (by decide)) (fun _ hk => by first | exact hk.1.2 | (simp only [ne_eq] at hk ⊢; simp only [hk, not_false_eq_true, and_self])) (.slice Ao20 t1031.length co20)) (fun _ hk => by first | exact hk.1.2 | (simp only [ne_eq] at hk ⊢; simp only [hk, not_false_eq_true, and_self])) (.slice Ao23 t1034.length co23)) (fun _ hk => by first | exact hk.1.2 | (simp only [ne_eq] at hk ⊢; simp only [hk, not_false_eq_true, and_self])) (.slice Ao24 t1037.length co24)) (fun _ hk => by first | exact hk.1.2 | (simp only [ne_eq] at hk ⊢; simp only [hk, not_false_eq_true, and_self])) (.slice Ao25 t1040.length co25)) (fun _ hk => hk.2) (.slice Ao26 t1043.length co26)) (fun _ hk => hk.2) (.slice Ao28 t1046.length co28)) (fun _ hk => hk.2) (.slice Ao29 t1049.length co29)) (fun _ hk => hk.2) (.slice Ao30 t1052.length co30)) (fun _ h_ => h_.1)) (fun _ h_ => h_.1))))).2.2); (case side14 => exact sc HO1051); (case side15 => exact (Kd.R_reads' (rl ((Kd.R_mono (Kd.R_mono (Kd.R_far (p := ⟨gb1056, 3, none⟩) (Kd.R_far (p := ⟨gb1056, 2, none⟩) (Kd.R_far (p := ⟨gb1056, 1, none⟩) (Kd.R_far (p := ⟨gb1056, 0, none⟩) (Kd.R_far (p := ⟨gb1055, 3, none⟩) (Kd.R_far (p := ⟨gb1055, 2, none⟩) (Kd.R_far (p := ⟨gb1055, 1, none⟩) (Kd.R_far (p := ⟨gb1055, 0, none⟩) (Kd.R_types (Kd.R_types HO1054.out BK1055.out (by decide)) BK1056.out (by decide)) (fun _ hk => by first | exact hk.1.2 | (simp only [ne_eq] at hk ⊢; simp only [hk, not_false_eq_true, and_self])) (.slice Ao20 t1031.length co20)) (fun _ hk => by first | exact hk.1.2 | (simp only [ne_eq] at hk ⊢; simp only [hk, not_false_eq_true, and_self])) (.slice Ao23 t1034.length co23)) (fun _ hk => by first | exact hk.1.2 | (simp only [ne_eq] at hk ⊢; simp only [hk, not_false_eq_true, and_self])) (.slice Ao24 t1037.length co24)) (fun _ hk => by first | exact hk.1.2 | (simp only [ne_eq] at hk ⊢; simp only [hk, not_false_eq_true, and_self])) (.slice Ao25 t1040.length co25)) (fun _ hk => hk.2) (.slice Ao26 t1043.length co26)) (fun _ hk => hk.2) (.slice Ao28 t1046.length co28)) (fun _ hk => hk.2) (.slice Ao29 t1049.length co29)) (fun _ hk => hk.2) (.slice Ao30 t1052.length co30)) (fun _ h_ => h_.1)) (fun _ h_ => h_.1))))).2.2); (case side16 => exact sc HO1054); rintro e w31 ⟨rfl, hb⟩; refine ⟨_, rfl, ?_⟩; replace HO1033 := am (Kd.R_below (rl ((Kd.R_mono (Kd.R_mono (Kd.R_far (p := ⟨gb1056, 3, none⟩) (Kd.R_far (p := ⟨gb1056, 2, none⟩) (Kd.R_far (p := ⟨gb1056, 1, none⟩) (Kd.R_far (p := ⟨gb1056, 0, none⟩) (Kd.R_far (p := ⟨gb1055, 3, none⟩) (Kd.R_far (p := ⟨gb1055, 2, none⟩) (Kd.R_far (p := ⟨gb1055, 1, none⟩) (Kd.R_far (p := ⟨gb1055, 0, none⟩) (Kd.R_types (Kd.R_types HO1033.out BK1055.out (by decide)) BK1056.out (by decide)) (fun _ hk => by first | exact hk.1.2 | (simp only [ne_eq] at hk ⊢; simp only [hk, not_false_eq_true, and_self])) (.slice Ao20 t1031.length co20)) (fun _ hk => by first | exact hk.1.2 | (simp only [ne_eq] at hk ⊢; simp only [hk, not_false_eq_true, and_self])) (.slice Ao23 t1034.length co23)) (fun _ hk => by first | exact hk.1.2 | (simp only [ne_eq] at hk ⊢; simp only [hk, not_false_eq_true, and_self])) (.slice Ao24 t1037.length co24)) (fun _ hk => by first | exact hk.1.2 | (simp only [ne_eq] at hk ⊢; simp only [hk, not_false_eq_true, and_self])) (.slice Ao25 t1040.length co25)) (fun _ hk => hk.2) (.slice Ao26 t1043.length co26)) (fun _ hk => hk.2) (.slice Ao28 t1046.length co28)) (fun _ hk => hk.2) (.slice Ao29 t1049.length co29)) (fun _ hk => hk.2) (.slice Ao30 t1052.length co30)) (fun _ h_ => h_.1)) (fun _ h_ => h_.1)))) hb); replace HO1036 := am (Kd.R_below (rl ((Kd.R_mono (Kd.R_mono (Kd.R_far (p := ⟨gb1056, 3, none⟩) (Kd.R_far (p := ⟨gb1056, 2, none⟩) (Kd.R_far (p := ⟨gb1056, 1, none⟩) (Kd.R_far (p := ⟨gb1056, 0, none⟩) (Kd.R_far (p := ⟨gb1055, 3, none⟩) (Kd.R_far (p := ⟨gb1055, 2, none⟩) (Kd.R_far (p := ⟨gb1055, 1, none⟩) (Kd.R_far (p := ⟨gb1055, 0, none⟩) (Kd.R_types (Kd.R_types HO1036.out BK1055.out (by decide)) BK1056.out (by decide)) (fun _ hk => by first | exact hk.1.2 | (simp only [ne_eq] at hk ⊢; simp only [hk, not_false_eq_true, and_self])) (.slice Ao20 t1031.length co20)) (fun _ hk => by first | exact hk.1.2 | (simp only [ne_eq] at hk ⊢; simp only [hk, not_false_eq_true, and_self])) (.slice Ao23 t1034.length co23)) (fun _ hk => by first | exact hk.1.2 | (simp only [ne_eq] at hk ⊢; simp only [hk, not_false_eq_true, and_self])) (.slice Ao24 t1037.length co24)) (fun _ hk => by first | exact hk.1.2 | (simp only [ne_eq] at hk ⊢; simp only [hk, not_false_eq_true, and_self])) (.slice Ao25 t1040.length co25)) (fun _ hk => hk.2) (.slice Ao26 t1043.length co26)) (fun _ hk => hk.2) (.slice Ao28 t1046.length co28)) (fun _ hk => hk.2) (.slice Ao29 t1049.length co29)) (fun _ hk => hk.2) (.slice Ao30 t1052.length co30)) (fun _ h_ => h_.1)) (fun _ h_ => h_.1)))) hb); replace HO1039 := am (Kd.R_below (rl ((Kd.R_mono (Kd.R_mono (Kd.R_far (p := ⟨gb1056, 3, none⟩) (Kd.R_far (p := ⟨gb1056, 2, none⟩) (Kd.R_far (p := ⟨gb1056, 1, none⟩) (Kd.R_far (p := ⟨gb1056, 0, none⟩) (Kd.R_far (p := ⟨gb1055, 3, none⟩) (Kd.R_far (p := ⟨gb1055, 2, none⟩) (Kd.R_far (p := ⟨gb1055, 1, none⟩) (Kd.R_far (p := ⟨gb1055, 0, none⟩) (Kd.R_types (Kd.R_types HO1039.out BK1055.out (by decide)) BK1056.out (by decide)) (fun _ hk => by first | exact hk.1.2 | (simp only [ne_eq] at hk ⊢; simp only [hk, not_false_eq_true, and_self])) (.slice Ao20 t1031.length co20)) (fun _ hk => by first | exact hk.1.2 | (simp only [ne_eq] at hk ⊢; simp only [hk, not_false_eq_true, and_self])) (.slice Ao23 t1034.length co23)) (fun _ hk => by first | exact hk.1.2 | (simp only [ne_eq] at hk ⊢; simp only [hk, not_false_eq_true, and_self])) (.slice Ao24 t1037.length co24)) (fun _ hk => by first | exact hk.1.2 | (simp only [ne_eq] at hk ⊢; simp only [hk, not_false_eq_true, and_self])) (.slice Ao25 t1040.length co25)) (fun _ hk => hk.2) (.slice Ao26 t1043.length co26)) (fun _ hk => hk.2) (.slice Ao28 t1046.length co28)) (fun _ hk => hk.2) (.slice Ao29 t1049.length co29)) (fun _ hk => hk.2) (.slice Ao30 t1052.length co30)) (fun _ h_ => h_.1)) (fun _ h_ => h_.1)))) hb); replace HO1042 := am (Kd.R_below (rl ((Kd.R_mono (Kd.R_mono (Kd.R_far (p := ⟨gb1056, 3, none⟩) (Kd.R_far (p := ⟨gb1056, 2, none⟩) (Kd.R_far (p := ⟨gb1056, 1, none⟩) (Kd.R_far (p := ⟨gb1056, 0, none⟩) (Kd.R_far (p := ⟨gb1055, 3, none⟩) (Kd.R_far (p := ⟨gb1055, 2, none⟩) (Kd.R_far (p := ⟨gb1055, 1, none⟩) (Kd.R_far (p := ⟨gb1055, 0, none⟩) (Kd.R_types (Kd.R_types HO1042.out BK1055.out (by decide)) BK1056.out (by decide)) (fun _ hk => by first | exact hk.1.2 | (simp only [ne_eq] at hk ⊢; simp only [hk, not_false_eq_true, and_self])) (.slice Ao20 t1031.length co20)) (fun _ hk => by first | exact hk.1.2 | (simp only [ne_eq] at hk ⊢; simp only [hk, not_false_eq_true, and_self])) (.slice Ao23 t1034.length co23)) (fun _ hk => by first | exact hk.1.2 | (simp only [ne_eq] at hk ⊢; simp only [hk, not_false_eq_true, and_self])) (.slice Ao24 t1037.length co24)) (fun _ hk => by first | exact hk.1.2 | (simp only [ne_eq] at hk ⊢; simp only [hk, not_false_eq_true, and_self])) (.slice Ao25 t1040.length co25)) (fun _ hk => hk.2) (.slice Ao26 t1043.length co26)) (fun _ hk => hk.2) (.slice Ao28 t1046.length co28)) (fun _ hk => hk.2) (.slice Ao29 t1049.length co29)) (fun _ hk => hk.2) (.slice Ao30 t1052.length co30)) (fun _ h_ => h_.1)) (fun _ h_ => h_.1)))) hb); replace HO1045 := am (Kd.R_below (rl ((Kd.R_mono (Kd.R_mono (Kd.R_far (p := ⟨gb1056, 3, none⟩) (Kd.R_far (p := ⟨gb1056, 2, none⟩) (Kd.R_far (p := ⟨gb1056, 1, none⟩) (Kd.R_far (p := ⟨gb1056, 0, none⟩) (Kd.R_far (p := ⟨gb1055, 3, none⟩) (Kd.R_far (p := ⟨gb1055, 2, none⟩) (Kd.R_far (p := ⟨gb1055, 1, none⟩) (Kd.R_far (p := ⟨gb1055, 0, none⟩) (Kd.R_types (Kd.R_types HO1045.out BK1055.out (by decide)) BK1056.out (by decide)) (fun _ hk => by first | exact hk.1.2 | (simp only [ne_eq] at hk ⊢; simp only [hk, not_false_eq_true, and_self])) (.slice Ao20 t1031.length co20)) (fun _ hk => by first | exact hk.1.2 | (simp only [ne_eq] at hk ⊢; simp only [hk, not_false_eq_true, and_self])) (.slice Ao23 t1034.length co23)) (fun _ hk => by first | exact hk.1.2 | (simp only [ne_eq] at hk ⊢; simp only [hk, not_false_eq_true, and_self])) (.slice Ao24 t1037.length co24)) (fun _ hk => by first | exact hk.1.2 | (simp only [ne_eq] at hk ⊢; simp only [hk, not_false_eq_true, and_self])) (.slice Ao25 t1040.length co25)) (fun _ hk => hk.2) (.slice Ao26 t1043.length co26)) (fun _ hk => hk.2) (.slice Ao28 t1046.length co28)) (fun _ hk => hk.2) (.slice Ao29 t1049.length co29)) (fun _ hk => hk.2) (.slice Ao30 t1052.length co30)) (fun _ h_ => h_.1)) (fun _ h_ => h_.1)))) hb); replace HO1048 := am (Kd.R_below (rl ((Kd.R_mono (Kd.R_mono (Kd.R_far (p := ⟨gb1056, 3, none⟩) (Kd.R_far (p := ⟨gb1056, 2, none⟩) (Kd.R_far (p := ⟨gb1056, 1, none⟩) (Kd.R_far (p := ⟨gb1056, 0, none⟩) (Kd.R_far (p := ⟨gb1055, 3, none⟩) (Kd.R_far (p := ⟨gb1055, 2, none⟩) (Kd.R_far (p := ⟨gb1055, 1, none⟩) (Kd.R_far (p := ⟨gb1055, 0, none⟩) (Kd.R_types (Kd.R_types HO1048.out BK1055.out (by decide)) BK1056.out (by decide)) (fun _ hk => by first | exact hk.1.2 | (simp only [ne_eq] at hk ⊢; simp only [hk, not_false_eq_true, and_self])) (.slice Ao20 t1031.length co20)) (fun _ hk => by first | exact hk.1.2 | (simp only [ne_eq] at hk ⊢; simp only [hk, not_false_eq_true, and_self])) (.slice Ao23 t1034.length co23)) (fun _ hk => by first | exact hk.1.2 | (simp only [ne_eq] at hk ⊢; simp only [hk, not_false_eq_true, and_self])) (.slice Ao24 t1037.length co24)) (fun _ hk => by first | exact hk.1.2 | (simp only [ne_eq] at hk ⊢; simp only [hk, not_false_eq_true, and_self])) (.slice Ao25 t1040.length co25)) (fun _ hk => hk.2) (.slice Ao26 t1043.length co26)) (fun _ hk => hk.2) (.slice Ao28 t1046.length co28)) (fun _ hk => hk.2) (.slice Ao29 t1049.length co29)) (fun _ hk => hk.2) (.slice Ao30 t1052.length co30)) (fun _ h_ => h_.1)) (fun _ h_ => h_.1)))) hb); replace HO1051 := am (Kd.R_below (rl ((Kd.R_mono (Kd.R_mono (Kd.R_far (p := ⟨gb1056, 3, none⟩) (Kd.R_far (p := ⟨gb1056, 2, none⟩) (Kd.R_far (p := ⟨gb1056, 1, none⟩) (Kd.R_far (p := ⟨gb1056, 0, none⟩) (Kd.R_far (p := ⟨gb1055, 3, none⟩) (Kd.R_far (p := ⟨gb1055, 2, none⟩) (Kd.R_far (p := ⟨gb1055, 1, none⟩) (Kd.R_far (p := ⟨gb1055, 0, none⟩) (Kd.R_types (Kd.R_types HO1051.out BK1055.out (by decide)) BK1056.out (by decide)) (fun _ hk => by first | exact hk.1.2 | (simp only [ne_eq] at hk ⊢; simp only [hk, not_false_eq_true, and_self])) (.slice Ao20 t1031.length co20)) (fun _ hk => by first | exact hk.1.2 | (simp only [ne_eq] at hk ⊢; simp only [hk, not_false_eq_true, and_self])) (.slice Ao23 t1034.length co23)) (fun _ hk => by first | exact hk.1.2 | (simp only [ne_eq] at hk ⊢; simp only [hk, not_false_eq_true, and_self])) (.slice Ao24 t1037.length co24)) (fun _ hk => by first | exact hk.1.2 | (simp only [ne_eq] at hk ⊢; simp only [hk, not_false_eq_true, and_self])) (.slice Ao25 t1040.length co25)) (fun _ hk => hk.2) (.slice Ao26 t1043.length co26)) (fun _ hk => hk.2) (.slice Ao28 t1046.length co28)) (fun _ hk => hk.2) (.slice Ao29 t1049.length co29)) (fun _ hk => hk.2) (.slice Ao30 t1052.length co30)) (fun _ h_ => h_.1)) (fun _ h_ => h_.1)))) hb); replace HO1054 := am (Kd.R_below (rl ((Kd.R_mono (Kd.R_mono (Kd.R_far (p := ⟨gb1056, 3, none⟩) (Kd.R_far (p := ⟨gb1056, 2, none⟩) (Kd.R_far (p := ⟨gb1056, 1, none⟩) (Kd.R_far (p := ⟨gb1056, 0, none⟩) (Kd.R_far (p := ⟨gb1055, 3, none⟩) (Kd.R_far (p := ⟨gb1055, 2, none⟩) (Kd.R_far (p := ⟨gb1055, 1, none⟩) (Kd.R_far (p := ⟨gb1055, 0, none⟩) (Kd.R_types (Kd.R_types HO1054.out BK1055.out (by decide)) BK1056.out (by decide)) (fun _ hk => by first | exact hk.1.2 | (simp only [ne_eq] at hk ⊢; simp only [hk, not_false_eq_true, and_self])) (.slice Ao20 t1031.length co20)) (fun _ hk => by first | exact hk.1.2 | (simp only [ne_eq] at hk ⊢; simp only [hk, not_false_eq_true, and_self])) (.slice Ao23 t1034.length co23)) (fun _ hk => by first | exact hk.1.2 | (simp only [ne_eq] at hk ⊢; simp only [hk, not_false_eq_true, and_self])) (.slice Ao24 t1037.length co24)) (fun _ hk => by first | exact hk.1.2 | (simp only [ne_eq] at hk ⊢; simp only [hk, not_false_eq_true, and_self])) (.slice Ao25 t1040.length co25)) (fun _ hk => hk.2) (.slice Ao26 t1043.length co26)) (fun _ hk => hk.2) (.slice Ao28 t1046.length co28)) (fun _ hk => hk.2) (.slice Ao29 t1049.length co29)) (fun _ hk => hk.2) (.slice Ao30 t1052.length co30)) (fun _ h_ => h_.1)) (fun _ h_ => h_.1)))) hb); replace BK1055 := am (blk_below (g := gb1055) (o := .cells #[.slice Ao20 t1031.length co20, .slice Ao23 t1034.length co23, .slice Ao24 t1037.length co24, .slice Ao25 t1040.length co25] 30 (0, 0)) (by (with_reducible repeat (first | refine blk_drewN ?_ _ | refine blk_drew ?_ | refine blk_alloc ?_ _)); refine blk_far ?_ NB1055_1056.out _; (with_reducible repeat (first | refine blk_drewN ?_ _ | refine blk_drew ?_ | refine blk_alloc ?_ _)); refine blk_far ?_ NB1055_1056.out _; (with_reducible repeat (first | refine blk_drewN ?_ _ | refine blk_drew ?_ | refine blk_alloc ?_ _)); refine blk_far ?_ NB1055_1056.out _; (with_reducible repeat (first | refine blk_drewN ?_ _ | refine blk_drew ?_ | refine blk_alloc ?_ _)); refine blk_far ?_ NB1055_1056.out _; (with_reducible repeat (first | refine blk_drewN ?_ _ | refine blk_drew ?_ | refine blk_alloc ?_ _)); refine blk_put (cs := #[.slice Ao20 t1031.length co20, .slice Ao23 t1034.length co23, .slice Ao24 t1037.length co24, .slice none 0 0]) ?_ 3 _ rfl; (with_reducible repeat (first | refine blk_drewN ?_ _ | refine blk_drew ?_ | refine blk_alloc ?_ _)); refine blk_put (cs := #[.slice Ao20 t1031.length co20, .slice Ao23 t1034.length co23, .slice none 0 0, .slice none 0 0]) ?_ 2 _ rfl; (with_reducible repeat (first | refine blk_drewN ?_ _ | refine blk_drew ?_ | refine blk_alloc ?_ _)); refine blk_put (cs := #[.slice Ao20 t1031.length co20, .slice none 0 0, .slice none 0 0, .slice none 0 0]) ?_ 1 _ rfl; (with_reducible repeat (first | refine blk_drewN ?_ _ | refine blk_drew ?_ | refine blk_alloc ?_ _)); refine blk_put (cs := #[.slice none 0 0, .slice none 0 0, .slice none 0 0, .slice none 0 0]) ?_ 0 _ rfl; (with_reducible repeat (first | refine blk_drewN ?_ _ | refine blk_drew ?_ | refine blk_alloc ?_ _)); exact BK1055.out) hb); replace BK1056 := bp4 (kf1 NB1056_1055.out BK1056.out) hb; replace HB := am (below_step (bs2 GE1055.out GE1056.out HB.out) hb); (try clear hb); (try clear hb2); (try clear hk); (try clear hi)))
       replace HO1033 := am (Kd.R_drew HO1033.out)
       replace HO1036 := am (Kd.R_drew HO1036.out)
       replace HO1039 := am (Kd.R_drew HO1039.out)
       replace HO1042 := am (Kd.R_drew HO1042.out)
       replace HO1045 := am (Kd.R_drew HO1045.out)
       replace HO1048 := am (Kd.R_drew HO1048.out)
       replace HO1051 := am (Kd.R_drew HO1051.out)
       replace HO1054 := am (Kd.R_drew HO1054.out)
       replace BK1055 := am (blk_drew BK1055.out)
       replace BK1056 := am (blk_drew BK1056.out)
       replace HB := am (below_drew1 HB.out)
       refine start_ (n := 36) (S := fun w' => w'.cell? ⟨gb1055, 0, none⟩ = some (.slice Ao20 t1031.length co20) ∧ w'.cell? ⟨gb1055, 1, none⟩ = some (.slice Ao23 t1034.length co23) ∧ w'.cell? ⟨gb1055, 2, none⟩ = some (.slice Ao24 t1037.length co24) ∧ w'.cell? ⟨gb1055, 3, none⟩ = some (.slice Ao25 t1040.length co25) ∧ w'.cell? ⟨gb1056, 0, none⟩ = some (.slice Ao26 t1043.length co26) ∧ w'.cell? ⟨gb1056, 1, none⟩ = some (.slice Ao28 t1046.length co28) ∧ w'.cell? ⟨gb1056, 2, none⟩ = some (.slice Ao29 t1049.length co29) ∧ w'.cell? ⟨gb1056, 3, none⟩ = some (.slice Ao30 t1052.length co30)) (ds := []) #[false, false, false, false, false, false, false, false, false, false, false, false, false, false, false, false, false, false, false, false, false, false, false, false, false, false, false, false, false, false, false, false, false, false, false, false] (by kernel_rfl) rfl rfl ⟨(blk_cell BK1055.out 0).trans rfl, (blk_cell BK1055.out 1).trans rfl, (blk_cell BK1055.out 2).trans rfl, (blk_cell BK1055.out 3).trans rfl, (blk_cell BK1056.out 0).trans rfl, (blk_cell BK1056.out 1).trans rfl, (blk_cell BK1056.out 2).trans rfl, (blk_cell BK1056.out 3).trans rfl⟩ (fun hHeld => ?_); refine with_tabW laws_FnColoredSame.tab5 laws_FnColoredSame.bits5 (fun HT_ HW_ => ?_)
       generalize w31.drew = w32 at HO1033 HO1036 HO1039 HO1042 HO1045 HO1048 HO1051 HO1054 BK1055 BK1056 HB hHeld ⊢
       refine pure_ (i := 0) (N := some 17) (v := ?_) (a' := ?_) #[true, false, false, false, false, false, false, false, false, false, false, false, false, false, false, false, false, false, false, false, false, false, false, false, false, false, false, false, false, false, false, false, false, false, false, false] rfl rfl (any_of HT_.out (by kernel_rfl)) (fun _ _ _ h => h) (Or.inl ⟨by rfl, ?_⟩) ?_ ?_
       rotate_left
       ·intro w'
        go_simp
        with_reducible rfl
       rotate_left
       ·simp only [Act.put, List.setIfInBounds_toArray, List.set_cons_zero, List.set_cons_succ, i64_w, i32_w]
        rfl
       refine take_ (i := 1) (N := some 18) (v := ?_) (a' := ?_) #[true, true, false, false, false, false, false, false, false, false, false, false, false, false, false, false, false, false, false, false, false, false, false, false, false, false, false, false, false, false, false, false, false, false, false, false] rfl rfl (take_ofW HT_.out HW_.out (by kernel_rfl)) (fun _ _ _ h => h) (Or.inl ⟨by rfl, ?_⟩) hHeld ?_ ?_
       rotate_left
       ·rintro w' ⟨s0, s1, s2, s3, s4, s5, s6, s7⟩
        go_simp
        with_reducible rfl
       rotate_left
       ·simp only [Act.put, List.setIfInBounds_toArray, List.set_cons_zero, List.set_cons_succ, i64_w, i32_w]
        rfl
       refine take_ (i := 2) (N := some 19) (v := ?_) (a' := ?_) #[true, true, true, false, false, false, false, false, false, false, false, false, false, false, false, false, false, false, false, false, false, false, false, false, false, false, false, false, false, false, false, false, false, false, false, false] rfl rfl (take_ofW HT_.out HW_.out (by kernel_rfl)) (fun _ _ _ h => h) (Or.inl ⟨by rfl, ?_⟩) hHeld ?_ ?_
       rotate_left
       ·rintro w' ⟨s0, s1, s2, s3, s4, s5, s6, s7⟩
        go_simp
        with_reducible rfl
       rotate_left
       ·simp only [Act.put, List.setIfInBounds_toArray, List.set_cons_zero, List.set_cons_succ, i64_w, i32_w]
        rfl
       refine one_ (i := 3) (N := some 20) #[true, true, true, true, false, false, false, false, false, false, false, false, false, false, false, false, false, false, false, false, false, false, false, false, false, false, false, false, false, false, false, false, false, false, false, false] rfl rfl (one_of HT_.out (by kernel_rfl)) (by decide) (fun K hK => ?_)
       refine goes_ Try.func35 (by kernel_rfl) rfl #[.agg #[.slice Ao20 t1031.length co20, .slice Ao23 t1034.length co23, .slice Ao24 t1037.length co24, .slice Ao25 t1040.length co25], .agg #[.slice Ao26 t1043.length co26, .slice Ao28 t1046.length co28, .slice Ao29 t1049.length co29, .slice Ao30 t1052.length co30]] (by rfl) rfl rfl (by (try simp only [List.map_toArray, List.map_cons, List.map_nil]); first | done | rfl | (simp only [List.length_drop, List.length_take]; rfl)) ?_
       with_reducible refine (spec_ColoredSame.calls k _ _ t1031 _ _ t1034 _ _ t1037 _ _ t1040 _ _ t1043 _ _ t1046 _ _ t1049 _ _ t1052 t1058 _ ?side1 ?side2 ?side3 ?side4 ?side5 ?side6 ?side7 ?side8 ?side9 ?side10 ?side11 ?side12 ?side13 ?side14 ?side15 ?side16 A5.out).mono ?_
       (case side1 => exact cl ((Kd.R_reads' HO1033.out).2.2))
       (case side2 => exact sc HO1033)
       (case side3 => exact cl ((Kd.R_reads' HO1036.out).2.2))
       (case side4 => exact sc HO1036)
       (case side5 => exact cl ((Kd.R_reads' HO1039.out).2.2))
       (case side6 => exact sc HO1039)
       (case side7 => exact cl ((Kd.R_reads' HO1042.out).2.2))
       (case side8 => exact sc HO1042)
       (case side9 => exact cl ((Kd.R_reads' HO1045.out).2.2))
       (case side10 => exact sc HO1045)
       (case side11 => exact cl ((Kd.R_reads' HO1048.out).2.2))
       (case side12 => exact sc HO1048)
       (case side13 => exact cl ((Kd.R_reads' HO1051.out).2.2))
       (case side14 => exact sc HO1051)
       (case side15 => exact cl ((Kd.R_reads' HO1054.out).2.2))
       (case side16 => exact sc HO1054)
       rintro e w33 ⟨rfl, hb⟩
       refine ⟨_, rfl, ?_⟩
       replace HO1033 := rb HO1033 hb
       replace HO1036 := rb HO1036 hb
       replace HO1039 := rb HO1039 hb
       replace HO1042 := rb HO1042 hb
       replace HO1045 := rb HO1045 hb
       replace HO1048 := rb HO1048 hb
       replace HO1051 := rb HO1051 hb
       replace HO1054 := rb HO1054 hb
       replace BK1055 := bb BK1055 hb
       replace BK1056 := bb BK1056 hb
       replace HB := am (below_step (bs2 GE1055.out GE1056.out HB.out) hb)
       (try clear hb)
       refine hK.out _ _ ⟨(blk_cell BK1055.out 0).trans rfl, (blk_cell BK1055.out 1).trans rfl, (blk_cell BK1055.out 2).trans rfl, (blk_cell BK1055.out 3).trans rfl, (blk_cell BK1056.out 0).trans rfl, (blk_cell BK1056.out 1).trans rfl, (blk_cell BK1056.out 2).trans rfl, (blk_cell BK1056.out 3).trans rfl⟩ (fun hHeld => ?_)
       clear hK K
       refine norm_ (a' := ?_) ?_ ?_
       rotate_left
       ·show Act.put _ (some 20) _ = _
        simp only [Act.put, List.setIfInBounds_toArray, List.set_cons_zero, List.set_cons_succ, i64_w, i32_w]
        rfl
       refine pure_ (i := 4) (N := some 21) (v := ?_) (a' := ?_) #[true, true, true, true, true, false, false, false, false, false, false, false, false, false, false, false, false, false, false, false, false, false, false, false, false, false, false, false, false, false, false, false, false, false, false, false] rfl rfl (any_of HT_.out (by kernel_rfl)) (fun _ _ _ h => h) (Or.inl ⟨by rfl, ?_⟩) ?_ ?_
       rotate_left
       ·intro w'
        go_simp
        with_reducible rfl
       rotate_left
       ·simp only [Act.put, List.setIfInBounds_toArray, List.set_cons_zero, List.set_cons_succ, i64_w, i32_w]
        rfl
       refine pure_ (i := 5) (N := some 22) (v := ?_) (a' := ?_) #[true, true, true, true, true, true, false, false, false, false, false, false, false, false, false, false, false, false, false, false, false, false, false, false, false, false, false, false, false, false, false, false, false, false, false, false] rfl rfl (any_of HT_.out (by kernel_rfl)) (fun _ _ _ h => h) (Or.inl ⟨by rfl, ?_⟩) ?_ ?_
       rotate_left
       ·intro w'
        go_simp
        with_reducible rfl
       rotate_left
       ·simp only [Act.put, List.setIfInBounds_toArray, List.set_cons_zero, List.set_cons_succ, i64_w, i32_w]
        rfl
       refine pure_ (i := 6) (N := some 23) (v := ?_) (a' := ?_) #[true, true, true, true, true, true, true, false, false, false, false, false, false, false, false, false, false, false, false, false, false, false, false, false, false, false, false, false, false, false, false, false, false, false, false, false] rfl rfl (any_of HT_.out (by kernel_rfl)) (fun _ _ _ h => h) (Or.inl ⟨by rfl, ?_⟩) ?_ ?_
       rotate_left
       ·intro w'
        go_simp
        with_reducible rfl
       rotate_left
       ·simp only [Act.put, List.setIfInBounds_toArray, List.set_cons_zero, List.set_cons_succ, i64_w, i32_w]
        rfl
       refine take_ (i := 7) (N := some 24) (v := ?_) (a' := ?_) #[true, true, true, true, true, true, true, true, false, false, false, false, false, false, false, false, false, false, false, false, false, false, false, false, false, false, false, false, false, false, false, false, false, false, false, false] rfl rfl (take_ofW HT_.out HW_.out (by kernel_rfl)) (fun _ _ _ h => h) (Or.inl ⟨by rfl, ?_⟩) hHeld ?_ ?_
       rotate_left
       ·rintro w' ⟨s0, s1, s2, s3, s4, s5, s6, s7⟩
        go_simp
        with_reducible rfl
       rotate_left
       ·simp only [Act.put, List.setIfInBounds_toArray, List.set_cons_zero, List.set_cons_succ, i64_w, i32_w]
        rfl
       refine take_ (i := 8) (N := some 25) (v := ?_) (a' := ?_) #[true, true, true, true, true, true, true, true, true, false, false, false, false, false, false, false, false, false, false, false, false, false, false, false, false, false, false, false, false, false, false, false, false, false, false, false] rfl rfl (take_ofW HT_.out HW_.out (by kernel_rfl)) (fun _ _ _ h => h) (Or.inl ⟨by rfl, ?_⟩) hHeld ?_ ?_
       rotate_left
       ·rintro w' ⟨s0, s1, s2, s3, s4, s5, s6, s7⟩
        go_simp
        with_reducible rfl
       rotate_left
       ·simp only [Act.put, List.setIfInBounds_toArray, List.set_cons_zero, List.set_cons_succ, i64_w, i32_w]
        rfl
       refine one_ (i := 9) (N := some 26) #[true, true, true, true, true, true, true, true, true, true, false, false, false, false, false, false, false, false, false, false, false, false, false, false, false, false, false, false, false, false, false, false, false, false, false, false] rfl rfl (one_of HT_.out (by kernel_rfl)) (by decide) (fun K hK => ?_)
       refine goes_ Try.func34 (by kernel_rfl) rfl #[.agg #[.slice Ao26 t1043.length co26, .slice Ao28 t1046.length co28, .slice Ao29 t1049.length co29, .slice Ao30 t1052.length co30], .agg #[.slice Ao20 t1031.length co20, .slice Ao23 t1034.length co23, .slice Ao24 t1037.length co24, .slice Ao25 t1040.length co25]] (by rfl) rfl rfl (by (try simp only [List.map_toArray, List.map_cons, List.map_nil]); first | done | rfl | (simp only [List.length_drop, List.length_take]; rfl)) ?_
       with_reducible refine (impl_ColoredSame.calls k _ _ t1043 _ _ t1046 _ _ t1049 _ _ t1052 _ _ t1031 _ _ t1034 _ _ t1037 _ _ t1040 t1059 _ ?side1 ?side2 ?side3 ?side4 ?side5 ?side6 ?side7 ?side8 ?side9 ?side10 ?side11 ?side12 ?side13 ?side14 ?side15 ?side16 A7.out).mono ?_
       (case side1 => exact cl ((Kd.R_reads' HO1045.out).2.2))
       (case side2 => exact sc HO1045)
       (case side3 => exact cl ((Kd.R_reads' HO1048.out).2.2))
       (case side4 => exact sc HO1048)
       (case side5 => exact cl ((Kd.R_reads' HO1051.out).2.2))
       (case side6 => exact sc HO1051)
       (case side7 => exact cl ((Kd.R_reads' HO1054.out).2.2))
       (case side8 => exact sc HO1054)
       (case side9 => exact cl ((Kd.R_reads' HO1033.out).2.2))
       (case side10 => exact sc HO1033)
       (case side11 => exact cl ((Kd.R_reads' HO1036.out).2.2))
       (case side12 => exact sc HO1036)
       (case side13 => exact cl ((Kd.R_reads' HO1039.out).2.2))
       (case side14 => exact sc HO1039)
       (case side15 => exact cl ((Kd.R_reads' HO1042.out).2.2))
       (case side16 => exact sc HO1042)
       rintro e w34 ⟨rfl, hb⟩
       refine ⟨_, rfl, ?_⟩
       replace HO1033 := rb HO1033 hb
       replace HO1036 := rb HO1036 hb
       replace HO1039 := rb HO1039 hb
       replace HO1042 := rb HO1042 hb
       replace HO1045 := rb HO1045 hb
       replace HO1048 := rb HO1048 hb
       replace HO1051 := rb HO1051 hb
       replace HO1054 := rb HO1054 hb
       replace BK1055 := bb BK1055 hb
       replace BK1056 := bb BK1056 hb
       replace HB := am (below_step (bs2 GE1055.out GE1056.out HB.out) hb)
       (try clear hb)
       refine hK.out _ _ ⟨(blk_cell BK1055.out 0).trans rfl, (blk_cell BK1055.out 1).trans rfl, (blk_cell BK1055.out 2).trans rfl, (blk_cell BK1055.out 3).trans rfl, (blk_cell BK1056.out 0).trans rfl, (blk_cell BK1056.out 1).trans rfl, (blk_cell BK1056.out 2).trans rfl, (blk_cell BK1056.out 3).trans rfl⟩ (fun hHeld => ?_)
       clear hK K
       refine norm_ (a' := ?_) ?_ ?_
       rotate_left
       ·show Act.put _ (some 26) _ = _
        simp only [Act.put, List.setIfInBounds_toArray, List.set_cons_zero, List.set_cons_succ, i64_w, i32_w]
        rfl
       refine pure_ (i := 10) (N := some 27) (v := ?_) (a' := ?_) #[true, true, true, true, true, true, true, true, true, true, true, false, false, false, false, false, false, false, false, false, false, false, false, false, false, false, false, false, false, false, false, false, false, false, false, false] rfl rfl (any_of HT_.out (by kernel_rfl)) (fun _ _ _ h => h) (Or.inl ⟨by rfl, ?_⟩) ?_ ?_
       rotate_left
       ·intro w'
        go_simp
        with_reducible rfl
       rotate_left
       ·simp only [Act.put, List.setIfInBounds_toArray, List.set_cons_zero, List.set_cons_succ, i64_w, i32_w]
        rfl
       refine pure_ (i := 11) (N := some 28) (v := ?_) (a' := ?_) #[true, true, true, true, true, true, true, true, true, true, true, true, false, false, false, false, false, false, false, false, false, false, false, false, false, false, false, false, false, false, false, false, false, false, false, false] rfl rfl (any_of HT_.out (by kernel_rfl)) (fun _ _ _ h => h) (Or.inl ⟨by rfl, ?_⟩) ?_ ?_
       rotate_left
       ·intro w'
        go_simp
        with_reducible rfl
       rotate_left
       ·simp only [Act.put, List.setIfInBounds_toArray, List.set_cons_zero, List.set_cons_succ, i64_w, i32_w]
        rfl
       refine pure_ (i := 12) (N := some 29) (v := ?_) (a' := ?_) #[true, true, true, true, true, true, true, true, true, true, true, true, true, false, false, false, false, false, false, false, false, false, false, false, false, false, false, false, false, false, false, false, false, false, false, false] rfl rfl (any_of HT_.out (by kernel_rfl)) (fun _ _ _ h => h) (Or.inl ⟨by rfl, ?_⟩) ?_ ?_
       rotate_left
       ·intro w'
        go_simp
        with_reducible rfl
       rotate_left
       ·simp only [Act.put, List.setIfInBounds_toArray, List.set_cons_zero, List.set_cons_succ, i64_w, i32_w]
        rfl
       refine take_ (i := 13) (N := some 30) (v := ?_) (a' := ?_) #[true, true, true, true, true, true, true, true, true, true, true, true, true, true, false, false, false, false, false, false, false, false, false, false, false, false, false, false, false, false, false, false, false, false, false, false] rfl rfl (take_ofW HT_.out HW_.out (by kernel_rfl)) (fun _ _ _ h => h) (Or.inl ⟨by rfl, ?_⟩) hHeld ?_ ?_
       rotate_left
       ·rintro w' ⟨s0, s1, s2, s3, s4, s5, s6, s7⟩
        go_simp
        with_reducible rfl
       rotate_left
       ·simp only [Act.put, List.setIfInBounds_toArray, List.set_cons_zero, List.set_cons_succ, i64_w, i32_w]
        rfl
       refine take_ (i := 14) (N := some 31) (v := ?_) (a' := ?_) #[true, true, true, true, true, true, true, true, true, true, true, true, true, true, true, false, false, false, false, false, false, false, false, false, false, false, false, false, false, false, false, false, false, false, false, false] rfl rfl (take_ofW HT_.out HW_.out (by kernel_rfl)) (fun _ _ _ h => h) (Or.inl ⟨by rfl, ?_⟩) hHeld ?_ ?_
       rotate_left
       ·rintro w' ⟨s0, s1, s2, s3, s4, s5, s6, s7⟩
        go_simp
        with_reducible rfl
       rotate_left
       ·simp only [Act.put, List.setIfInBounds_toArray, List.set_cons_zero, List.set_cons_succ, i64_w, i32_w]
        rfl
       refine one_ (i := 15) (N := some 32) #[true, true, true, true, true, true, true, true, true, true, true, true, true, true, true, true, false, false, false, false, false, false, false, false, false, false, false, false, false, false, false, false, false, false, false, false] rfl rfl (one_of HT_.out (by kernel_rfl)) (by decide) (fun K hK => ?_)
       refine goes_ Try.func34 (by kernel_rfl) rfl #[.agg #[.slice Ao20 t1031.length co20, .slice Ao23 t1034.length co23, .slice Ao24 t1037.length co24, .slice Ao25 t1040.length co25], .agg #[.slice Ao20 t1031.length co20, .slice Ao23 t1034.length co23, .slice Ao24 t1037.length co24, .slice Ao25 t1040.length co25]] (by rfl) rfl rfl (by (try simp only [List.map_toArray, List.map_cons, List.map_nil]); first | done | rfl | (simp only [List.length_drop, List.length_take]; rfl)) ?_
       with_reducible refine (impl_ColoredSame.calls k _ _ t1031 _ _ t1034 _ _ t1037 _ _ t1040 _ _ t1031 _ _ t1034 _ _ t1037 _ _ t1040 true _ ?side1 ?side2 ?side3 ?side4 ?side5 ?side6 ?side7 ?side8 ?side9 ?side10 ?side11 ?side12 ?side13 ?side14 ?side15 ?side16 A9.out).mono ?_
       (case side1 => exact cl ((Kd.R_reads' HO1033.out).2.2))
       (case side2 => exact sc HO1033)
       (case side3 => exact cl ((Kd.R_reads' HO1036.out).2.2))
       (case side4 => exact sc HO1036)
       (case side5 => exact cl ((Kd.R_reads' HO1039.out).2.2))
       (case side6 => exact sc HO1039)
       (case side7 => exact cl ((Kd.R_reads' HO1042.out).2.2))
       (case side8 => exact sc HO1042)
       (case side9 => exact cl ((Kd.R_reads' HO1033.out).2.2))
       (case side10 => exact sc HO1033)
       (case side11 => exact cl ((Kd.R_reads' HO1036.out).2.2))
       (case side12 => exact sc HO1036)
       (case side13 => exact cl ((Kd.R_reads' HO1039.out).2.2))
       (case side14 => exact sc HO1039)
       (case side15 => exact cl ((Kd.R_reads' HO1042.out).2.2))
       (case side16 => exact sc HO1042)
       rintro e w35 ⟨rfl, hb⟩
       refine ⟨_, rfl, ?_⟩
       replace HO1033 := rb HO1033 hb
       replace HO1036 := rb HO1036 hb
       replace HO1039 := rb HO1039 hb
       replace HO1042 := rb HO1042 hb
       replace HO1045 := rb HO1045 hb
       replace HO1048 := rb HO1048 hb
       replace HO1051 := rb HO1051 hb
       replace HO1054 := rb HO1054 hb
       replace BK1055 := bb BK1055 hb
       replace BK1056 := bb BK1056 hb
       replace HB := am (below_step (bs2 GE1055.out GE1056.out HB.out) hb)
       (try clear hb)
       refine hK.out _ _ ⟨(blk_cell BK1055.out 0).trans rfl, (blk_cell BK1055.out 1).trans rfl, (blk_cell BK1055.out 2).trans rfl, (blk_cell BK1055.out 3).trans rfl, (blk_cell BK1056.out 0).trans rfl, (blk_cell BK1056.out 1).trans rfl, (blk_cell BK1056.out 2).trans rfl, (blk_cell BK1056.out 3).trans rfl⟩ (fun hHeld => ?_)
       clear hK K
       refine norm_ (a' := ?_) ?_ ?_
       rotate_left
       ·show Act.put _ (some 32) _ = _
        simp only [Act.put, List.setIfInBounds_toArray, List.set_cons_zero, List.set_cons_succ, i64_w, i32_w]
        rfl
       refine pure_ (i := 16) (N := some 33) (v := ?_) (a' := ?_) #[true, true, true, true, true, true, true, true, true, true, true, true, true, true, true, true, true, false, false, false, false, false, false, false, false, false, false, false, false, false, false, false, false, false, false, false] rfl rfl (any_of HT_.out (by kernel_rfl)) (fun _ _ _ h => h) (Or.inl ⟨by rfl, ?_⟩) ?_ ?_
       rotate_left
       ·intro w'
        go_simp
        with_reducible rfl
       rotate_left
       ·simp only [Act.put, List.setIfInBounds_toArray, List.set_cons_zero, List.set_cons_succ, i64_w, i32_w]
        rfl
       refine pure_ (i := 17) (N := some 34) (v := ?_) (a' := ?_) #[true, true, true, true, true, true, true, true, true, true, true, true, true, true, true, true, true, true, false, false, false, false, false, false, false, false, false, false, false, false, false, false, false, false, false, false] rfl rfl (any_of HT_.out (by kernel_rfl)) (fun _ _ _ h => h) (Or.inl ⟨by rfl, ?_⟩) ?_ ?_
       rotate_left
       ·intro w'
        go_simp
        with_reducible rfl
       rotate_left
       ·simp only [Act.put, List.setIfInBounds_toArray, List.set_cons_zero, List.set_cons_succ, i64_w, i32_w]
        rfl
       refine pure_ (i := 18) (N := some 35) (v := ?_) (a' := ?_) #[true, true, true, true, true, true, true, true, true, true, true, true, true, true, true, true, true, true, true, false, false, false, false, false, false, false, false, false, false, false, false, false, false, false, false, false] rfl rfl (any_of HT_.out (by kernel_rfl)) (fun _ _ _ h => h) (Or.inl ⟨by rfl, ?_⟩) ?_ ?_
       rotate_left
       ·intro w'
        go_simp
        with_reducible rfl
       rotate_left
       ·simp only [Act.put, List.setIfInBounds_toArray, List.set_cons_zero, List.set_cons_succ, i64_w, i32_w]
        rfl
       refine pure_ (i := 19) (N := some 36) (v := ?_) (a' := ?_) #[true, true, true, true, true, true, true, true, true, true, true, true, true, true, true, true, true, true, true, true, false, false, false, false, false, false, false, false, false, false, false, false, false, false, false, false] rfl rfl (any_of HT_.out (by kernel_rfl)) (fun _ _ _ h => h) (Or.inl ⟨by rfl, ?_⟩) ?_ ?_
       rotate_left
       ·intro w'
        go_simp
        with_reducible rfl
       rotate_left
       ·simp only [Act.put, List.setIfInBounds_toArray, List.set_cons_zero, List.set_cons_succ, i64_w, i32_w]
        rfl
       refine pure_ (i := 20) (N := some 37) (v := ?_) (a' := ?_) #[true, true, true, true, true, true, true, true, true, true, true, true, true, true, true, true, true, true, true, true, true, false, false, false, false, false, false, false, false, false, false, false, false, false, false, false] rfl rfl (any_of HT_.out (by kernel_rfl)) (fun _ _ _ h => h) (Or.inl ⟨by rfl, ?_⟩) ?_ ?_
       rotate_left
       ·intro w'
        go_simp
        with_reducible rfl
       rotate_left
       ·simp only [Act.put, List.setIfInBounds_toArray, List.set_cons_zero, List.set_cons_succ, i64_w, i32_w]
        rfl
       refine take_ (i := 21) (N := some 38) (v := ?_) (a' := ?_) #[true, true, true, true, true, true, true, true, true, true, true, true, true, true, true, true, true, true, true, true, true, true, false, false, false, false, false, false, false, false, false, false, false, false, false, false] rfl rfl (take_ofW HT_.out HW_.out (by kernel_rfl)) (fun _ _ _ h => h) (Or.inl ⟨by rfl, ?_⟩) hHeld ?_ ?_
       rotate_left
       ·rintro w' ⟨s0, s1, s2, s3, s4, s5, s6, s7⟩
        go_simp
        with_reducible rfl
       rotate_left
       ·simp only [Act.put, List.setIfInBounds_toArray, List.set_cons_zero, List.set_cons_succ, i64_w, i32_w]
        rfl
       refine take_ (i := 23) (N := some 40) (v := ?_) (a' := ?_) #[true, true, true, true, true, true, true, true, true, true, true, true, true, true, true, true, true, true, true, true, true, true, false, true, false, false, false, false, false, false, false, false, false, false, false, false] rfl rfl (take_ofW HT_.out HW_.out (by kernel_rfl)) (fun _ _ _ h => h) (Or.inl ⟨by rfl, ?_⟩) hHeld ?_ ?_
       rotate_left
       ·rintro w' ⟨s0, s1, s2, s3, s4, s5, s6, s7⟩
        go_simp
        with_reducible rfl
       rotate_left
       ·simp only [Act.put, List.setIfInBounds_toArray, List.set_cons_zero, List.set_cons_succ, i64_w, i32_w]
        rfl
       refine one_ (i := 22) (N := some 39) #[true, true, true, true, true, true, true, true, true, true, true, true, true, true, true, true, true, true, true, true, true, true, true, true, false, false, false, false, false, false, false, false, false, false, false, false] rfl rfl (one_of HT_.out (by kernel_rfl)) (by decide) (fun K hK => ?_)
       refine goes_ Try.func29 (by kernel_rfl) rfl #[.agg #[.slice Ao20 t1031.length co20, .slice Ao23 t1034.length co23, .slice Ao24 t1037.length co24, .slice Ao25 t1040.length co25]] (by rfl) rfl rfl (by (try simp only [List.map_toArray, List.map_cons, List.map_nil]); first | done | rfl | (simp only [List.length_drop, List.length_take]; rfl)) ?_
       with_reducible refine (impl_ColoredValid.calls k _ _ t1031 _ _ t1034 _ _ t1037 _ _ t1040 t1061 _ ?side1 ?side2 ?side3 ?side4 ?side5 ?side6 ?side7 ?side8 A12.out).mono ?_
       (case side1 => exact cl ((Kd.R_reads' HO1033.out).2.2))
       (case side2 => exact sc HO1033)
       (case side3 => exact cl ((Kd.R_reads' HO1036.out).2.2))
       (case side4 => exact sc HO1036)
       (case side5 => exact cl ((Kd.R_reads' HO1039.out).2.2))
       (case side6 => exact sc HO1039)
       (case side7 => exact cl ((Kd.R_reads' HO1042.out).2.2))
       (case side8 => exact sc HO1042)
       rintro e w36 ⟨rfl, hb⟩
       refine ⟨_, rfl, ?_⟩
       replace HO1033 := rb HO1033 hb
       replace HO1036 := rb HO1036 hb
       replace HO1039 := rb HO1039 hb
       replace HO1042 := rb HO1042 hb
       replace HO1045 := rb HO1045 hb
       replace HO1048 := rb HO1048 hb
       replace HO1051 := rb HO1051 hb
       replace HO1054 := rb HO1054 hb
       replace BK1055 := bb BK1055 hb
       replace BK1056 := bb BK1056 hb
       replace HB := am (below_step (bs2 GE1055.out GE1056.out HB.out) hb)
       (try clear hb)
       refine hK.out _ _ ⟨(blk_cell BK1055.out 0).trans rfl, (blk_cell BK1055.out 1).trans rfl, (blk_cell BK1055.out 2).trans rfl, (blk_cell BK1055.out 3).trans rfl, (blk_cell BK1056.out 0).trans rfl, (blk_cell BK1056.out 1).trans rfl, (blk_cell BK1056.out 2).trans rfl, (blk_cell BK1056.out 3).trans rfl⟩ (fun hHeld => ?_)
       clear hK K
       refine norm_ (a' := ?_) ?_ ?_
       rotate_left
       ·show Act.put _ (some 39) _ = _
        simp only [Act.put, List.setIfInBounds_toArray, List.set_cons_zero, List.set_cons_succ, i64_w, i32_w]
        rfl
       refine one_ (i := 24) (N := some 41) #[true, true, true, true, true, true, true, true, true, true, true, true, true, true, true, true, true, true, true, true, true, true, true, true, true, false, false, false, false, false, false, false, false, false, false, false] rfl rfl (one_of HT_.out (by kernel_rfl)) (by decide) (fun K hK => ?_)
       refine goes_ Try.func29 (by kernel_rfl) rfl #[.agg #[.slice Ao26 t1043.length co26, .slice Ao28 t1046.length co28, .slice Ao29 t1049.length co29, .slice Ao30 t1052.length co30]] (by rfl) rfl rfl (by (try simp only [List.map_toArray, List.map_cons, List.map_nil]); first | done | rfl | (simp only [List.length_drop, List.length_take]; rfl)) ?_
       with_reducible refine (impl_ColoredValid.calls k _ _ t1043 _ _ t1046 _ _ t1049 _ _ t1052 t1062 _ ?side1 ?side2 ?side3 ?side4 ?side5 ?side6 ?side7 ?side8 A13.out).mono ?_
       (case side1 => exact cl ((Kd.R_reads' HO1045.out).2.2))
       (case side2 => exact sc HO1045)
       (case side3 => exact cl ((Kd.R_reads' HO1048.out).2.2))
       (case side4 => exact sc HO1048)
       (case side5 => exact cl ((Kd.R_reads' HO1051.out).2.2))
       (case side6 => exact sc HO1051)
       (case side7 => exact cl ((Kd.R_reads' HO1054.out).2.2))
       (case side8 => exact sc HO1054)
       rintro e w37 ⟨rfl, hb⟩
       refine ⟨_, rfl, ?_⟩
       replace HO1033 := rb HO1033 hb
       replace HO1036 := rb HO1036 hb
       replace HO1039 := rb HO1039 hb
       replace HO1042 := rb HO1042 hb
       replace HO1045 := rb HO1045 hb
       replace HO1048 := rb HO1048 hb
       replace HO1051 := rb HO1051 hb
       replace HO1054 := rb HO1054 hb
       replace BK1055 := bb BK1055 hb
       replace BK1056 := bb BK1056 hb
       replace HB := am (below_step (bs2 GE1055.out GE1056.out HB.out) hb)
       (try clear hb)
       refine hK.out _ _ ⟨(blk_cell BK1055.out 0).trans rfl, (blk_cell BK1055.out 1).trans rfl, (blk_cell BK1055.out 2).trans rfl, (blk_cell BK1055.out 3).trans rfl, (blk_cell BK1056.out 0).trans rfl, (blk_cell BK1056.out 1).trans rfl, (blk_cell BK1056.out 2).trans rfl, (blk_cell BK1056.out 3).trans rfl⟩ (fun hHeld => ?_)
       clear hK K
       refine norm_ (a' := ?_) ?_ ?_
       rotate_left
       ·show Act.put _ (some 41) _ = _
        simp only [Act.put, List.setIfInBounds_toArray, List.set_cons_zero, List.set_cons_succ, i64_w, i32_w]
        rfl
       refine pure_ (i := 25) (N := some 42) (v := ?_) (a' := ?_) #[true, true, true, true, true, true, true, true, true, true, true, true, true, true, true, true, true, true, true, true, true, true, true, true, true, true, false, false, false, false, false, false, false, false, false, false] rfl rfl (any_of HT_.out (by kernel_rfl)) (fun _ _ _ h => h) (Or.inl ⟨by rfl, ?_⟩) ?_ ?_
       rotate_left
       ·intro w'
        go_simp
        with_reducible rfl
       rotate_left
       ·simp only [Act.put, List.setIfInBounds_toArray, List.set_cons_zero, List.set_cons_succ, i64_w, i32_w]
        rfl
       refine pure_ (i := 26) (N := some 43) (v := ?_) (a' := ?_) #[true, true, true, true, true, true, true, true, true, true, true, true, true, true, true, true, true, true, true, true, true, true, true, true, true, true, true, false, false, false, false, false, false, false, false, false] rfl rfl (any_of HT_.out (by kernel_rfl)) (fun _ _ _ h => h) (Or.inl ⟨by rfl, ?_⟩) ?_ ?_
       rotate_left
       ·intro w'
        go_simp
        with_reducible rfl
       rotate_left
       ·simp only [Act.put, List.setIfInBounds_toArray, List.set_cons_zero, List.set_cons_succ, i64_w, i32_w]
        rfl
       refine pure_ (i := 27) (N := some 44) (v := ?_) (a' := ?_) #[true, true, true, true, true, true, true, true, true, true, true, true, true, true, true, true, true, true, true, true, true, true, true, true, true, true, true, true, false, false, false, false, false, false, false, false] rfl rfl (any_of HT_.out (by kernel_rfl)) (fun _ _ _ h => h) (Or.inl ⟨by rfl, ?_⟩) ?_ ?_
       rotate_left
       ·intro w'
        go_simp
        with_reducible rfl
       rotate_left
       ·simp only [Act.put, List.setIfInBounds_toArray, List.set_cons_zero, List.set_cons_succ, i64_w, i32_w]
        rfl
       refine pure_ (i := 28) (N := some 45) (v := ?_) (a' := ?_) #[true, true, true, true, true, true, true, true, true, true, true, true, true, true, true, true, true, true, true, true, true, true, true, true, true, true, true, true, true, false, false, false, false, false, false, false] rfl rfl (any_of HT_.out (by kernel_rfl)) (fun _ _ _ h => h) (Or.inl ⟨by rfl, ?_⟩) ?_ ?_
       rotate_left
       ·intro w'
        go_simp
        with_reducible rfl
       rotate_left
       ·simp only [Act.put, List.setIfInBounds_toArray, List.set_cons_zero, List.set_cons_succ, i64_w, i32_w]
        rfl
       refine take_ (i := 29) (N := some 46) (v := ?_) (a' := ?_) #[true, true, true, true, true, true, true, true, true, true, true, true, true, true, true, true, true, true, true, true, true, true, true, true, true, true, true, true, true, true, false, false, false, false, false, false] rfl rfl (take_ofW HT_.out HW_.out (by kernel_rfl)) (fun _ _ _ h => h) (Or.inl ⟨by rfl, ?_⟩) hHeld ?_ ?_
       rotate_left
       ·rintro w' ⟨s0, s1, s2, s3, s4, s5, s6, s7⟩
        go_simp
        with_reducible rfl
       rotate_left
       ·simp only [Act.put, List.setIfInBounds_toArray, List.set_cons_zero, List.set_cons_succ, i64_w, i32_w]
        rfl
       refine take_ (i := 31) (N := some 48) (v := ?_) (a' := ?_) #[true, true, true, true, true, true, true, true, true, true, true, true, true, true, true, true, true, true, true, true, true, true, true, true, true, true, true, true, true, true, false, true, false, false, false, false] rfl rfl (take_ofW HT_.out HW_.out (by kernel_rfl)) (fun _ _ _ h => h) (Or.inl ⟨by rfl, ?_⟩) hHeld ?_ ?_
       rotate_left
       ·rintro w' ⟨s0, s1, s2, s3, s4, s5, s6, s7⟩
        go_simp
        with_reducible rfl
       rotate_left
       ·simp only [Act.put, List.setIfInBounds_toArray, List.set_cons_zero, List.set_cons_succ, i64_w, i32_w]
        rfl
       refine one_ (i := 30) (N := some 47) #[true, true, true, true, true, true, true, true, true, true, true, true, true, true, true, true, true, true, true, true, true, true, true, true, true, true, true, true, true, true, true, true, false, false, false, false] rfl rfl (one_of HT_.out (by kernel_rfl)) (by decide) (fun K hK => ?_)
       refine goes_ Try.func29 (by kernel_rfl) rfl #[.agg #[.slice Ao26 t1043.length co26, .slice Ao28 t1046.length co28, .slice Ao29 t1049.length co29, .slice Ao30 t1052.length co30]] (by rfl) rfl rfl (by (try simp only [List.map_toArray, List.map_cons, List.map_nil]); first | done | rfl | (simp only [List.length_drop, List.length_take]; rfl)) ?_
       with_reducible refine (impl_ColoredValid.calls k _ _ t1043 _ _ t1046 _ _ t1049 _ _ t1052 t1063 _ ?side1 ?side2 ?side3 ?side4 ?side5 ?side6 ?side7 ?side8 A15.out).mono ?_
       (case side1 => exact cl ((Kd.R_reads' HO1045.out).2.2))
       (case side2 => exact sc HO1045)
       (case side3 => exact cl ((Kd.R_reads' HO1048.out).2.2))
       (case side4 => exact sc HO1048)
       (case side5 => exact cl ((Kd.R_reads' HO1051.out).2.2))
       (case side6 => exact sc HO1051)
       (case side7 => exact cl ((Kd.R_reads' HO1054.out).2.2))
       (case side8 => exact sc HO1054)
       rintro e w38 ⟨rfl, hb⟩
       refine ⟨_, rfl, ?_⟩
       replace HO1033 := rb HO1033 hb
       replace HO1036 := rb HO1036 hb
       replace HO1039 := rb HO1039 hb
       replace HO1042 := rb HO1042 hb
       replace HO1045 := rb HO1045 hb
       replace HO1048 := rb HO1048 hb
       replace HO1051 := rb HO1051 hb
       replace HO1054 := rb HO1054 hb
       replace BK1055 := bb BK1055 hb
       replace BK1056 := bb BK1056 hb
       replace HB := am (below_step (bs2 GE1055.out GE1056.out HB.out) hb)
       (try clear hb)
       refine hK.out _ _ ⟨(blk_cell BK1055.out 0).trans rfl, (blk_cell BK1055.out 1).trans rfl, (blk_cell BK1055.out 2).trans rfl, (blk_cell BK1055.out 3).trans rfl, (blk_cell BK1056.out 0).trans rfl, (blk_cell BK1056.out 1).trans rfl, (blk_cell BK1056.out 2).trans rfl, (blk_cell BK1056.out 3).trans rfl⟩ (fun hHeld => ?_)
       clear hK K
       refine norm_ (a' := ?_) ?_ ?_
       rotate_left
       ·show Act.put _ (some 47) _ = _
        simp only [Act.put, List.setIfInBounds_toArray, List.set_cons_zero, List.set_cons_succ, i64_w, i32_w]
        rfl
       refine one_ (i := 32) (N := some 49) #[true, true, true, true, true, true, true, true, true, true, true, true, true, true, true, true, true, true, true, true, true, true, true, true, true, true, true, true, true, true, true, true, true, false, false, false] rfl rfl (one_of HT_.out (by kernel_rfl)) (by decide) (fun K hK => ?_)
       refine goes_ Try.func36 (by kernel_rfl) rfl #[.agg #[.slice Ao26 t1043.length co26, .slice Ao28 t1046.length co28, .slice Ao29 t1049.length co29, .slice Ao30 t1052.length co30]] (by rfl) rfl rfl (by (try simp only [List.map_toArray, List.map_cons, List.map_nil]); first | done | rfl | (simp only [List.length_drop, List.length_take]; rfl)) ?_
       with_reducible refine (spec_ColoredValid.calls k _ _ t1043 _ _ t1046 _ _ t1049 _ _ t1052 t1064 _ ?side1 ?side2 ?side3 ?side4 ?side5 ?side6 ?side7 ?side8 A16.out).mono ?_
       (case side1 => exact cl ((Kd.R_reads' HO1045.out).2.2))
       (case side2 => exact sc HO1045)
       (case side3 => exact cl ((Kd.R_reads' HO1048.out).2.2))
       (case side4 => exact sc HO1048)
       (case side5 => exact cl ((Kd.R_reads' HO1051.out).2.2))
       (case side6 => exact sc HO1051)
       (case side7 => exact cl ((Kd.R_reads' HO1054.out).2.2))
       (case side8 => exact sc HO1054)
       rintro e w39 ⟨rfl, hb⟩
       refine ⟨_, rfl, ?_⟩
       replace HO1033 := rb HO1033 hb
       replace HO1036 := rb HO1036 hb
       replace HO1039 := rb HO1039 hb
       replace HO1042 := rb HO1042 hb
       replace HO1045 := rb HO1045 hb
       replace HO1048 := rb HO1048 hb
       replace HO1051 := rb HO1051 hb
       replace HO1054 := rb HO1054 hb
       replace BK1055 := bb BK1055 hb
       replace BK1056 := bb BK1056 hb
       replace HB := am (below_step (bs2 GE1055.out GE1056.out HB.out) hb)
       (try clear hb)
       refine hK.out _ _ ⟨(blk_cell BK1055.out 0).trans rfl, (blk_cell BK1055.out 1).trans rfl, (blk_cell BK1055.out 2).trans rfl, (blk_cell BK1055.out 3).trans rfl, (blk_cell BK1056.out 0).trans rfl, (blk_cell BK1056.out 1).trans rfl, (blk_cell BK1056.out 2).trans rfl, (blk_cell BK1056.out 3).trans rfl⟩ (fun hHeld => ?_)
       clear hK K
       refine norm_ (a' := ?_) ?_ ?_
       rotate_left
       ·show Act.put _ (some 49) _ = _
        simp only [Act.put, List.setIfInBounds_toArray, List.set_cons_zero, List.set_cons_succ, i64_w, i32_w]
        rfl
       refine pure_ (i := 33) (N := some 50) (v := ?_) (a' := ?_) #[true, true, true, true, true, true, true, true, true, true, true, true, true, true, true, true, true, true, true, true, true, true, true, true, true, true, true, true, true, true, true, true, true, true, false, false] rfl rfl (any_of HT_.out (by kernel_rfl)) (fun _ _ _ h => h) (Or.inl ⟨by rfl, ?_⟩) ?_ ?_
       rotate_left
       ·intro w'
        go_simp
        with_reducible rfl
       rotate_left
       ·simp only [Act.put, List.setIfInBounds_toArray, List.set_cons_zero, List.set_cons_succ, i64_w, i32_w]
        rfl
       refine pure_ (i := 34) (N := some 51) (v := ?_) (a' := ?_) #[true, true, true, true, true, true, true, true, true, true, true, true, true, true, true, true, true, true, true, true, true, true, true, true, true, true, true, true, true, true, true, true, true, true, true, false] rfl rfl (any_of HT_.out (by kernel_rfl)) (fun _ _ _ h => h) (Or.inl ⟨by rfl, ?_⟩) ?_ ?_
       rotate_left
       ·intro w'
        go_simp
        with_reducible rfl
       rotate_left
       ·simp only [Act.put, List.setIfInBounds_toArray, List.set_cons_zero, List.set_cons_succ, i64_w, i32_w]
        rfl
       refine pure_ (i := 35) (N := some 2) (v := ?_) (a' := ?_) #[true, true, true, true, true, true, true, true, true, true, true, true, true, true, true, true, true, true, true, true, true, true, true, true, true, true, true, true, true, true, true, true, true, true, true, true] rfl rfl (any_of HT_.out (by kernel_rfl)) (fun _ _ _ h => h) (Or.inl ⟨by rfl, ?_⟩) ?_ ?_
       rotate_left
       ·intro w'
        go_simp
        with_reducible rfl
       rotate_left
       ·simp only [Act.put, List.setIfInBounds_toArray, List.set_cons_zero, List.set_cons_succ, i64_w, i32_w]
        rfl
       refine done_ (done_of HT_.out (by kernel_rfl)) ?_
       try go_wp2
       go_ret
       exact ⟨by first | rfl | (simp [errW_none, errW_some] <;> rfl) | (simp [*, errW_none, errW_some] <;> rfl), by exact bs2 GE1055.out GE1056.out HB.out⟩
      ·rw [if_neg c14] at H
       have c14b0 : (t1061 == t1062) = false := by simpa using c14
       (try (have c14b1 : decide (t1061 = t1062) = false := by simpa using c14))
       (try (have c14b2 : (t1061 == t1062) = false := by simpa using c14))
       (try (have c14b3 : ¬ (t1061 = t1062) := by simpa using c14))
       clear c14
       exact absurd H (by simp)
     ·replace c11 := Bool.eq_false_iff.mpr c11
      subst c11
      have H1 : ((impl_ColoredValid.f k t1043 t1046 t1049 t1052).bind fun t1065 => ((spec_ColoredValid.f k t1043 t1046 t1049 t1052).bind fun t1066 => (some (t1065 == t1066)))) = some r := by rw [if_neg (show ¬ (false = true) by decide)] at H; exact H
      clear H
      have H := H1
      clear H1
      replace H := Option.bind_eq_some_iff.mp H
      obtain ⟨t1065, A400, H⟩ := H
      replace H : ((spec_ColoredValid.f k t1043 t1046 t1049 t1052).bind fun t1066 => (some (t1065 == t1066))) = some r := H
      have A40 := am A400
      clear A400
      replace H := Option.bind_eq_some_iff.mp H
      obtain ⟨t1066, A410, H⟩ := H
      replace H : (some (t1065 == t1066)) = some r := H
      have A41 := am A410
      clear A410
      obtain rfl := Option.some.inj H
      go_enter Try.func8, Try.ntmps8
      try go_wp2_with (first | ((with_reducible refine gate_callee (f := 33) rfl ?_); refine gL (some 11) rfl rfl Try.func33 (by kernel_rfl) rfl #[.slice A0 l0.length c0] rfl ?_; (with_reducible refine (spec_DrawColoredSame.calls k _ _ l0 t1031 t1034 t1037 t1040 t1043 t1046 t1049 t1052 _ ?side1 ?side2 A3.out).mono ?_); (case side1 => exact cl (HR0.out)); (case side2 => exact HC0.out); rintro e w42 ⟨v1032, v1035, v1038, v1041, v1044, v1047, v1050, v1053, rfl, ho0, ho1, ho2, ho3, ho4, ho5, ho6, ho7, hb⟩; refine ⟨_, rfl, ?_⟩; have HO1033 := ln0 ho0 (bl HB.out); have HO1036 := ln0 ho1 (bl HB.out); have HO1039 := ln0 ho2 (bl HB.out); have HO1042 := ln0 ho3 (bl HB.out); have HO1045 := ln0 ho4 (bl HB.out); have HO1048 := ln0 ho5 (bl HB.out); have HO1051 := ln0 ho6 (bl HB.out); have HO1054 := ln0 ho7 (bl HB.out); replace HB := am (below_step (bl HB.out) hb); (try clear hb ho0 ho1 ho2 ho3 ho4 ho5 ho6 ho7)) | ((with_reducible refine gate_dst (N := 3) rfl ?_); refine box_event ?hg (N := 3) ?hd (cs := #[.slice none 0 0, .slice none 0 0, .slice none 0 0, .slice none 0 0]) (t := 30) ?hr ?_; (case hd => rfl); (case hg => rfl); (case hr => first | (go_simp; done) | (go_simp; rfl)); intro gb1055 hg w43 hbox hb; replace HO1033 := rb HO1033 hb; replace HO1036 := rb HO1036 hb; replace HO1039 := rb HO1039 hb; replace HO1042 := rb HO1042 hb; replace HO1045 := rb HO1045 hb; replace HO1048 := rb HO1048 hb; replace HO1051 := rb HO1051 hb; replace HO1054 := rb HO1054 hb; have BK1055 := am (hbox); have GW1055 := am ((by rw [hg]; exact (below_size (bl HB.out)) : w.heap.size ≤ gb1055)); have GE1055 := am ((by rw [hg]; exact (below_size (bl HB.out)) : w.heap.size ≤ gb1055)); replace HB := am (below_step (bl HB.out) hb); clear hb hbox hg) | ((with_reducible refine gate_dst (N := 4) rfl ?_); refine box_event ?hg (N := 4) ?hd (cs := #[.slice none 0 0, .slice none 0 0, .slice none 0 0, .slice none 0 0]) (t := 30) ?hr ?_; (case hd => rfl); (case hg => rfl); (case hr => first | (go_simp; done) | (go_simp; rfl)); intro gb1056 hg w44 hbox hb; replace HO1033 := rb HO1033 hb; replace HO1036 := rb HO1036 hb; replace HO1039 := rb HO1039 hb; replace HO1042 := rb HO1042 hb; replace HO1045 := rb HO1045 hb; replace HO1048 := rb HO1048 hb; replace HO1051 := rb HO1051 hb; replace HO1054 := rb HO1054 hb; have BK1056 := am (hbox); have GW1056 := am ((by rw [hg]; exact (below_size (bs1 GE1055.out HB.out)) : w.heap.size ≤ gb1056)); have GE1056 := am ((by rw [hg]; exact (below_size (bs1 GE1055.out HB.out)) : w.heap.size ≤ gb1056)); replace HB := am (below_step (bs1 GE1055.out HB.out) hb); have NB1055_1056 := nb BK1055 hg; have NB1056_1055 := nc BK1055 hg; replace BK1055 := bb BK1055 hb; clear hb hbox hg; obtain ⟨Ao45, co45, eo45⟩ := Kd.R_slice HO1033.out; subst eo45; have hnb46 := NB1055_1056.out; have hnc46 := NB1056_1055.out; obtain ⟨hcz47_0, hcz47_1, hcz47_2, hcz47_3, hfz47_0, hfz47_1, hfz47_2, hfz47_3⟩ := cf4 BK1055; obtain ⟨Ao48, co48, eo48⟩ := Kd.R_slice HO1036.out; subst eo48; obtain ⟨Ao49, co49, eo49⟩ := Kd.R_slice HO1039.out; subst eo49; obtain ⟨Ao50, co50, eo50⟩ := Kd.R_slice HO1042.out; subst eo50; obtain ⟨Ao51, co51, eo51⟩ := Kd.R_slice HO1045.out; subst eo51; obtain ⟨hcz52_0, hcz52_1, hcz52_2, hcz52_3, hfz52_0, hfz52_1, hfz52_2, hfz52_3⟩ := cf4 BK1056; obtain ⟨Ao53, co53, eo53⟩ := Kd.R_slice HO1048.out; subst eo53; obtain ⟨Ao54, co54, eo54⟩ := Kd.R_slice HO1051.out; subst eo54; obtain ⟨Ao55, co55, eo55⟩ := Kd.R_slice HO1054.out; subst eo55) | ((with_reducible refine gate_callee (f := 34) rfl ?_); refine gL (some 16) rfl rfl Try.func34 (by kernel_rfl) rfl #[.agg #[.slice Ao45 t1031.length co45, .slice Ao48 t1034.length co48, .slice Ao49 t1037.length co49, .slice Ao50 t1040.length co50], .agg #[.slice Ao51 t1043.length co51, .slice Ao53 t1046.length co53, .slice Ao54 t1049.length co54, .slice Ao55 t1052.length co55]] rfl ?_; (with_reducible refine (impl_ColoredSame.calls k _ _ t1031 _ _ t1034 _ _ t1037 _ _ t1040 _ _ t1043 _ _ t1046 _ _ t1049 _ _ t1052 false _ ?side1 ?side2 ?side3 ?side4 ?side5 ?side6 ?side7 ?side8 ?side9 ?side10 ?side11 ?side12 ?side13 ?side14 ?side15 ?side16 A4.out).mono ?_); (case side1 => exact (Kd.R_reads' (rl ((Kd.R_mono (Kd.R_mono (Kd.R_far (p := ⟨gb1056, 3, none⟩) (Kd.R_far (p := ⟨gb1056, 2, none⟩) (Kd.R_far (p := ⟨gb1056, 1, none⟩) (Kd.R_far (p := ⟨gb1056, 0, none⟩) (Kd.R_far (p := ⟨gb1055, 3, none⟩) (Kd.R_far (p := ⟨gb1055, 2, none⟩) (Kd.R_far (p := ⟨gb1055, 1, none⟩) (Kd.R_far (p := ⟨gb1055, 0, none⟩) (Kd.R_types (Kd.R_types HO1033.out BK1055.out (by decide)) BK1056.out (by decide)) (fun _ hk => by first | exact hk.1.2 | (simp only [ne_eq] at hk ⊢; simp only [hk, not_false_eq_true, and_self])) (.slice Ao45 t1031.length co45)) (fun _ hk => by first | exact hk.1.2 | (simp only [ne_eq] at hk ⊢; simp only [hk, not_false_eq_true, and_self])) (.slice Ao48 t1034.length co48)) (fun _ hk => by first | exact hk.1.2 | (simp only [ne_eq] at hk ⊢; simp only [hk, not_false_eq_true, and_self])) (.slice Ao49 t1037.length co49)) (fun _ hk => by first | exact hk.1.2 | (simp only [ne_eq] at hk ⊢; simp only [hk, not_false_eq_true, and_self])) (.slice Ao50 t1040.length co50)) (fun _ hk => hk.2) (.slice Ao51 t1043.length co51)) (fun _ hk => hk.2) (.slice Ao53 t1046.length co53)) (fun _ hk => hk.2) (.slice Ao54 t1049.length co54)) (fun _ hk => hk.2) (.slice Ao55 t1052.length co55)) (fun _ h_ => h_.1)) (fun _ h_ => h_.1))))).2.2); (case side2 => exact sc HO1033); (case side3 => exact (Kd.R_reads' (rl ((Kd.R_mono (Kd.R_mono (Kd.R_far (p := ⟨gb1056, 3, none⟩) (Kd.R_far (p := ⟨gb1056, 2, none⟩) (Kd.R_far (p := ⟨gb1056, 1, none⟩) (Kd.R_far (p := ⟨gb1056, 0, none⟩) (Kd.R_far (p := ⟨gb1055, 3, none⟩) (Kd.R_far (p := ⟨gb1055, 2, none⟩) (Kd.R_far (p := ⟨gb1055, 1, none⟩) (Kd.R_far (p := ⟨gb1055, 0, none⟩) (Kd.R_types (Kd.R_types HO1036.out BK1055.out (by decide)) BK1056.out (by decide)) (fun _ hk => by first | exact hk.1.2 | (simp only [ne_eq] at hk ⊢; simp only [hk, not_false_eq_true, and_self])) (.slice Ao45 t1031.length co45)) (fun _ hk => by first | exact hk.1.2 | (simp only [ne_eq] at hk ⊢; simp only [hk, not_false_eq_true, and_self])) (.slice Ao48 t1034.length co48)) (fun _ hk => by first | exact hk.1.2 | (simp only [ne_eq] at hk ⊢; simp only [hk, not_false_eq_true, and_self])) (.slice Ao49 t1037.length co49)) (fun _ hk => by first | exact hk.1.2 | (simp only [ne_eq] at hk ⊢; simp only [hk, not_false_eq_true, and_self])) (.slice Ao50 t1040.length co50)) (fun _ hk => hk.2) (.slice Ao51 t1043.length co51)) (fun _ hk => hk.2) (.slice Ao53 t1046.length co53)) (fun _ hk => hk.2) (.slice Ao54 t1049.length co54)) (fun _ hk => hk.2) (.slice Ao55 t1052.length co55)) (fun _ h_ => h_.1)) (fun _ h_ => h_.1))))).2.2); (case side4 => exact sc HO1036); (case side5 => exact (Kd.R_reads' (rl ((Kd.R_mono (Kd.R_mono (Kd.R_far (p := ⟨gb1056, 3, none⟩) (Kd.R_far (p := ⟨gb1056, 2, none⟩) (Kd.R_far (p := ⟨gb1056, 1, none⟩) (Kd.R_far (p := ⟨gb1056, 0, none⟩) (Kd.R_far (p := ⟨gb1055, 3, none⟩) (Kd.R_far (p := ⟨gb1055, 2, none⟩) (Kd.R_far (p := ⟨gb1055, 1, none⟩) (Kd.R_far (p := ⟨gb1055, 0, none⟩) (Kd.R_types (Kd.R_types HO1039.out BK1055.out (by decide)) BK1056.out (by decide)) (fun _ hk => by first | exact hk.1.2 | (simp only [ne_eq] at hk ⊢; simp only [hk, not_false_eq_true, and_self])) (.slice Ao45 t1031.length co45)) (fun _ hk => by first | exact hk.1.2 | (simp only [ne_eq] at hk ⊢; simp only [hk, not_false_eq_true, and_self])) (.slice Ao48 t1034.length co48)) (fun _ hk => by first | exact hk.1.2 | (simp only [ne_eq] at hk ⊢; simp only [hk, not_false_eq_true, and_self])) (.slice Ao49 t1037.length co49)) (fun _ hk => by first | exact hk.1.2 | (simp only [ne_eq] at hk ⊢; simp only [hk, not_false_eq_true, and_self])) (.slice Ao50 t1040.length co50)) (fun _ hk => hk.2) (.slice Ao51 t1043.length co51)) (fun _ hk => hk.2) (.slice Ao53 t1046.length co53)) (fun _ hk => hk.2) (.slice Ao54 t1049.length co54)) (fun _ hk => hk.2) (.slice Ao55 t1052.length co55)) (fun _ h_ => h_.1)) (fun _ h_ => h_.1))))).2.2); (case side6 => exact sc HO1039); (case side7 => exact (Kd.R_reads' (rl ((Kd.R_mono (Kd.R_mono (Kd.R_far (p := ⟨gb1056, 3, none⟩) (Kd.R_far (p := ⟨gb1056, 2, none⟩) (Kd.R_far (p := ⟨gb1056, 1, none⟩) (Kd.R_far (p := ⟨gb1056, 0, none⟩) (Kd.R_far (p := ⟨gb1055, 3, none⟩) (Kd.R_far (p := ⟨gb1055, 2, none⟩) (Kd.R_far (p := ⟨gb1055, 1, none⟩) (Kd.R_far (p := ⟨gb1055, 0, none⟩) (Kd.R_types (Kd.R_types HO1042.out BK1055.out (by decide)) BK1056.out (by decide)) (fun _ hk => by first | exact hk.1.2 | (simp only [ne_eq] at hk ⊢; simp only [hk, not_false_eq_true, and_self])) (.slice Ao45 t1031.length co45)) (fun _ hk => by first | exact hk.1.2 | (simp only [ne_eq] at hk ⊢; simp only [hk, not_false_eq_true, and_self])) (.slice Ao48 t1034.length co48)) (fun _ hk => by first | exact hk.1.2 | (simp only [ne_eq] at hk ⊢; simp only [hk, not_false_eq_true, and_self])) (.slice Ao49 t1037.length co49)) (fun _ hk => by first | exact hk.1.2 | (simp only [ne_eq] at hk ⊢; simp only [hk, not_false_eq_true, and_self])) (.slice Ao50 t1040.length co50)) (fun _ hk => hk.2) (.slice Ao51 t1043.length co51)) (fun _ hk => hk.2) (.slice Ao53 t1046.length co53)) (fun _ hk => hk.2) (.slice Ao54 t1049.length co54)) (fun _ hk => hk.2) (.slice Ao55 t1052.length co55)) (fun _ h_ => h_.1)) (fun _ h_ => h_.1))))).2.2); (case side8 => exact sc HO1042); (case side9 => exact (Kd.R_reads' (rl ((Kd.R_mono (Kd.R_mono (Kd.R_far (p := ⟨gb1056, 3, none⟩) (Kd.R_far (p := ⟨gb1056, 2, none⟩) (Kd.R_far (p := ⟨gb1056, 1, none⟩) (Kd.R_far (p := ⟨gb1056, 0, none⟩) (Kd.R_far (p := ⟨gb1055, 3, none⟩) (Kd.R_far (p := ⟨gb1055, 2, none⟩) (Kd.R_far (p := ⟨gb1055, 1, none⟩) (Kd.R_far (p := ⟨gb1055, 0, none⟩) (Kd.R_types (Kd.R_types HO1045.out BK1055.out (by decide)) BK1056.out (by decide)) (fun _ hk => by first | exact hk.1.2 | (simp only [ne_eq] at hk ⊢; simp only [hk, not_false_eq_true, and_self])) (.slice Ao45 t1031.length co45)) (fun _ hk => by first | exact hk.1.2 | (simp only [ne_eq] at hk ⊢; simp only [hk, not_false_eq_true, and_self])) (.slice Ao48 t1034.length co48)) (fun _ hk => by first | exact hk.1.2 | (simp only [ne_eq] at hk ⊢; simp only [hk, not_false_eq_true, and_self])) (.slice Ao49 t1037.length co49)) (fun _ hk => by first | exact hk.1.2 | (simp only [ne_eq] at hk ⊢; simp only [hk, not_false_eq_true, and_self])) (.slice Ao50 t1040.length co50)) (fun _ hk => hk.2) (.slice Ao51 t1043.length co51)) (fun _ hk => hk.2) (.slice Ao53 t1046.length co53)) (fun _ hk => hk.2) (.slice Ao54 t1049.length co54)) (fun _ hk => hk.2) (.slice Ao55 t1052.length co55)) (fun _ h_ => h_.1)) (fun _ h_ => h_.1))))).2.2); (case side10 => exact sc HO1045); (case side11 => exact (Kd.R_reads' (rl ((Kd.R_mono (Kd.R_mono (Kd.R_far (p := ⟨gb1056, 3, none⟩) (Kd.R_far (p := ⟨gb1056, 2, none⟩) (Kd.R_far (p := ⟨gb1056, 1, none⟩) (Kd.R_far (p := ⟨gb1056, 0, none⟩) (Kd.R_far (p := ⟨gb1055, 3, none⟩) (Kd.R_far (p := ⟨gb1055, 2, none⟩) (Kd.R_far (p := ⟨gb1055, 1, none⟩) (Kd.R_far (p := ⟨gb1055, 0, none⟩) (Kd.R_types (Kd.R_types HO1048.out BK1055.out (by decide)) BK1056.out (by decide)) (fun _ hk => by first | exact hk.1.2 | (simp only [ne_eq] at hk ⊢; simp only [hk, not_false_eq_true, and_self])) (.slice Ao45 t1031.length co45)) (fun _ hk => by first | exact hk.1.2 | (simp only [ne_eq] at hk ⊢; simp only [hk, not_false_eq_true, and_self])) (.slice Ao48 t1034.length co48)) (fun _ hk => by first | exact hk.1.2 | (simp only [ne_eq] at hk ⊢; simp only [hk, not_false_eq_true, and_self])) (.slice Ao49 t1037.length co49)) (fun _ hk => by first | exact hk.1.2 | (simp only [ne_eq] at hk ⊢; simp only [hk, not_false_eq_true, and_self])) (.slice Ao50 t1040.length co50)) (fun _ hk => hk.2) (.slice Ao51 t1043.length co51)) (fun _ hk => hk.2) (.slice Ao53 t1046.length co53)) (fun _ hk => hk.2) (.slice Ao54 t1049.length co54)) (fun _ hk => hk.2) (.slice Ao55 t1052.length co55)) (fun _ h_ => h_.1)) (fun _ h_ => h_.1))))).2.2); (case side12 => exact sc HO1048); (case side13 => exact (Kd.R_reads' (rl ((Kd.R_mono (Kd.R_mono (Kd.R_far (p := ⟨gb1056, 3, none⟩) (Kd.R_far (p := ⟨gb1056, 2, none⟩) (Kd.R_far (p := ⟨gb1056, 1, none⟩) (Kd.R_far (p := ⟨gb1056, 0, none⟩) (Kd.R_far (p := ⟨gb1055, 3, none⟩) (Kd.R_far (p := ⟨gb1055, 2, none⟩) (Kd.R_far (p := ⟨gb1055, 1, none⟩) (Kd.R_far (p := ⟨gb1055, 0, none⟩) (Kd.R_types (Kd.R_types HO1051.out BK1055.out (by decide)) BK1056.out (by decide)) (fun _ hk => by first | exact hk.1.2 | (simp only [ne_eq] at hk ⊢; simp only [hk, not_false_eq_true, and_self])) (.slice Ao45 t1031.length co45)) (fun _ hk => by first | exact hk.1.2 | (simp only [ne_eq] at hk ⊢; simp only [hk, not_false_eq_true, and_self])) (.slice Ao48 t1034.length co48)) (fun _ hk => by first | exact hk.1.2 | (simp only [ne_eq] at hk ⊢; simp only [hk, not_false_eq_true, and_self])) (.slice Ao49 t1037.length co49)) (fun _ hk => by first | exact hk.1.2 | (simp only [ne_eq] at hk ⊢; simp only [hk, not_false_eq_true, and_self])) (.slice Ao50 t1040.length co50)) (fun _ hk => hk.2) (.slice Ao51 t1043.length co51)) (fun _ hk => hk.2) (.slice Ao53 t1046.length co53)) (fun _ hk => hk.2) (.slice Ao54 t1049.length co54)) (fun _ hk => hk.2) (.slice Ao55 t1052.length co55)) (fun _ h_ => h_.1)) (fun _ h_ => h_.1))))).2.2); (case side14 => exact sc HO1051); (case side15 => exact (Kd.R_reads' (rl ((Kd.R_mono (Kd.R_mono (Kd.R_far (p := ⟨gb1056, 3, none⟩) (Kd.R_far (p := ⟨gb1056, 2, none⟩) (Kd.R_far (p := ⟨gb1056, 1, none⟩) (Kd.R_far (p := ⟨gb1056, 0, none⟩) (Kd.R_far (p := ⟨gb1055, 3, none⟩) (Kd.R_far (p := ⟨gb1055, 2, none⟩) (Kd.R_far (p := ⟨gb1055, 1, none⟩) (Kd.R_far (p := ⟨gb1055, 0, none⟩) (Kd.R_types (Kd.R_types HO1054.out BK1055.out (by decide)) BK1056.out (by decide)) (fun _ hk => by first | exact hk.1.2 | (simp only [ne_eq] at hk ⊢; simp only [hk, not_false_eq_true, and_self])) (.slice Ao45 t1031.length co45)) (fun _ hk => by first | exact hk.1.2 | (simp only [ne_eq] at hk ⊢; simp only [hk, not_false_eq_true, and_self])) (.slice Ao48 t1034.length co48)) (fun _ hk => by first | exact hk.1.2 | (simp only [ne_eq] at hk ⊢; simp only [hk, not_false_eq_true, and_self])) (.slice Ao49 t1037.length co49)) (fun _ hk => by first | exact hk.1.2 | (simp only [ne_eq] at hk ⊢; simp only [hk, not_false_eq_true, and_self])) (.slice Ao50 t1040.length co50)) (fun _ hk => hk.2) (.slice Ao51 t1043.length co51)) (fun _ hk => hk.2) (.slice Ao53 t1046.length co53)) (fun _ hk => hk.2) (.slice Ao54 t1049.length co54)) (fun _ hk => hk.2) (.slice Ao55 t1052.length co55)) (fun _ h_ => h_.1)) (fun _ h_ => h_.1))))).2.2); (case side16 => exact sc HO1054); rintro e w56 ⟨rfl, hb⟩; refine ⟨_, rfl, ?_⟩; replace HO1033 := am (Kd.R_below (rl ((Kd.R_mono (Kd.R_mono (Kd.R_far (p := ⟨gb1056, 3, none⟩) (Kd.R_far (p := ⟨gb1056, 2, none⟩) (Kd.R_far (p := ⟨gb1056, 1, none⟩) (Kd.R_far (p := ⟨gb1056, 0, none⟩) (Kd.R_far (p := ⟨gb1055, 3, none⟩) (Kd.R_far (p := ⟨gb1055, 2, none⟩) (Kd.R_far (p := ⟨gb1055, 1, none⟩) (Kd.R_far (p := ⟨gb1055, 0, none⟩) (Kd.R_types (Kd.R_types HO1033.out BK1055.out (by decide)) BK1056.out (by decide)) (fun _ hk => by first | exact hk.1.2 | (simp only [ne_eq] at hk ⊢; simp only [hk, not_false_eq_true, and_self])) (.slice Ao45 t1031.length co45)) (fun _ hk => by first | exact hk.1.2 | (simp only [ne_eq] at hk ⊢; simp only [hk, not_false_eq_true, and_self])) (.slice Ao48 t1034.length co48)) (fun _ hk => by first | exact hk.1.2 | (simp only [ne_eq] at hk ⊢; simp only [hk, not_false_eq_true, and_self])) (.slice Ao49 t1037.length co49)) (fun _ hk => by first | exact hk.1.2 | (simp only [ne_eq] at hk ⊢; simp only [hk, not_false_eq_true, and_self])) (.slice Ao50 t1040.length co50)) (fun _ hk => hk.2) (.slice Ao51 t1043.length co51)) (fun _ hk => hk.2) (.slice Ao53 t1046.length co53)) (fun _ hk => hk.2) (.slice Ao54 t1049.length co54)) (fun _ hk => hk.2) (.slice Ao55 t1052.length co55)) (fun _ h_ => h_.1)) (fun _ h_ => h_.1)))) hb); replace HO1036 := am (Kd.R_below (rl ((Kd.R_mono (Kd.R_mono (Kd.R_far (p := ⟨gb1056, 3, none⟩) (Kd.R_far (p := ⟨gb1056, 2, none⟩) (Kd.R_far (p := ⟨gb1056, 1, none⟩) (Kd.R_far (p := ⟨gb1056, 0, none⟩) (Kd.R_far (p := ⟨gb1055, 3, none⟩) (Kd.R_far (p := ⟨gb1055, 2, none⟩) (Kd.R_far (p := ⟨gb1055, 1, none⟩) (Kd.R_far (p := ⟨gb1055, 0, none⟩) (Kd.R_types (Kd.R_types HO1036.out BK1055.out (by decide)) BK1056.out (by decide)) (fun _ hk => by first | exact hk.1.2 | (simp only [ne_eq] at hk ⊢; simp only [hk, not_false_eq_true, and_self])) (.slice Ao45 t1031.length co45)) (fun _ hk => by first | exact hk.1.2 | (simp only [ne_eq] at hk ⊢; simp only [hk, not_false_eq_true, and_self])) (.slice Ao48 t1034.length co48)) (fun _ hk => by first | exact hk.1.2 | (simp only [ne_eq] at hk ⊢; simp only [hk, not_false_eq_true, and_self])) (.slice Ao49 t1037.length co49)) (fun _ hk => by first | exact hk.1.2 | (simp only [ne_eq] at hk ⊢; simp only [hk, not_false_eq_true, and_self])) (.slice Ao50 t1040.length co50)) (fun _ hk => hk.2) (.slice Ao51 t1043.length co51)) (fun _ hk => hk.2) (.slice Ao53 t1046.length co53)) (fun _ hk => hk.2) (.slice Ao54 t1049.length co54)) (fun _ hk => hk.2) (.slice Ao55 t1052.length co55)) (fun _ h_ => h_.1)) (fun _ h_ => h_.1)))) hb); replace HO1039 := am (Kd.R_below (rl ((Kd.R_mono (Kd.R_mono (Kd.R_far (p := ⟨gb1056, 3, none⟩) (Kd.R_far (p := ⟨gb1056, 2, none⟩) (Kd.R_far (p := ⟨gb1056, 1, none⟩) (Kd.R_far (p := ⟨gb1056, 0, none⟩) (Kd.R_far (p := ⟨gb1055, 3, none⟩) (Kd.R_far (p := ⟨gb1055, 2, none⟩) (Kd.R_far (p := ⟨gb1055, 1, none⟩) (Kd.R_far (p := ⟨gb1055, 0, none⟩) (Kd.R_types (Kd.R_types HO1039.out BK1055.out (by decide)) BK1056.out (by decide)) (fun _ hk => by first | exact hk.1.2 | (simp only [ne_eq] at hk ⊢; simp only [hk, not_false_eq_true, and_self])) (.slice Ao45 t1031.length co45)) (fun _ hk => by first | exact hk.1.2 | (simp only [ne_eq] at hk ⊢; simp only [hk, not_false_eq_true, and_self])) (.slice Ao48 t1034.length co48)) (fun _ hk => by first | exact hk.1.2 | (simp only [ne_eq] at hk ⊢; simp only [hk, not_false_eq_true, and_self])) (.slice Ao49 t1037.length co49)) (fun _ hk => by first | exact hk.1.2 | (simp only [ne_eq] at hk ⊢; simp only [hk, not_false_eq_true, and_self])) (.slice Ao50 t1040.length co50)) (fun _ hk => hk.2) (.slice Ao51 t1043.length co51)) (fun _ hk => hk.2) (.slice Ao53 t1046.length co53)) (fun _ hk => hk.2) (.slice Ao54 t1049.length co54)) (fun _ hk => hk.2) (.slice Ao55 t1052.length co55)) (fun _ h_ => h_.1)) (fun _ h_ => h_.1)))) hb); replace HO1042 := am (Kd.R_below (rl ((Kd.R_mono (Kd.R_mono (Kd.R_far (p := ⟨gb1056, 3, none⟩) (Kd.R_far (p := ⟨gb1056, 2, none⟩) (Kd.R_far (p := ⟨gb1056, 1, none⟩) (Kd.R_far (p := ⟨gb1056, 0, none⟩) (Kd.R_far (p := ⟨gb1055, 3, none⟩) (Kd.R_far (p := ⟨gb1055, 2, none⟩) (Kd.R_far (p := ⟨gb1055, 1, none⟩) (Kd.R_far (p := ⟨gb1055, 0, none⟩) (Kd.R_types (Kd.R_types HO1042.out BK1055.out (by decide)) BK1056.out (by decide)) (fun _ hk => by first | exact hk.1.2 | (simp only [ne_eq] at hk ⊢; simp only [hk, not_false_eq_true, and_self])) (.slice Ao45 t1031.length co45)) (fun _ hk => by first | exact hk.1.2 | (simp only [ne_eq] at hk ⊢; simp only [hk, not_false_eq_true, and_self])) (.slice Ao48 t1034.length co48)) (fun _ hk => by first | exact hk.1.2 | (simp only [ne_eq] at hk ⊢; simp only [hk, not_false_eq_true, and_self])) (.slice Ao49 t1037.length co49)) (fun _ hk => by first | exact hk.1.2 | (simp only [ne_eq] at hk ⊢; simp only [hk, not_false_eq_true, and_self])) (.slice Ao50 t1040.length co50)) (fun _ hk => hk.2) (.slice Ao51 t1043.length co51)) (fun _ hk => hk.2) (.slice Ao53 t1046.length co53)) (fun _ hk => hk.2) (.slice Ao54 t1049.length co54)) (fun _ hk => hk.2) (.slice Ao55 t1052.length co55)) (fun _ h_ => h_.1)) (fun _ h_ => h_.1)))) hb); replace HO1045 := am (Kd.R_below (rl ((Kd.R_mono (Kd.R_mono (Kd.R_far (p := ⟨gb1056, 3, none⟩) (Kd.R_far (p := ⟨gb1056, 2, none⟩) (Kd.R_far (p := ⟨gb1056, 1, none⟩) (Kd.R_far (p := ⟨gb1056, 0, none⟩) (Kd.R_far (p := ⟨gb1055, 3, none⟩) (Kd.R_far (p := ⟨gb1055, 2, none⟩) (Kd.R_far (p := ⟨gb1055, 1, none⟩) (Kd.R_far (p := ⟨gb1055, 0, none⟩) (Kd.R_types (Kd.R_types HO1045.out BK1055.out (by decide)) BK1056.out (by decide)) (fun _ hk => by first | exact hk.1.2 | (simp only [ne_eq] at hk ⊢; simp only [hk, not_false_eq_true, and_self])) (.slice Ao45 t1031.length co45)) (fun _ hk => by first | exact hk.1.2 | (simp only [ne_eq] at hk ⊢; simp only [hk, not_false_eq_true, and_self])) (.slice Ao48 t1034.length co48)) (fun _ hk => by first | exact hk.1.2 | (simp only [ne_eq] at hk ⊢; simp only [hk, not_false_eq_true, and_self])) (.slice Ao49 t1037.length co49)) (fun _ hk => by first | exact hk.1.2 | (simp only [ne_eq] at hk ⊢; simp only [hk, not_false_eq_true, and_self])) (.slice Ao50 t1040.length co50)) (fun _ hk => hk.2) (.slice Ao51 t1043.length co51)) (fun _ hk => hk.2) (.slice Ao53 t1046.length co53)) (fun _ hk => hk.2) (.slice Ao54 t1049.length co54)) (fun _ hk => hk.2) (.slice Ao55 t1052.length co55)) (fun _ h_ => h_.1)) (fun _ h_ => h_.1)))) hb); replace HO1048 := am (Kd.R_below (rl ((Kd.R_mono (Kd.R_mono (Kd.R_far (p := ⟨gb1056, 3, none⟩) (Kd.R_far (p := ⟨gb1056, 2, none⟩) (Kd.R_far (p := ⟨gb1056, 1, none⟩) (Kd.R_far (p := ⟨gb1056, 0, none⟩) (Kd.R_far (p := ⟨gb1055, 3, none⟩) (Kd.R_far (p := ⟨gb1055, 2, none⟩) (Kd.R_far (p := ⟨gb1055, 1, none⟩) (Kd.R_far (p := ⟨gb1055, 0, none⟩) (Kd.R_types (Kd.R_types HO1048.out BK1055.out (by decide)) BK1056.out (by decide)) (fun _ hk => by first | exact hk.1.2 | (simp only [ne_eq] at hk ⊢; simp only [hk, not_false_eq_true, and_self])) (.slice Ao45 t1031.length co45)) (fun _ hk => by first | exact hk.1.2 | (simp only [ne_eq] at hk ⊢; simp only [hk, not_false_eq_true, and_self])) (.slice Ao48 t1034.length co48)) (fun _ hk => by first | exact hk.1.2 | (simp only [ne_eq] at hk ⊢; simp only [hk, not_false_eq_true, and_self])) (.slice Ao49 t1037.length co49)) (fun _ hk => by first | exact hk.1.2 | (simp only [ne_eq] at hk ⊢; simp only [hk, not_false_eq_true, and_self])) (.slice Ao50 t1040.length co50)) (fun _ hk => hk.2) (.slice Ao51 t1043.length co51)) (fun _ hk => hk.2) (.slice Ao53 t1046.length co53)) (fun _ hk => hk.2) (.slice Ao54 t1049.length co54)) (fun _ hk => hk.2) (.slice Ao55 t1052.length co55)) (fun _ h_ => h_.1)) (fun _ h_ => h_.1)))) hb); replace HO1051 := am (Kd.R_below (rl ((Kd.R_mono (Kd.R_mono (Kd.R_far (p := ⟨gb1056, 3, none⟩) (Kd.R_far (p := ⟨gb1056, 2, none⟩) (Kd.R_far (p := ⟨gb1056, 1, none⟩) (Kd.R_far (p := ⟨gb1056, 0, none⟩) (Kd.R_far (p := ⟨gb1055, 3, none⟩) (Kd.R_far (p := ⟨gb1055, 2, none⟩) (Kd.R_far (p := ⟨gb1055, 1, none⟩) (Kd.R_far (p := ⟨gb1055, 0, none⟩) (Kd.R_types (Kd.R_types HO1051.out BK1055.out (by decide)) BK1056.out (by decide)) (fun _ hk => by first | exact hk.1.2 | (simp only [ne_eq] at hk ⊢; simp only [hk, not_false_eq_true, and_self])) (.slice Ao45 t1031.length co45)) (fun _ hk => by first | exact hk.1.2 | (simp only [ne_eq] at hk ⊢; simp only [hk, not_false_eq_true, and_self])) (.slice Ao48 t1034.length co48)) (fun _ hk => by first | exact hk.1.2 | (simp only [ne_eq] at hk ⊢; simp only [hk, not_false_eq_true, and_self])) (.slice Ao49 t1037.length co49)) (fun _ hk => by first | exact hk.1.2 | (simp only [ne_eq] at hk ⊢; simp only [hk, not_false_eq_true, and_self])) (.slice Ao50 t1040.length co50)) (fun _ hk => hk.2) (.slice Ao51 t1043.length co51)) (fun _ hk => hk.2) (.slice Ao53 t1046.length co53)) (fun _ hk => hk.2) (.slice Ao54 t1049.length co54)) (fun _ hk => hk.2) (.slice Ao55 t1052.length co55)) (fun _ h_ => h_.1)) (fun _ h_ => h_.1)))) hb); replace HO1054 := am (Kd.R_below (rl ((Kd.R_mono (Kd.R_mono (Kd.R_far (p := ⟨gb1056, 3, none⟩) (Kd.R_far (p := ⟨gb1056, 2, none⟩) (Kd.R_far (p := ⟨gb1056, 1, none⟩) (Kd.R_far (p := ⟨gb1056, 0, none⟩) (Kd.R_far (p := ⟨gb1055, 3, none⟩) (Kd.R_far (p := ⟨gb1055, 2, none⟩) (Kd.R_far (p := ⟨gb1055, 1, none⟩) (Kd.R_far (p := ⟨gb1055, 0, none⟩) (Kd.R_types (Kd.R_types HO1054.out BK1055.out (by decide)) BK1056.out (by decide)) (fun _ hk => by first | exact hk.1.2 | (simp only [ne_eq] at hk ⊢; simp only [hk, not_false_eq_true, and_self])) (.slice Ao45 t1031.length co45)) (fun _ hk => by first | exact hk.1.2 | (simp only [ne_eq] at hk ⊢; simp only [hk, not_false_eq_true, and_self])) (.slice Ao48 t1034.length co48)) (fun _ hk => by first | exact hk.1.2 | (simp only [ne_eq] at hk ⊢; simp only [hk, not_false_eq_true, and_self])) (.slice Ao49 t1037.length co49)) (fun _ hk => by first | exact hk.1.2 | (simp only [ne_eq] at hk ⊢; simp only [hk, not_false_eq_true, and_self])) (.slice Ao50 t1040.length co50)) (fun _ hk => hk.2) (.slice Ao51 t1043.length co51)) (fun _ hk => hk.2) (.slice Ao53 t1046.length co53)) (fun _ hk => hk.2) (.slice Ao54 t1049.length co54)) (fun _ hk => hk.2) (.slice Ao55 t1052.length co55)) (fun _ h_ => h_.1)) (fun _ h_ => h_.1)))) hb); replace BK1055 := am (blk_below (g := gb1055) (o := .cells #[.slice Ao45 t1031.length co45, .slice Ao48 t1034.length co48, .slice Ao49 t1037.length co49, .slice Ao50 t1040.length co50] 30 (0, 0)) (by (with_reducible repeat (first | refine blk_drewN ?_ _ | refine blk_drew ?_ | refine blk_alloc ?_ _)); refine blk_far ?_ NB1055_1056.out _; (with_reducible repeat (first | refine blk_drewN ?_ _ | refine blk_drew ?_ | refine blk_alloc ?_ _)); refine blk_far ?_ NB1055_1056.out _; (with_reducible repeat (first | refine blk_drewN ?_ _ | refine blk_drew ?_ | refine blk_alloc ?_ _)); refine blk_far ?_ NB1055_1056.out _; (with_reducible repeat (first | refine blk_drewN ?_ _ | refine blk_drew ?_ | refine blk_alloc ?_ _)); refine blk_far ?_ NB1055_1056.out _; (with_reducible repeat (first | refine blk_drewN ?_ _ | refine blk_drew ?_ | refine blk_alloc ?_ _)); refine blk_put (cs := #[.slice Ao45 t1031.length co45, .slice Ao48 t1034.length co48, .slice Ao49 t1037.length co49, .slice none 0 0]) ?_ 3 _ rfl; (with_reducible repeat (first | refine blk_drewN ?_ _ | refine blk_drew ?_ | refine blk_alloc ?_ _)); refine blk_put (cs := #[.slice Ao45 t1031.length co45, .slice Ao48 t1034.length co48, .slice none 0 0, .slice none 0 0]) ?_ 2 _ rfl; (with_reducible repeat (first | refine blk_drewN ?_ _ | refine blk_drew ?_ | refine blk_alloc ?_ _)); refine blk_put (cs := #[.slice Ao45 t1031.length co45, .slice none 0 0, .slice none 0 0, .slice none 0 0]) ?_ 1 _ rfl; (with_reducible repeat (first | refine blk_drewN ?_ _ | refine blk_drew ?_ | refine blk_alloc ?_ _)); refine blk_put (cs := #[.slice none 0 0, .slice none 0 0, .slice none 0 0, .slice none 0 0]) ?_ 0 _ rfl; (with_reducible repeat (first | refine blk_drewN ?_ _ | refine blk_drew ?_ | refine blk_alloc ?_ _)); exact BK1055.out) hb); replace BK1056 := bp4 (kf1 NB1056_1055.out BK1056.out) hb; replace HB := am (below_step (bs2 GE1055.out GE1056.out HB.out) hb); (try clear hb); (try clear hb2); (try clear hk); (try clear hi)))
      replace HO1033 := am (Kd.R_drew HO1033.out)
      replace HO1036 := am (Kd.R_drew HO1036.out)
      replace HO1039 := am (Kd.R_drew HO1039.out)
      replace HO1042 := am (Kd.R_drew HO1042.out)
      replace HO1045 := am (Kd.R_drew HO1045.out)
      replace HO1048 := am (Kd.R_drew HO1048.out)
      replace HO1051 := am (Kd.R_drew HO1051.out)
      replace HO1054 := am (Kd.R_drew HO1054.out)
      replace BK1055 := am (blk_drew BK1055.out)
      replace BK1056 := am (blk_drew BK1056.out)
      replace HB := am (below_drew1 HB.out)
      refine start_ (n := 36) (S := fun w' => w'.cell? ⟨gb1055, 0, none⟩ = some (.slice Ao45 t1031.length co45) ∧ w'.cell? ⟨gb1055, 1, none⟩ = some (.slice Ao48 t1034.length co48) ∧ w'.cell? ⟨gb1055, 2, none⟩ = some (.slice Ao49 t1037.length co49) ∧ w'.cell? ⟨gb1055, 3, none⟩ = some (.slice Ao50 t1040.length co50) ∧ w'.cell? ⟨gb1056, 0, none⟩ = some (.slice Ao51 t1043.length co51) ∧ w'.cell? ⟨gb1056, 1, none⟩ = some (.slice Ao53 t1046.length co53) ∧ w'.cell? ⟨gb1056, 2, none⟩ = some (.slice Ao54 t1049.length co54) ∧ w'.cell? ⟨gb1056, 3, none⟩ = some (.slice Ao55 t1052.length co55)) (ds := []) #[false, false, false, false, false, false, false, false, false, false, false, false, false, false, false, false, false, false, false, false, false, false, false, false, false, false, false, false, false, false, false, false, false, false, false, false] (by kernel_rfl) rfl rfl ⟨(blk_cell BK1055.out 0).trans rfl, (blk_cell BK1055.out 1).trans rfl, (blk_cell BK1055.out 2).trans rfl, (blk_cell BK1055.out 3).trans rfl, (blk_cell BK1056.out 0).trans rfl, (blk_cell BK1056.out 1).trans rfl, (blk_cell BK1056.out 2).trans rfl, (blk_cell BK1056.out 3).trans rfl⟩ (fun hHeld => ?_); refine with_tabW laws_FnColoredSame.tab5 laws_FnColoredSame.bits5 (fun HT_ HW_ => ?_)
      generalize w56.drew = w57 at HO1033 HO1036 HO1039 HO1042 HO1045 HO1048 HO1051 HO1054 BK1055 BK1056 HB hHeld ⊢
      refine pure_ (i := 0) (N := some 17) (v := ?_) (a' := ?_) #[true, false, false, false, false, false, false, false, false, false, false, false, false, false, false, false, false, false, false, false, false, false, false, false, false, false, false, false, false, false, false, false, false, false, false, false] rfl rfl (any_of HT_.out (by kernel_rfl)) (fun _ _ _ h => h) (Or.inl ⟨by rfl, ?_⟩) ?_ ?_
      rotate_left
      ·intro w'
       go_simp
       with_reducible rfl
      rotate_left
      ·simp only [Act.put, List.setIfInBounds_toArray, List.set_cons_zero, List.set_cons_succ, i64_w, i32_w]
       rfl
      refine take_ (i := 1) (N := some 18) (v := ?_) (a' := ?_) #[true, true, false, false, false, false, false, false, false, false, false, false, false, false, false, false, false, false, false, false, false, false, false, false, false, false, false, false, false, false, false, false, false, false, false, false] rfl rfl (take_ofW HT_.out HW_.out (by kernel_rfl)) (fun _ _ _ h => h) (Or.inl ⟨by rfl, ?_⟩) hHeld ?_ ?_
      rotate_left
      ·rintro w' ⟨s0, s1, s2, s3, s4, s5, s6, s7⟩
       go_simp
       with_reducible rfl
      rotate_left
      ·simp only [Act.put, List.setIfInBounds_toArray, List.set_cons_zero, List.set_cons_succ, i64_w, i32_w]
       rfl
      refine take_ (i := 2) (N := some 19) (v := ?_) (a' := ?_) #[true, true, true, false, false, false, false, false, false, false, false, false, false, false, false, false, false, false, false, false, false, false, false, false, false, false, false, false, false, false, false, false, false, false, false, false] rfl rfl (take_ofW HT_.out HW_.out (by kernel_rfl)) (fun _ _ _ h => h) (Or.inl ⟨by rfl, ?_⟩) hHeld ?_ ?_
      rotate_left
      ·rintro w' ⟨s0, s1, s2, s3, s4, s5, s6, s7⟩
       go_simp
       with_reducible rfl
      rotate_left
      ·simp only [Act.put, List.setIfInBounds_toArray, List.set_cons_zero, List.set_cons_succ, i64_w, i32_w]
       rfl
      refine one_ (i := 3) (N := some 20) #[true, true, true, true, false, false, false, false, false, false, false, false, false, false, false, false, false, false, false, false, false, false, false, false, false, false, false, false, false, false, false, false, false, false, false, false] rfl rfl (one_of HT_.out (by kernel_rfl)) (by decide) (fun K hK => ?_)
      refine goes_ Try.func35 (by kernel_rfl) rfl #[.agg #[.slice Ao45 t1031.length co45, .slice Ao48 t1034.length co48, .slice Ao49 t1037.length co49, .slice Ao50 t1040.length co50], .agg #[.slice Ao51 t1043.length co51, .slice Ao53 t1046.length co53, .slice Ao54 t1049.length co54, .slice Ao55 t1052.length co55]] (by rfl) rfl rfl (by (try simp only [List.map_toArray, List.map_cons, List.map_nil]); first | done | rfl | (simp only [List.length_drop, List.length_take]; rfl)) ?_
      with_reducible refine (spec_ColoredSame.calls k _ _ t1031 _ _ t1034 _ _ t1037 _ _ t1040 _ _ t1043 _ _ t1046 _ _ t1049 _ _ t1052 t1058 _ ?side1 ?side2 ?side3 ?side4 ?side5 ?side6 ?side7 ?side8 ?side9 ?side10 ?side11 ?side12 ?side13 ?side14 ?side15 ?side16 A5.out).mono ?_
      (case side1 => exact cl ((Kd.R_reads' HO1033.out).2.2))
      (case side2 => exact sc HO1033)
      (case side3 => exact cl ((Kd.R_reads' HO1036.out).2.2))
      (case side4 => exact sc HO1036)
      (case side5 => exact cl ((Kd.R_reads' HO1039.out).2.2))
      (case side6 => exact sc HO1039)
      (case side7 => exact cl ((Kd.R_reads' HO1042.out).2.2))
      (case side8 => exact sc HO1042)
      (case side9 => exact cl ((Kd.R_reads' HO1045.out).2.2))
      (case side10 => exact sc HO1045)
      (case side11 => exact cl ((Kd.R_reads' HO1048.out).2.2))
      (case side12 => exact sc HO1048)
      (case side13 => exact cl ((Kd.R_reads' HO1051.out).2.2))
      (case side14 => exact sc HO1051)
      (case side15 => exact cl ((Kd.R_reads' HO1054.out).2.2))
      (case side16 => exact sc HO1054)
      rintro e w58 ⟨rfl, hb⟩
      refine ⟨_, rfl, ?_⟩
      replace HO1033 := rb HO1033 hb
      replace HO1036 := rb HO1036 hb
      replace HO1039 := rb HO1039 hb
      replace HO1042 := rb HO1042 hb
      replace HO1045 := rb HO1045 hb
      replace HO1048 := rb HO1048 hb
      replace HO1051 := rb HO1051 hb
      replace HO1054 := rb HO1054 hb
      replace BK1055 := bb BK1055 hb
      replace BK1056 := bb BK1056 hb
      replace HB := am (below_step (bs2 GE1055.out GE1056.out HB.out) hb)
      (try clear hb)
      refine hK.out _ _ ⟨(blk_cell BK1055.out 0).trans rfl, (blk_cell BK1055.out 1).trans rfl, (blk_cell BK1055.out 2).trans rfl, (blk_cell BK1055.out 3).trans rfl, (blk_cell BK1056.out 0).trans rfl, (blk_cell BK1056.out 1).trans rfl, (blk_cell BK1056.out 2).trans rfl, (blk_cell BK1056.out 3).trans rfl⟩ (fun hHeld => ?_)
      clear hK K
      refine norm_ (a' := ?_) ?_ ?_
      rotate_left
      ·show Act.put _ (some 20) _ = _
       simp only [Act.put, List.setIfInBounds_toArray, List.set_cons_zero, List.set_cons_succ, i64_w, i32_w]
       rfl
      refine pure_ (i := 4) (N := some 21) (v := ?_) (a' := ?_) #[true, true, true, true, true, false, false, false, false, false, false, false, false, false, false, false, false, false, false, false, false, false, false, false, false, false, false, false, false, false, false, false, false, false, false, false] rfl rfl (any_of HT_.out (by kernel_rfl)) (fun _ _ _ h => h) (Or.inl ⟨by rfl, ?_⟩) ?_ ?_
      rotate_left
      ·intro w'
       go_simp
       with_reducible rfl
      rotate_left
      ·simp only [Act.put, List.setIfInBounds_toArray, List.set_cons_zero, List.set_cons_succ, i64_w, i32_w]
       rfl
      refine pure_ (i := 5) (N := some 22) (v := ?_) (a' := ?_) #[true, true, true, true, true, true, false, false, false, false, false, false, false, false, false, false, false, false, false, false, false, false, false, false, false, false, false, false, false, false, false, false, false, false, false, false] rfl rfl (any_of HT_.out (by kernel_rfl)) (fun _ _ _ h => h) (Or.inl ⟨by rfl, ?_⟩) ?_ ?_
      rotate_left
      ·intro w'
       go_simp
       with_reducible rfl
      rotate_left
      ·simp only [Act.put, List.setIfInBounds_toArray, List.set_cons_zero, List.set_cons_succ, i64_w, i32_w]
       rfl
      refine pure_ (i := 6) (N := some 23) (v := ?_) (a' := ?_) #[true, true, true, true, true, true, true, false, false, false, false, false, false, false, false, false, false, false, false, false, false, false, false, false, false, false, false, false, false, false, false, false, false, false, false, false] rfl rfl (any_of HT_.out (by kernel_rfl)) (fun _ _ _ h => h) (Or.inl ⟨by rfl, ?_⟩) ?_ ?_
      rotate_left
      ·intro w'
       go_simp
       with_reducible rfl
      rotate_left
      ·simp only [Act.put, List.setIfInBounds_toArray, List.set_cons_zero, List.set_cons_succ, i64_w, i32_w]
       rfl
      refine take_ (i := 7) (N := some 24) (v := ?_) (a' := ?_) #[true, true, true, true, true, true, true, true, false, false, false, false, false, false, false, false, false, false, false, false, false, false, false, false, false, false, false, false, false, false, false, false, false, false, false, false] rfl rfl (take_ofW HT_.out HW_.out (by kernel_rfl)) (fun _ _ _ h => h) (Or.inl ⟨by rfl, ?_⟩) hHeld ?_ ?_
      rotate_left
      ·rintro w' ⟨s0, s1, s2, s3, s4, s5, s6, s7⟩
       go_simp
       with_reducible rfl
      rotate_left
      ·simp only [Act.put, List.setIfInBounds_toArray, List.set_cons_zero, List.set_cons_succ, i64_w, i32_w]
       rfl
      refine take_ (i := 8) (N := some 25) (v := ?_) (a' := ?_) #[true, true, true, true, true, true, true, true, true, false, false, false, false, false, false, false, false, false, false, false, false, false, false, false, false, false, false, false, false, false, false, false, false, false, false, false] rfl rfl (take_ofW HT_.out HW_.out (by kernel_rfl)) (fun _ _ _ h => h) (Or.inl ⟨by rfl, ?_⟩) hHeld ?_ ?_
      rotate_left
      ·rintro w' ⟨s0, s1, s2, s3, s4, s5, s6, s7⟩
       go_simp
       with_reducible rfl
      rotate_left
      ·simp only [Act.put, List.setIfInBounds_toArray, List.set_cons_zero, List.set_cons_succ, i64_w, i32_w]
       rfl
      refine one_ (i := 9) (N := some 26) #[true, true, true, true, true, true, true, true, true, true, false, false, false, false, false, false, false, false, false, false, false, false, false, false, false, false, false, false, false, false, false, false, false, false, false, false] rfl rfl (one_of HT_.out (by kernel_rfl)) (by decide) (fun K hK => ?_)
      refine goes_ Try.func34 (by kernel_rfl) rfl #[.agg #[.slice Ao51 t1043.length co51, .slice Ao53 t1046.length co53, .slice Ao54 t1049.length co54, .slice Ao55 t1052.length co55], .agg #[.slice Ao45 t1031.length co45, .slice Ao48 t1034.length co48, .slice Ao49 t1037.length co49, .slice Ao50 t1040.length co50]] (by rfl) rfl rfl (by (try simp only [List.map_toArray, List.map_cons, List.map_nil]); first | done | rfl | (simp only [List.length_drop, List.length_take]; rfl)) ?_
      with_reducible refine (impl_ColoredSame.calls k _ _ t1043 _ _ t1046 _ _ t1049 _ _ t1052 _ _ t1031 _ _ t1034 _ _ t1037 _ _ t1040 t1059 _ ?side1 ?side2 ?side3 ?side4 ?side5 ?side6 ?side7 ?side8 ?side9 ?side10 ?side11 ?side12 ?side13 ?side14 ?side15 ?side16 A7.out).mono ?_
      (case side1 => exact cl ((Kd.R_reads' HO1045.out).2.2))
      (case side2 => exact sc HO1045)
      (case side3 => exact cl ((Kd.R_reads' HO1048.out).2.2))
      (case side4 => exact sc HO1048)
      (case side5 => exact cl ((Kd.R_reads' HO1051.out).2.2))
      (case side6 => exact sc HO1051)
      (case side7 => exact cl ((Kd.R_reads' HO1054.out).2.2))
      (case side8 => exact sc HO1054)
      (case side9 => exact cl ((Kd.R_reads' HO1033.out).2.2))
      (case side10 => exact sc HO1033)
      (case side11 => exact cl ((Kd.R_reads' HO1036.out).2.2))
      (case side12 => exact sc HO1036)
      (case side13 => exact cl ((Kd.R_reads' HO1039.out).2.2))
      (case side14 => exact sc HO1039)
      (case side15 => exact cl ((Kd.R_reads' HO1042.out).2.2))
      (case side16 => exact sc HO1042)
      rintro e w59 ⟨rfl, hb⟩
      refine ⟨_, rfl, ?_⟩
      replace HO1033 := rb HO1033 hb
      replace HO1036 := rb HO1036 hb
      replace HO1039 := rb HO1039 hb
      replace HO1042 := rb HO1042 hb
      replace HO1045 := rb HO1045 hb
      replace HO1048 := rb HO1048 hb
      replace HO1051 := rb HO1051 hb
      replace HO1054 := rb HO1054 hb
      replace BK1055 := bb BK1055 hb
      replace BK1056 := bb BK1056 hb
      replace HB := am (below_step (bs2 GE1055.out GE1056.out HB.out) hb)
      (try clear hb)
      refine hK.out _ _ ⟨(blk_cell BK1055.out 0).trans rfl, (blk_cell BK1055.out 1).trans rfl, (blk_cell BK1055.out 2).trans rfl, (blk_cell BK1055.out 3).trans rfl, (blk_cell BK1056.out 0).trans rfl, (blk_cell BK1056.out 1).trans rfl, (blk_cell BK1056.out 2).trans rfl, (blk_cell BK1056.out 3).trans rfl⟩ (fun hHeld => ?_)
      clear hK K
      refine norm_ (a' := ?_) ?_ ?_
      rotate_left
      ·show Act.put _ (some 26) _ = _
       simp only [Act.put, List.setIfInBounds_toArray, List.set_cons_zero, List.set_cons_succ, i64_w, i32_w]
       rfl
      refine pure_ (i := 10) (N := some 27) (v := ?_) (a' := ?_) #[true, true, true, true, true, true, true, true, true, true, true, false, false, false, false, false, false, false, false, false, false, false, false, false, false, false, false, false, false, false, false, false, false, false, false, false] rfl rfl (any_of HT_.out (by kernel_rfl)) (fun _ _ _ h => h) (Or.inl ⟨by rfl, ?_⟩) ?_ ?_
      rotate_left
      ·intro w'
       go_simp
       with_reducible rfl
      rotate_left
      ·simp only [Act.put, List.setIfInBounds_toArray, List.set_cons_zero, List.set_cons_succ, i64_w, i32_w]
       rfl
      refine pure_ (i := 11) (N := some 28) (v := ?_) (a' := ?_) #[true, true, true, true, true, true, true, true, true, true, true, true, false, false, false, false, false, false, false, false, false, false, false, false, false, false, false, false, false, false, false, false, false, false, false, false] rfl rfl (any_of HT_.out (by kernel_rfl)) (fun _ _ _ h => h) (Or.inl ⟨by rfl, ?_⟩) ?_ ?_
      rotate_left
      ·intro w'
       go_simp
       with_reducible rfl
      rotate_left
      ·simp only [Act.put, List.setIfInBounds_toArray, List.set_cons_zero, List.set_cons_succ, i64_w, i32_w]
       rfl
      refine pure_ (i := 12) (N := some 29) (v := ?_) (a' := ?_) #[true, true, true, true, true, true, true, true, true, true, true, true, true, false, false, false, false, false, false, false, false, false, false, false, false, false, false, false, false, false, false, false, false, false, false, false] rfl rfl (any_of HT_.out (by kernel_rfl)) (fun _ _ _ h => h) (Or.inl ⟨by rfl, ?_⟩) ?_ ?_
      rotate_left
      ·intro w'
       go_simp
       with_reducible rfl
      rotate_left
      ·simp only [Act.put, List.setIfInBounds_toArray, List.set_cons_zero, List.set_cons_succ, i64_w, i32_w]
       rfl
      refine take_ (i := 13) (N := some 30) (v := ?_) (a' := ?_) #[true, true, true, true, true, true, true, true, true, true, true, true, true, true, false, false, false, false, false, false, false, false, false, false, false, false, false, false, false, false, false, false, false, false, false, false] rfl rfl (take_ofW HT_.out HW_.out (by kernel_rfl)) (fun _ _ _ h => h) (Or.inl ⟨by rfl, ?_⟩) hHeld ?_ ?_
      rotate_left
      ·rintro w' ⟨s0, s1, s2, s3, s4, s5, s6, s7⟩
       go_simp
       with_reducible rfl
      rotate_left
      ·simp only [Act.put, List.setIfInBounds_toArray, List.set_cons_zero, List.set_cons_succ, i64_w, i32_w]
       rfl
      refine take_ (i := 14) (N := some 31) (v := ?_) (a' := ?_) #[true, true, true, true, true, true, true, true, true, true, true, true, true, true, true, false, false, false, false, false, false, false, false, false, false, false, false, false, false, false, false, false, false, false, false, false] rfl rfl (take_ofW HT_.out HW_.out (by kernel_rfl)) (fun _ _ _ h => h) (Or.inl ⟨by rfl, ?_⟩) hHeld ?_ ?_
      rotate_left
      ·rintro w' ⟨s0, s1, s2, s3, s4, s5, s6, s7⟩
       go_simp
       with_reducible rfl
      rotate_left
      ·simp only [Act.put, List.setIfInBounds_toArray, List.set_cons_zero, List.set_cons_succ, i64_w, i32_w]
       rfl
      refine one_ (i := 15) (N := some 32) #[true, true, true, true, true, true, true, true, true, true, true, true, true, true, true, true, false, false, false, false, false, false, false, false, false, false, false, false, false, false, false, false, false, false, false, false] rfl rfl (one_of HT_.out (by kernel_rfl)) (by decide) (fun K hK => ?_)
      refine goes_ Try.func34 (by kernel_rfl) rfl #[.agg #[.slice Ao45 t1031.length co45, .slice Ao48 t1034.length co48, .slice Ao49 t1037.length co49, .slice Ao50 t1040.length co50], .agg #[.slice Ao45 t1031.length co45, .slice Ao48 t1034.length co48, .slice Ao49 t1037.length co49, .slice Ao50 t1040.length co50]] (by rfl) rfl rfl (by (try simp only [List.map_toArray, List.map_cons, List.map_nil]); first | done | rfl | (simp only [List.length_drop, List.length_take]; rfl)) ?_
      with_reducible refine (impl_ColoredSame.calls k _ _ t1031 _ _ t1034 _ _ t1037 _ _ t1040 _ _ t1031 _ _ t1034 _ _ t1037 _ _ t1040 true _ ?side1 ?side2 ?side3 ?side4 ?side5 ?side6 ?side7 ?side8 ?side9 ?side10 ?side11 ?side12 ?side13 ?side14 ?side15 ?side16 A9.out).mono ?_
      (case side1 => exact cl ((Kd.R_reads' HO1033.out).2.2))
      (case side2 => exact sc HO1033)
      (case side3 => exact cl ((Kd.R_reads' HO1036.out).2.2))
      (case side4 => exact sc HO1036)
      (case side5 => exact cl ((Kd.R_reads' HO1039.out).2.2))
      (case side6 => exact sc HO1039)
      (case side7 => exact cl ((Kd.R_reads' HO1042.out).2.2))
      (case side8 => exact sc HO1042)
      (case side9 => exact cl ((Kd.R_reads' HO1033.out).2.2))
      (case side10 => exact sc HO1033)
      (case side11 => exact cl ((Kd.R_reads' HO1036.out).2.2))
      (case side12 => exact sc HO1036)
      (case side13 => exact cl ((Kd.R_reads' HO1039.out).2.2))
      (case side14 => exact sc HO1039)
      (case side15 => exact cl ((Kd.R_reads' HO1042.out).2.2))
      (case side16 => exact sc HO1042)
      rintro e w60 ⟨rfl, hb⟩
      refine ⟨_, rfl, ?_⟩
      replace HO1033 := rb HO1033 hb
      replace HO1036 := rb HO1036 hb
      replace HO1039 := rb HO1039 hb
      replace HO1042 := rb HO1042 hb
      replace HO1045 := rb HO1045 hb
      replace HO1048 := rb HO1048 hb
      replace HO1051 := rb HO1051 hb
      replace HO1054 := rb HO1054 hb
      replace BK1055 := bb BK1055 hb
      replace BK1056 := bb BK1056 hb
      replace HB := am (below_step (bs2 GE1055.out GE1056.out HB.out) hb)
      (try clear hb)
      refine hK.out _ _ ⟨(blk_cell BK1055.out 0).trans rfl, (blk_cell BK1055.out 1).trans rfl, (blk_cell BK1055.out 2).trans rfl, (blk_cell BK1055.out 3).trans rfl, (blk_cell BK1056.out 0).trans rfl, (blk_cell BK1056.out 1).trans rfl, (blk_cell BK1056.out 2).trans rfl, (blk_cell BK1056.out 3).trans rfl⟩ (fun hHeld => ?_)
      clear hK K
      refine norm_ (a' := ?_) ?_ ?_
      rotate_left
      ·show Act.put _ (some 32) _ = _
       simp only [Act.put, List.setIfInBounds_toArray, List.set_cons_zero, List.set_cons_succ, i64_w, i32_w]
       rfl
      refine pure_ (i := 16) (N := some 33) (v := ?_) (a' := ?_) #[true, true, true, true, true, true, true, true, true, true, true, true, true, true, true, true, true, false, false, false, false, false, false, false, false, false, false, false, false, false, false, false, false, false, false, false] rfl rfl (any_of HT_.out (by kernel_rfl)) (fun _ _ _ h => h) (Or.inl ⟨by rfl, ?_⟩) ?_ ?_
      rotate_left
      ·intro w'
       go_simp
       with_reducible rfl
      rotate_left
      ·simp only [Act.put, List.setIfInBounds_toArray, List.set_cons_zero, List.set_cons_succ, i64_w, i32_w]
       rfl
      refine pure_ (i := 17) (N := some 34) (v := ?_) (a' := ?_) #[true, true, true, true, true, true, true, true, true, true, true, true, true, true, true, true, true, true, false, false, false, false, false, false, false, false, false, false, false, false, false, false, false, false, false, false] rfl rfl (any_of HT_.out (by kernel_rfl)) (fun _ _ _ h => h) (Or.inl ⟨by rfl, ?_⟩) ?_ ?_
      rotate_left
      ·intro w'
       go_simp
       with_reducible rfl
      rotate_left
      ·simp only [Act.put, List.setIfInBounds_toArray, List.set_cons_zero, List.set_cons_succ, i64_w, i32_w]
       rfl
      refine pure_ (i := 18) (N := some 35) (v := ?_) (a' := ?_) #[true, true, true, true, true, true, true, true, true, true, true, true, true, true, true, true, true, true, true, false, false, false, false, false, false, false, false, false, false, false, false, false, false, false, false, false] rfl rfl (any_of HT_.out (by kernel_rfl)) (fun _ _ _ h => h) (Or.inl ⟨by rfl, ?_⟩) ?_ ?_
      rotate_left
      ·intro w'
       go_simp
       with_reducible rfl
      rotate_left
      ·simp only [Act.put, List.setIfInBounds_toArray, List.set_cons_zero, List.set_cons_succ, i64_w, i32_w]
       rfl
      refine pure_ (i := 19) (N := some 36) (v := ?_) (a' := ?_) #[true, true, true, true, true, true, true, true, true, true, true, true, true, true, true, true, true, true, true, true, false, false, false, false, false, false, false, false, false, false, false, false, false, false, false, false] rfl rfl (any_of HT_.out (by kernel_rfl)) (fun _ _ _ h => h) (Or.inl ⟨by rfl, ?_⟩) ?_ ?_
      rotate_left
      ·intro w'
       go_simp
       with_reducible rfl
      rotate_left
      ·simp only [Act.put, List.setIfInBounds_toArray, List.set_cons_zero, List.set_cons_succ, i64_w, i32_w]
       rfl
      refine pure_ (i := 20) (N := some 37) (v := ?_) (a' := ?_) #[true, true, true, true, true, true, true, true, true, true, true, true, true, true, true, true, true, true, true, true, true, false, false, false, false, false, false, false, false, false, false, false, false, false, false, false] rfl rfl (any_of HT_.out (by kernel_rfl)) (fun _ _ _ h => h) (Or.inl ⟨by rfl, ?_⟩) ?_ ?_
      rotate_left
      ·intro w'
       go_simp
       with_reducible rfl
      rotate_left
      ·simp only [Act.put, List.setIfInBounds_toArray, List.set_cons_zero, List.set_cons_succ, i64_w, i32_w]
       rfl
      refine pure_ (i := 21) (N := some 38) (v := undef) (a' := ?_) #[true, true, true, true, true, true, true, true, true, true, true, true, true, true, true, true, true, true, true, true, true, true, false, false, false, false, false, false, false, false, false, false, false, false, false, false] rfl rfl (any_of HT_.out (by kernel_rfl)) (fun _ _ _ h => h) (Or.inr ⟨by rfl, rfl⟩) ?_ ?_
      rotate_left
      ·simp only [Act.put, List.setIfInBounds_toArray, List.set_cons_zero, List.set_cons_succ, i64_w, i32_w]
       rfl
      refine pure_ (i := 22) (N := some 39) (v := undef) (a' := ?_) #[true, true, true, true, true, true, true, true, true, true, true, true, true, true, true, true, true, true, true, true, true, true, true, false, false, false, false, false, false, false, false, false, false, false, false, false] rfl rfl (any_of HT_.out (by kernel_rfl)) (fun _ _ _ h => h) (Or.inr ⟨by rfl, rfl⟩) ?_ ?_
      rotate_left
      ·simp only [Act.put, List.setIfInBounds_toArray, List.set_cons_zero, List.set_cons_succ, i64_w, i32_w]
       rfl
      refine pure_ (i := 23) (N := some 40) (v := undef) (a' := ?_) #[true, true, true, true, true, true, true, true, true, true, true, true, true, true, true, true, true, true, true, true, true, true, true, true, false, false, false, false, false, false, false, false, false, false, false, false] rfl rfl (any_of HT_.out (by kernel_rfl)) (fun _ _ _ h => h) (Or.inr ⟨by rfl, rfl⟩) ?_ ?_
      rotate_left
      ·simp only [Act.put, List.setIfInBounds_toArray, List.set_cons_zero, List.set_cons_succ, i64_w, i32_w]
       rfl
      refine pure_ (i := 24) (N := some 41) (v := undef) (a' := ?_) #[true, true, true, true, true, true, true, true, true, true, true, true, true, true, true, true, true, true, true, true, true, true, true, true, true, false, false, false, false, false, false, false, false, false, false, false] rfl rfl (any_of HT_.out (by kernel_rfl)) (fun _ _ _ h => h) (Or.inr ⟨by rfl, rfl⟩) ?_ ?_
      rotate_left
      ·simp only [Act.put, List.setIfInBounds_toArray, List.set_cons_zero, List.set_cons_succ, i64_w, i32_w]
       rfl
      refine pure_ (i := 25) (N := some 42) (v := undef) (a' := ?_) #[true, true, true, true, true, true, true, true, true, true, true, true, true, true, true, true, true, true, true, true, true, true, true, true, true, true, false, false, false, false, false, false, false, false, false, false] rfl rfl (any_of HT_.out (by kernel_rfl)) (fun _ _ _ h => h) (Or.inr ⟨by rfl, rfl⟩) ?_ ?_
      rotate_left
      ·simp only [Act.put, List.setIfInBounds_toArray, List.set_cons_zero, List.set_cons_succ, i64_w, i32_w]
       rfl
      refine pure_ (i := 26) (N := some 43) (v := ?_) (a' := ?_) #[true, true, true, true, true, true, true, true, true, true, true, true, true, true, true, true, true, true, true, true, true, true, true, true, true, true, true, false, false, false, false, false, false, false, false, false] rfl rfl (any_of HT_.out (by kernel_rfl)) (fun _ _ _ h => h) (Or.inl ⟨by rfl, ?_⟩) ?_ ?_
      rotate_left
      ·intro w'
       go_simp
       with_reducible rfl
      rotate_left
      ·simp only [Act.put, List.setIfInBounds_toArray, List.set_cons_zero, List.set_cons_succ, i64_w, i32_w]
       rfl
      refine pure_ (i := 27) (N := some 44) (v := ?_) (a' := ?_) #[true, true, true, true, true, true, true, true, true, true, true, true, true, true, true, true, true, true, true, true, true, true, true, true, true, true, true, true, false, false, false, false, false, false, false, false] rfl rfl (any_of HT_.out (by kernel_rfl)) (fun _ _ _ h => h) (Or.inl ⟨by rfl, ?_⟩) ?_ ?_
      rotate_left
      ·intro w'
       go_simp
       with_reducible rfl
      rotate_left
      ·simp only [Act.put, List.setIfInBounds_toArray, List.set_cons_zero, List.set_cons_succ, i64_w, i32_w]
       rfl
      refine pure_ (i := 28) (N := some 45) (v := ?_) (a' := ?_) #[true, true, true, true, true, true, true, true, true, true, true, true, true, true, true, true, true, true, true, true, true, true, true, true, true, true, true, true, true, false, false, false, false, false, false, false] rfl rfl (any_of HT_.out (by kernel_rfl)) (fun _ _ _ h => h) (Or.inl ⟨by rfl, ?_⟩) ?_ ?_
      rotate_left
      ·intro w'
       go_simp
       with_reducible rfl
      rotate_left
      ·simp only [Act.put, List.setIfInBounds_toArray, List.set_cons_zero, List.set_cons_succ, i64_w, i32_w]
       rfl
      refine take_ (i := 29) (N := some 46) (v := ?_) (a' := ?_) #[true, true, true, true, true, true, true, true, true, true, true, true, true, true, true, true, true, true, true, true, true, true, true, true, true, true, true, true, true, true, false, false, false, false, false, false] rfl rfl (take_ofW HT_.out HW_.out (by kernel_rfl)) (fun _ _ _ h => h) (Or.inl ⟨by rfl, ?_⟩) hHeld ?_ ?_
      rotate_left
      ·rintro w' ⟨s0, s1, s2, s3, s4, s5, s6, s7⟩
       go_simp
       with_reducible rfl
      rotate_left
      ·simp only [Act.put, List.setIfInBounds_toArray, List.set_cons_zero, List.set_cons_succ, i64_w, i32_w]
       rfl
      refine take_ (i := 31) (N := some 48) (v := ?_) (a' := ?_) #[true, true, true, true, true, true, true, true, true, true, true, true, true, true, true, true, true, true, true, true, true, true, true, true, true, true, true, true, true, true, false, true, false, false, false, false] rfl rfl (take_ofW HT_.out HW_.out (by kernel_rfl)) (fun _ _ _ h => h) (Or.inl ⟨by rfl, ?_⟩) hHeld ?_ ?_
      rotate_left
      ·rintro w' ⟨s0, s1, s2, s3, s4, s5, s6, s7⟩
       go_simp
       with_reducible rfl
      rotate_left
      ·simp only [Act.put, List.setIfInBounds_toArray, List.set_cons_zero, List.set_cons_succ, i64_w, i32_w]
       rfl
      refine one_ (i := 30) (N := some 47) #[true, true, true, true, true, true, true, true, true, true, true, true, true, true, true, true, true, true, true, true, true, true, true, true, true, true, true, true, true, true, true, true, false, false, false, false] rfl rfl (one_of HT_.out (by kernel_rfl)) (by decide) (fun K hK => ?_)
      refine goes_ Try.func29 (by kernel_rfl) rfl #[.agg #[.slice Ao51 t1043.length co51, .slice Ao53 t1046.length co53, .slice Ao54 t1049.length co54, .slice Ao55 t1052.length co55]] (by rfl) rfl rfl (by (try simp only [List.map_toArray, List.map_cons, List.map_nil]); first | done | rfl | (simp only [List.length_drop, List.length_take]; rfl)) ?_
      with_reducible refine (impl_ColoredValid.calls k _ _ t1043 _ _ t1046 _ _ t1049 _ _ t1052 t1065 _ ?side1 ?side2 ?side3 ?side4 ?side5 ?side6 ?side7 ?side8 A40.out).mono ?_
      (case side1 => exact cl ((Kd.R_reads' HO1045.out).2.2))
      (case side2 => exact sc HO1045)
      (case side3 => exact cl ((Kd.R_reads' HO1048.out).2.2))
      (case side4 => exact sc HO1048)
      (case side5 => exact cl ((Kd.R_reads' HO1051.out).2.2))
      (case side6 => exact sc HO1051)
      (case side7 => exact cl ((Kd.R_reads' HO1054.out).2.2))
      (case side8 => exact sc HO1054)
      rintro e w61 ⟨rfl, hb⟩
      refine ⟨_, rfl, ?_⟩
      replace HO1033 := rb HO1033 hb
      replace HO1036 := rb HO1036 hb
      replace HO1039 := rb HO1039 hb
      replace HO1042 := rb HO1042 hb
      replace HO1045 := rb HO1045 hb
      replace HO1048 := rb HO1048 hb
      replace HO1051 := rb HO1051 hb
      replace HO1054 := rb HO1054 hb
      replace BK1055 := bb BK1055 hb
      replace BK1056 := bb BK1056 hb
      replace HB := am (below_step (bs2 GE1055.out GE1056.out HB.out) hb)
      (try clear hb)
      refine hK.out _ _ ⟨(blk_cell BK1055.out 0).trans rfl, (blk_cell BK1055.out 1).trans rfl, (blk_cell BK1055.out 2).trans rfl, (blk_cell BK1055.out 3).trans rfl, (blk_cell BK1056.out 0).trans rfl, (blk_cell BK1056.out 1).trans rfl, (blk_cell BK1056.out 2).trans rfl, (blk_cell BK1056.out 3).trans rfl⟩ (fun hHeld => ?_)
      clear hK K
      refine norm_ (a' := ?_) ?_ ?_
      rotate_left
      ·show Act.put _ (some 47) _ = _
       simp only [Act.put, List.setIfInBounds_toArray, List.set_cons_zero, List.set_cons_succ, i64_w, i32_w]
       rfl
      refine one_ (i := 32) (N := some 49) #[true, true, true, true, true, true, true, true, true, true, true, true, true, true, true, true, true, true, true, true, true, true, true, true, true, true, true, true, true, true, true, true, true, false, false, false] rfl rfl (one_of HT_.out (by kernel_rfl)) (by decide) (fun K hK => ?_)
      refine goes_ Try.func36 (by kernel_rfl) rfl #[.agg #[.slice Ao51 t1043.length co51, .slice Ao53 t1046.length co53, .slice Ao54 t1049.length co54, .slice Ao55 t1052.length co55]] (by rfl) rfl rfl (by (try simp only [List.map_toArray, List.map_cons, List.map_nil]); first | done | rfl | (simp only [List.length_drop, List.length_take]; rfl)) ?_
      with_reducible refine (spec_ColoredValid.calls k _ _ t1043 _ _ t1046 _ _ t1049 _ _ t1052 t1066 _ ?side1 ?side2 ?side3 ?side4 ?side5 ?side6 ?side7 ?side8 A41.out).mono ?_
      (case side1 => exact cl ((Kd.R_reads' HO1045.out).2.2))
      (case side2 => exact sc HO1045)
      (case side3 => exact cl ((Kd.R_reads' HO1048.out).2.2))
      (case side4 => exact sc HO1048)
      (case side5 => exact cl ((Kd.R_reads' HO1051.out).2.2))
      (case side6 => exact sc HO1051)
      (case side7 => exact cl ((Kd.R_reads' HO1054.out).2.2))
      (case side8 => exact sc HO1054)
      rintro e w62 ⟨rfl, hb⟩
      refine ⟨_, rfl, ?_⟩
      replace HO1033 := rb HO1033 hb
      replace HO1036 := rb HO1036 hb
      replace HO1039 := rb HO1039 hb
      replace HO1042 := rb HO1042 hb
      replace HO1045 := rb HO1045 hb
      replace HO1048 := rb HO1048 hb
      replace HO1051 := rb HO1051 hb
      replace HO1054 := rb HO1054 hb
      replace BK1055 := bb BK1055 hb
      replace BK1056 := bb BK1056 hb
      replace HB := am (below_step (bs2 GE1055.out GE1056.out HB.out) hb)
      (try clear hb)
      refine hK.out _ _ ⟨(blk_cell BK1055.out 0).trans rfl, (blk_cell BK1055.out 1).trans rfl, (blk_cell BK1055.out 2).trans rfl, (blk_cell BK1055.out 3).trans rfl, (blk_cell BK1056.out 0).trans rfl, (blk_cell BK1056.out 1).trans rfl, (blk_cell BK1056.out 2).trans rfl, (blk_cell BK1056.out 3).trans rfl⟩ (fun hHeld => ?_)
      clear hK K
      refine norm_ (a' := ?_) ?_ ?_
      rotate_left
      ·show Act.put _ (some 49) _ = _
       simp only [Act.put, List.setIfInBounds_toArray, List.set_cons_zero, List.set_cons_succ, i64_w, i32_w]
       rfl
      refine pure_ (i := 33) (N := some 50) (v := ?_) (a' := ?_) #[true, true, true, true, true, true, true, true, true, true, true, true, true, true, true, true, true, true, true, true, true, true, true, true, true, true, true, true, true, true, true, true, true, true, false, false] rfl rfl (any_of HT_.out (by kernel_rfl)) (fun _ _ _ h => h) (Or.inl ⟨by rfl, ?_⟩) ?_ ?_
      rotate_left
      ·intro w'
       go_simp
       with_reducible rfl
      rotate_left
      ·simp only [Act.put, List.setIfInBounds_toArray, List.set_cons_zero, List.set_cons_succ, i64_w, i32_w]
       rfl
      refine pure_ (i := 34) (N := some 51) (v := ?_) (a' := ?_) #[true, true, true, true, true, true, true, true, true, true, true, true, true, true, true, true, true, true, true, true, true, true, true, true, true, true, true, true, true, true, true, true, true, true, true, false] rfl rfl (any_of HT_.out (by kernel_rfl)) (fun _ _ _ h => h) (Or.inl ⟨by rfl, ?_⟩) ?_ ?_
      rotate_left
      ·intro w'
       go_simp
       with_reducible rfl
      rotate_left
      ·simp only [Act.put, List.setIfInBounds_toArray, List.set_cons_zero, List.set_cons_succ, i64_w, i32_w]
       rfl
      refine pure_ (i := 35) (N := some 2) (v := ?_) (a' := ?_) #[true, true, true, true, true, true, true, true, true, true, true, true, true, true, true, true, true, true, true, true, true, true, true, true, true, true, true, true, true, true, true, true, true, true, true, true] rfl rfl (any_of HT_.out (by kernel_rfl)) (fun _ _ _ h => h) (Or.inl ⟨by rfl, ?_⟩) ?_ ?_
      rotate_left
      ·intro w'
       go_simp
       with_reducible rfl
      rotate_left
      ·simp only [Act.put, List.setIfInBounds_toArray, List.set_cons_zero, List.set_cons_succ, i64_w, i32_w]
       rfl
      refine done_ (done_of HT_.out (by kernel_rfl)) ?_
      try go_wp2
      go_ret
      exact ⟨by first | rfl | (simp [errW_none, errW_some] <;> rfl) | (simp [*, errW_none, errW_some] <;> rfl), by exact bs2 GE1055.out GE1056.out HB.out⟩
    ·replace c10 := Bool.eq_false_iff.mpr c10
     subst c10
     have H1 : (none) = some r := by rw [if_neg (show ¬ (false = true) by decide)] at H; exact H
     clear H
     have H := H1
     clear H1
     exact absurd H (by simp)
   ·rw [if_neg c8] at H
    have c8b0 : (t1057 == t1059) = false := by simpa using c8
    (try (have c8b1 : decide (t1057 = t1059) = false := by simpa using c8))
    (try (have c8b2 : (t1057 == t1059) = false := by simpa using c8))
    (try (have c8b3 : ¬ (t1057 = t1059) := by simpa using c8))
    clear c8
    exact absurd H (by simp)
  ·rw [if_neg c6] at H
   have c6b0 : (t1057 == t1058) = false := by simpa using c6
   (try (have c6b1 : decide (t1057 = t1058) = false := by simpa using c6))
   (try (have c6b2 : (t1057 == t1058) = false := by simpa using c6))
   (try (have c6b3 : ¬ (t1057 = t1058) := by simpa using c6))
   clear c6
   exact absurd H (by simp)

/-- THE ONE PURE STATEMENT of laws_FnColoredSame: yours. -/
def laws_FnColoredSame.Pure : Prop := ∀ (l0 : List Int), l0.length ≤ maxLen → l0.length * 1 ≤ 140737488351232 → (∀ x ∈ l0, (Lit.int .u8 x).wf = true) → ∃ k, laws_FnColoredSame.f k l0 = some true
theorem laws_FnColoredSame.walk (P : laws_FnColoredSame.Pure) (a0 : Option Addr) (len0 cap0 : Nat) (z0 : List Int) (w : World) (w0 : (a0 = none ∧ len0 = 0 ∧ cap0 = 0 ∧ z0 = []) ∨ ∃ x, a0 = some x ∧ len0 ≤ cap0 ∧ cap0 ≤ maxLen ∧ z0.length = cap0 ∧ (∀ i, i < z0.length → w.cell? (x.add i) = some (.int .u8 (z0.getD i 0))) ∧ ∀ n ∈ z0, (Lit.int .u8 n).wf = true) (y0 : len0 * 1 ≤ 140737488351232) :
  Calls Try.prog 8 #[.slice a0 len0 cap0] w fun e w' => e = .returned (.bool true) ∧ Below w.heap.size w w' := by
 obtain ⟨l0, rfl, hr0, hm0, hw0, hc0⟩ := ReadsInt.ofRowC w0
 obtain ⟨k, h⟩ := P l0 hm0 y0 hw0
 refine (laws_FnColoredSame.calls k _ _ l0 true w (Kd.C_of_reads (d := (0 : Int)) (h1 := fun _ => rfl) hr0) hc0 h).mono ?_
 rintro e w' ⟨rfl, hd⟩
 exact ⟨rfl, hd⟩

end Go.Proofs.Ytkbaggfkidalfaa.A
