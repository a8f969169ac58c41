/- Contracts of functions of the given program (AStrconvFormatInt). No conditions beyond those stated. -/
import Derived.Test.YtomeaapjjmaepaaDoorA0
import Derived.Test.YtomeaapjjmaepaaDoorA0
namespace Go.Proofs.YtomeaapjjmaepaaDoor.A
open Go.RowKit Go.Proofs.YtomeaapjjmaepaaDoorW.PrintWords Go.Proofs.YtomeaapjjmaepaaDoorW.PrintLast Go.Proofs.YtomeaapjjmaepaaDoorW.PrintMore
attribute [local go_sem] max2_int min2_int max_two min_two max_three min_three max_four min_four   -- for this text's walks alone
set_option linter.unusedVariables false
set_option linter.unusedSimpArgs false

/-! ### strconv_FormatInt -/
/-- The text of a number of one digit. -/
def digitText (a : Int) : ByteArray := ⟨#[UInt8.ofNat (48 + a.toNat)]⟩
set_option maxHeartbeats 4000000 in
set_option maxRecDepth 100000 in
theorem small_calls (a : Int) (w : World) (h0 : 0 ≤ a) (h1 : a < 10) : Calls Tryd.prog 66 #[.int .i64 a] w fun e w' => e = .returned (.string (digitText a)) ∧ Drawn0 w w' := by
  have hc : a = 0 ∨ a = 1 ∨ a = 2 ∨ a = 3 ∨ a = 4 ∨ a = 5 ∨ a = 6 ∨ a = 7 ∨ a = 8 ∨ a = 9 := by omega
  rcases hc with rfl | rfl | rfl | rfl | rfl | rfl | rfl | rfl | rfl | rfl
  all_goals
    go_enter Tryd.func66, Tryd.ntmps66
    go_wp2
    go_ret
    exact ⟨by rfl, by repeat (first | exact Drawn0.refl _ | apply Drawn0.step)⟩
def strconv_FormatInt.f (a0 a1 : Int) : Option ByteArray := if a1 = 10 ∧ 0 ≤ a0 ∧ a0 < 10 then some (digitText a0) else none
set_option maxHeartbeats 4000000 in
set_option maxRecDepth 100000 in
theorem strconv_FormatInt.calls (a0 : Int) (a1 : Int) (r : ByteArray) (w : World) (h : strconv_FormatInt.f a0 a1 = some r) :
    Calls Tryd.prog 60 #[.int .i64 a0, .int .i64 a1] w fun e w' => e = .returned (.string r) ∧ Drawn0 w w' := by
  unfold strconv_FormatInt.f at h
  by_cases c : a1 = 10 ∧ 0 ≤ a0 ∧ a0 < 10
  · rw [if_pos c] at h
    obtain rfl := Option.some.inj h
    obtain ⟨rfl, h0, h1⟩ := c
    have d0 : decide (0 ≤ a0) = true := decide_eq_true h0
    have d1 : decide (a0 < 100) = true := decide_eq_true (by omega)
    have H0 := am h0
    have H1 := am h1
    clear h0 h1 h
    go_enter Tryd.func60, Tryd.ntmps60
    go_wp2_with (go_at_call 66; (refine (small_calls a0 _ H0.out H1.out).mono ?_); rintro e w' ⟨rfl, ⟨nd, rfl⟩⟩)
    go_ret
    exact ⟨by first | rfl | (simp; done) | (simp [*]; done), by repeat (first | exact Drawn0.refl _ | apply Drawn0.step)⟩
  · rw [if_neg c] at h; exact absurd h (by simp)

end Go.Proofs.YtomeaapjjmaepaaDoor.A
