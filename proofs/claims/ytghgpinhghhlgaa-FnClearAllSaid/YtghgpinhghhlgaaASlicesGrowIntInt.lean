/- Contracts of functions of the given program (ASlicesGrowIntInt). No conditions beyond those stated. -/
import Derived.Test.YtghgpinhghhlgaaA0
import Derived.Test.YtghgpinhghhlgaaA0
namespace Go.Proofs.Ytghgpinhghhlgaa.A
open Go.RowKit Go.Proofs.YtghgpinhghhlgaaW.PrintWords Go.Proofs.YtghgpinhghhlgaaW.PrintLast Go.Proofs.YtghgpinhghhlgaaW.PrintMore
attribute [local go_sem] max2_int min2_int max_two min_two max_three min_three max_four min_four   -- for this text's walks alone
set_option linter.unusedVariables false
set_option linter.unusedSimpArgs false

/-! ### slices_Grow_int_int -/
def slices_Grow_int_int.f (l0 : List Int) (a1 : Int) : Option (List Int) := none
set_option maxHeartbeats 8000000 in
set_option maxRecDepth 100000 in
/-- Grow(nil, n): an empty slice in new memory, or nil. -/
theorem grow_nil (n : Int) (w : World) (hn : 0 ≤ n ∧ n ≤ 1000000) :
    Calls Try.prog 59 #[.slice none 0 0, .int .i64 n] w fun e w' => ∃ v : Value, e = .returned v ∧ Kd.R (Kd.int .i64) 3 w' w.heap.size (fun _ => True) v [] ∧ Below w.heap.size w w' := by
  obtain ⟨h0, h1⟩ := hn
  by_cases hp : 0 < n
  · have hlt : ¬ n < 0 := by omega
    have H0 : Aside0 (Kd.R (Kd.int .i64) 3 w w.heap.size (fun _ => True) (.slice none 0 0) []) := ⟨Kd.R_nil _ _ _ _ _⟩
    go_enter Try.func59, Try.ntmps59
    go_wp2_with (((with_reducible refine gate_builtin (b := .append) (xs := #[.tmp 20, .tmp 21]) rfl ?_); at_builtin; refine Kd.R_append_zeros (Kd.int .i64) (w0 := w) w.heap.size rfl (.tmp 20) (.tmp 21) 23 3 3 (.int .i64 0) 8 rfl Try.underlying23 Try.underlying3 info3 rfl (by decide) (by decide) (.slice none 0 0) [] (0 : Int) n (fun _ => True) rfl rfl ?hz (fun _ _ => trivial) H0.out h0 (Below.refl _ _) (Nat.le_refl _) ?hl ?hk))
    case hz => rfl
    case hl => first | omega | (simp; omega)
    case hk =>
      intro v1 w1 ho hb _ _
      obtain ⟨A1, c1, e1⟩ := Kd.R_slice ho
      subst e1
      have HO := Aside0.mk ho
      have HB := Aside0.mk hb
      clear ho hb H0
      have hl1 : ([] ++ List.replicate n.toNat (0 : Int)).length = n.toNat := by simp
      go_wp2
      go_ret
      exact ⟨_, rfl, Kd.R_take (m := 0) HO.out (Nat.zero_le _), HB.out⟩
  · obtain rfl : n = 0 := by omega
    clear h0 h1 hp
    go_enter Try.func59, Try.ntmps59
    go_wp2
    go_ret
    exact ⟨_, rfl, Kd.R_nil _ _ _ _ _, by repeat (first | exact Below.refl _ _ | apply below_alloc | apply pw_below_drewN | apply below_drew1)⟩

end Go.Proofs.Ytghgpinhghhlgaa.A
