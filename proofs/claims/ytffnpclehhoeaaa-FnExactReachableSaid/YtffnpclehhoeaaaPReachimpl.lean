/- Contracts of functions of the given program (PReachimpl). No conditions beyond those stated. -/
import Derived.Test.YtffnpclehhoeaaaAImplReachable
import Derived.Test.YtffnpclehhoeaaaPBase
import Derived.Test.YtffnpclehhoeaaaPBfs
import Derived.Test.YtffnpclehhoeaaaPBfsimpl
import Derived.Test.YtffnpclehhoeaaaPHvd
import Derived.Test.YtffnpclehhoeaaaPHvdef
import Derived.Test.YtffnpclehhoeaaaPHvimpl
import Derived.Test.YtffnpclehhoeaaaPReach
import Derived.Test.YtffnpclehhoeaaaA0
namespace Go.Proofs.Ytffnpclehhoeaaa.A
open Go.RowKit Go.Proofs.YtffnpclehhoeaaaW.PrintWords Go.Proofs.YtffnpclehhoeaaaW.PrintLast Go.Proofs.YtffnpclehhoeaaaW.PrintMore
attribute [local go_sem] max2_int min2_int max_two min_two max_three min_three max_four min_four   -- for this text's walks alone
set_option linter.unusedVariables false
set_option linter.unusedSimpArgs false

theorem implRE_l0 (l : List Int) (hl : l.length ≤ 1000) : ∀ (d i k : Nat) (o : List Bool), i ≤ l.length → l.length - i = d → d < k → o.length ≤ i →
    impl_Reachable.l0 k o l (l.length : Int) (i : Int) = some (o ++ (l.drop i).map (fun x => decide (x > 0))) := by
  intro d
  induction d with
  | zero =>
    intro i k o hi hd hk ho
    obtain ⟨k, rfl⟩ : ∃ m, k = m + 1 := ⟨k - 1, by omega⟩
    rw [impl_Reachable.l0, if_neg (by omega), List.drop_eq_nil_of_le (by omega), List.map_nil, List.append_nil]
  | succ d ih =>
    intro i k o hi hd hk ho
    obtain ⟨k, rfl⟩ : ∃ m, k = m + 1 := ⟨k - 1, by omega⟩
    have hlt : i < l.length := by omega
    rw [impl_Reachable.l0, if_pos (by omega), if_pos (by omega), if_pos (by omega), if_pos (by omega), drop_rd l i hlt, wrap_succ hlt (by omega), ih (i + 1) k _ (by omega) (by omega) (by omega) (by simp; omega), List.map_cons, List.append_assoc]
    rfl
theorem zd_pos (l : List Int) : (zd l).map (fun x => decide (x > 0)) = l.map (fun x => decide (x > 0)) := by
  unfold zd
  rw [List.map_map]
  apply List.map_congr_left
  intro x _
  show decide ((if x < 0 then (0 : Int) else x) > 0) = decide (x > 0)
  by_cases h : x < 0
  · rw [if_pos h, decide_eq_false (by omega), decide_eq_false (by omega)]
  · rw [if_neg h]
theorem implRE_tells (a b c : List Int) (k : Nat) (hk : 60 ≤ k) : impl_Reachable.f k a b c = some (reachM a b c) := by
  unfold impl_Reachable.f reachM
  rw [implHV_tells a b c k (by omega)]
  simp only [Option.bind_some]
  by_cases h : hv a b c = true
  · have hl := hv_len h
    have hdl := distM_len (by omega) (hv_a h) (hv_b h) (hv_c h)
    rw [if_pos h, if_pos h, implD_tells a b _ (by omega) (by omega) (hv_a h) (hv_b h) (hv_c h) (by omega)]
    simp only [Option.bind_some]
    refine Eq.trans (implRE_l0 (zd (distM a b c)) (by rw [zd_len]; omega) (zd (distM a b c)).length 0 k [] (by omega) (by omega) (by rw [zd_len]; omega) (by simp)) ?_
    rw [List.drop_zero, List.nil_append, zd_pos]
  · rw [if_neg h, if_neg h]

end Go.Proofs.Ytffnpclehhoeaaa.A
