/- Contracts of functions of the given program (PMarkheap). No conditions beyond those stated. -/
import Derived.Test.YtcofdgeelojebabALawsHeldHeap
import Derived.Test.YtcofdgeelojebabALawsMarkHeap
import Derived.Test.YtcofdgeelojebabPMark
import Derived.Test.YtcofdgeelojebabA0
namespace Go.Proofs.Ytcofdgeelojebab.A
open Go.RowKit Go.Proofs.YtcofdgeelojebabW.PrintWords Go.Proofs.YtcofdgeelojebabW.PrintLast Go.Proofs.YtcofdgeelojebabW.PrintMore
attribute [local go_sem] max2_int min2_int max_two min_two max_three min_three max_four min_four   -- for this text's walks alone
set_option linter.unusedVariables false
set_option linter.unusedSimpArgs false

theorem markHeap_tells (a b c : List Int) (m k : Nat) (hm : m ≤ 10000000) (ha : a.length ≤ 1048576) (hb : b.length ≤ 1048576) (hc : c.length ≤ 1048576) (hk : 1048577 ≤ k) :
    laws_markHeap.f k a b c (m : Int) = some (((m + a.length + b.length + c.length : Nat) : Int), mk m a.length, mk (m + a.length) b.length, mk (m + a.length + b.length) c.length) := by
  unfold laws_markHeap.f
  rw [markIntS_tells a m k (by omega) (by omega)]
  simp only [Option.bind_some]
  rw [markIntS_tells b (m + a.length) k (by omega) (by omega)]
  simp only [Option.bind_some]
  rw [markIntS_tells c (m + a.length + b.length) k (by omega) (by omega)]
  rfl
theorem heldHeap_tells (a b c m k : Nat) (hm : m ≤ 10000000) (ha : a ≤ 1048576) (hb : b ≤ 1048576) (hc : c ≤ 1048576) (hk : 1048577 ≤ k) :
    laws_heldHeap.f k (mk m a) (mk (m + a) b) (mk (m + a + b) c) (m : Int) = some ((m + a + b + c : Nat) : Int) := by
  unfold laws_heldHeap.f
  rw [heldIntS_tells m a k (by omega) (by omega)]
  simp only [Option.bind_some]
  rw [if_neg (by omega), heldIntS_tells (m + a) b k (by omega) (by omega)]
  simp only [Option.bind_some]
  rw [if_neg (by omega), heldIntS_tells (m + a + b) c k (by omega) (by omega)]
  simp only [Option.bind_some]
  rw [if_neg (by omega)]

end Go.Proofs.Ytcofdgeelojebab.A
