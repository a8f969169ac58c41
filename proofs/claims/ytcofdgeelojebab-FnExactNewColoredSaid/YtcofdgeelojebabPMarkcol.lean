/- Contracts of functions of the given program (PMarkcol). No conditions beyond those stated. -/
import Derived.Test.YtcofdgeelojebabALawsHeldColored
import Derived.Test.YtcofdgeelojebabALawsMarkColored
import Derived.Test.YtcofdgeelojebabPMark
import Derived.Test.YtcofdgeelojebabPMarkheap
import Derived.Test.YtcofdgeelojebabA0
namespace Go.Proofs.Ytcofdgeelojebab.A
open Go.RowKit Go.Proofs.YtcofdgeelojebabW.PrintWords Go.Proofs.YtcofdgeelojebabW.PrintLast Go.Proofs.YtcofdgeelojebabW.PrintMore
attribute [local go_sem] max2_int min2_int max_two min_two max_three min_three max_four min_four   -- for this text's walks alone
set_option linter.unusedVariables false
set_option linter.unusedSimpArgs false

theorem markColored_tells (a b c e : List Int) (m k : Nat) (hm : m ≤ 10000000) (ha : a.length ≤ 1048576) (hb : b.length ≤ 1048576) (hc : c.length ≤ 1048576) (he : e.length ≤ 1048576) (hk : 1048577 ≤ k) :
    laws_markColored.f k a b c e (m : Int) = some (((m + a.length + b.length + c.length + e.length : Nat) : Int), mk m a.length, mk (m + a.length) b.length, mk (m + a.length + b.length) c.length, mk (m + a.length + b.length + c.length) e.length) := by
  unfold laws_markColored.f
  rw [markHeap_tells a b c m k hm ha hb hc hk]
  simp only [Option.bind_some]
  rw [markIntS_tells e (m + a.length + b.length + c.length) k (by omega) (by omega)]
  rfl
theorem heldColored_tells (a b c e m k : Nat) (hm : m ≤ 10000000) (ha : a ≤ 1048576) (hb : b ≤ 1048576) (hc : c ≤ 1048576) (he : e ≤ 1048576) (hk : 1048577 ≤ k) :
    laws_heldColored.f k (mk m a) (mk (m + a) b) (mk (m + a + b) c) (mk (m + a + b + c) e) (m : Int) = some ((m + a + b + c + e : Nat) : Int) := by
  unfold laws_heldColored.f
  rw [heldHeap_tells a b c m k hm ha hb hc hk]
  simp only [Option.bind_some]
  rw [if_neg (by omega), heldIntS_tells (m + a + b + c) e k (by omega) (by omega)]
  simp only [Option.bind_some]
  rw [if_neg (by omega)]

end Go.Proofs.Ytcofdgeelojebab.A
