/- Contracts of functions of the given program (PMarkheap). No conditions beyond those stated. -/
import Derived.Test.YtffnpclehhoeaaaALawsMarkHeap
import Derived.Test.YtffnpclehhoeaaaPMark
import Derived.Test.YtffnpclehhoeaaaA0
namespace Go.Proofs.Ytffnpclehhoeaaa.A
open Go.RowKit Go.Proofs.YtffnpclehhoeaaaW.PrintWords Go.Proofs.YtffnpclehhoeaaaW.PrintLast Go.Proofs.YtffnpclehhoeaaaW.PrintMore
attribute [local go_sem] max2_int min2_int max_two min_two max_three min_three max_four min_four   -- for this text's walks alone
set_option linter.unusedVariables false
set_option linter.unusedSimpArgs false

theorem markHeap_tells (a b c : List Int) (m k : Nat) (hm : m ≤ 10000000) (ha : a.length ≤ 1048576) (hb : b.length ≤ 1048576) (hc : c.length ≤ 1048576) (hk : 1048577 ≤ k) :
    laws_markHeap.f k a b c (m : Int) = some (((m + a.length + b.length + c.length : Nat) : Int), mk m a.length, mk (m + a.length) b.length, mk (m + a.length + b.length) c.length) := by
  unfold laws_markHeap.f
  rw [markIntS_tells a m k (by omega) (by omega)]
  simp only [Option.bind_some]
  rw [markIntS_tells b (m + a.length) k (by omega) (by omega)]
  simp only [Option.bind_some]
  rw [markIntS_tells c (m + a.length + b.length) k (by omega) (by omega)]
  rfl

end Go.Proofs.Ytffnpclehhoeaaa.A
