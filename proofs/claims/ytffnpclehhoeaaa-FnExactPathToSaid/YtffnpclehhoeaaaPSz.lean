/- Contracts of functions of the given program (PSz). No conditions beyond those stated. -/
import Derived.Test.YtffnpclehhoeaaaALawsSzHeap
import Derived.Test.YtffnpclehhoeaaaALawsSzIntS
import Derived.Test.YtffnpclehhoeaaaPBase
import Derived.Test.YtffnpclehhoeaaaA0
namespace Go.Proofs.Ytffnpclehhoeaaa.A
open Go.RowKit Go.Proofs.YtffnpclehhoeaaaW.PrintWords Go.Proofs.YtffnpclehhoeaaaW.PrintLast Go.Proofs.YtffnpclehhoeaaaW.PrintMore
attribute [local go_sem] max2_int min2_int max_two min_two max_three min_three max_four min_four   -- for this text's walks alone
set_option linter.unusedVariables false
set_option linter.unusedSimpArgs false

theorem szIntS_tells (l : List Int) (L : Int) (h0 : 0 ≤ L) (h1 : L ≤ 1048576) (hl : l.length ≤ 9223372036854775807) :
    laws_szIntS.f l L = some (if (l.length : Int) ≤ L then L - l.length else -1) := by
  unfold laws_szIntS.f
  rw [wrap_id (by omega) (by omega)]
  by_cases h : (l.length : Int) ≤ L
  · rw [if_neg (by omega), if_pos h]
  · rw [if_pos (by omega), if_neg h]
/-- What is left behind a heap: not less than 0 exactly if it fits. -/
theorem szHeap_tells (a b c : List Int) (L : Int) (h0 : 0 ≤ L) (h1 : L ≤ 1048576) (ha : a.length ≤ 9223372036854775807) (hb : b.length ≤ 9223372036854775807) (hc : c.length ≤ 9223372036854775807) :
    laws_szHeap.f a b c L = some (if (a.length : Int) + b.length + c.length ≤ L then L - a.length - b.length - c.length else -1) := by
  unfold laws_szHeap.f
  rw [szIntS_tells a L h0 h1 ha]
  simp only [Option.bind_some]
  by_cases h2 : (a.length : Int) ≤ L
  · rw [if_pos h2, if_neg (by omega), szIntS_tells b _ (by omega) (by omega) hb]
    simp only [Option.bind_some]
    by_cases h3 : (b.length : Int) ≤ L - a.length
    · rw [if_pos h3, if_neg (by omega), szIntS_tells c _ (by omega) (by omega) hc]
      simp only [Option.bind_some]
      by_cases h4 : (c.length : Int) ≤ L - a.length - b.length
      · rw [if_pos h4, if_neg (by omega), if_pos (by omega)]
      · rw [if_neg h4, if_pos (by omega), if_neg (by omega)]
    · rw [if_neg h3, if_pos (by omega), if_neg (by omega)]
  · rw [if_neg h2, if_pos (by omega), if_neg (by omega)]

end Go.Proofs.Ytffnpclehhoeaaa.A
