/-
  No cell of these rows narrows 'for every input' (looked for: loops, veiled, ifaces, maps, wideKeys, modest, calm, conditions, laid).
  DERIVED. THE GIVEN ROWS OF THIS SEAT. 12 by the template 'for every input the law returns true; each argument reads behind the call as it read before'; 0 by the template 'total and deterministic' (their statements: YtcofdgeelojebabTotals.lean).
  GIVEN WITH THE SEED: the statements are not yours to turn. If you find one false, say at which input.
  Laid BY PROGRAM, IN A SANDBOX (cutbox-rows.mjs): the forced cells as the released guide's own fill.sh prints them over the translation 794279b0e6d56587… (all of the seat's roots in one cut). By AI agents, Wed Nov 11 2026. No macro, syntax, notation, axiom, sorry.
-/
import Derived.Test.YtcofdgeelojebabChecked
import GoSem.Claim
import GoSem.ClaimJoined
import GoSem.ClaimMapViews
import Derived.JoinedTies
import Derived.KernelRfl
namespace Go.Proofs.Ytcofdgeelojebab
/- THE CELL 'sum', in the pinned program and in every row, IS THE sha256 OF THE DUMP (.gsa) THAT YtcofdgeelojebabProg.lean LOADS. Nothing in Lean hashes anything: it is a label: what it is worth is what the hold of that sum in a sandbox is worth. -/
noncomputable def Try.pinned : Pinned := { name := "ytcofdgeelojebab", sum := "794279b0e6d565874ea36082a44e8939c52665e1faad29aef82f2b38123c3f91", checked := Try.checked }
namespace Rows
def none {H : Type} : Left H := { results := [], args := [] }

/-- 'laws.FnPutBoth': WHATEVER THE INPUT: true; the input reads as it did. -/
def fnPutBothSpec : ChangeSpec := { name := "fnPutBoth", fn := fun _ => fun
  | [d] => { results := [.lit (.bool true)], args := [d] }
  | _ => none }
def fnPutBothRow : OpenClaim := { program := "ytcofdgeelojebab", sum := "794279b0e6d565874ea36082a44e8939c52665e1faad29aef82f2b38123c3f91", func := "loop.example/cellcollector/laws.FnPutBoth", spec := "fnPutBoth", apart := false }
def FnPutBothSaid : Prop := fnPutBothRow.holds Try.pinned (OpenSpec.ofChange fnPutBothSpec)

/-- ITS FALSE NEIGHBOUR: 'it returns false'. Refute it at one input. -/
def fnPutBothWrong : ChangeSpec := { name := "fnPutBoth", fn := fun _ => fun
  | [d] => { results := [.lit (.bool false)], args := [d] }
  | _ => none }
def FnPutBothWrongFalsely : Prop := fnPutBothRow.holds Try.pinned (OpenSpec.ofChange fnPutBothWrong)

/-- 'laws.FnSourcesCount': WHATEVER THE INPUT: true; the input reads as it did. -/
def fnSourcesCountSpec : ChangeSpec := { name := "fnSourcesCount", fn := fun _ => fun
  | [d] => { results := [.lit (.bool true)], args := [d] }
  | _ => none }
def fnSourcesCountRow : OpenClaim := { program := "ytcofdgeelojebab", sum := "794279b0e6d565874ea36082a44e8939c52665e1faad29aef82f2b38123c3f91", func := "loop.example/cellcollector/laws.FnSourcesCount", spec := "fnSourcesCount", unfollowed := true, recurses := true, apart := false }
def FnSourcesCountSaid : Prop := fnSourcesCountRow.holds Try.pinned (OpenSpec.ofChange fnSourcesCountSpec)

/-- ITS FALSE NEIGHBOUR: 'it returns false'. Refute it at one input. -/
def fnSourcesCountWrong : ChangeSpec := { name := "fnSourcesCount", fn := fun _ => fun
  | [d] => { results := [.lit (.bool false)], args := [d] }
  | _ => none }
def FnSourcesCountWrongFalsely : Prop := fnSourcesCountRow.holds Try.pinned (OpenSpec.ofChange fnSourcesCountWrong)

/-- 'laws.FnSourcesOf': WHATEVER THE INPUT: true; the input reads as it did. -/
def fnSourcesOfSpec : ChangeSpec := { name := "fnSourcesOf", fn := fun _ => fun
  | [d] => { results := [.lit (.bool true)], args := [d] }
  | _ => none }
def fnSourcesOfRow : OpenClaim := { program := "ytcofdgeelojebab", sum := "794279b0e6d565874ea36082a44e8939c52665e1faad29aef82f2b38123c3f91", func := "loop.example/cellcollector/laws.FnSourcesOf", spec := "fnSourcesOf", apart := false }
def FnSourcesOfSaid : Prop := fnSourcesOfRow.holds Try.pinned (OpenSpec.ofChange fnSourcesOfSpec)

/-- ITS FALSE NEIGHBOUR: 'it returns false'. Refute it at one input. -/
def fnSourcesOfWrong : ChangeSpec := { name := "fnSourcesOf", fn := fun _ => fun
  | [d] => { results := [.lit (.bool false)], args := [d] }
  | _ => none }
def FnSourcesOfWrongFalsely : Prop := fnSourcesOfRow.holds Try.pinned (OpenSpec.ofChange fnSourcesOfWrong)

/-- 'laws.FnExactCountLive': WHATEVER THE INPUT: true; the input reads as it did. -/
def fnExactCountLiveSpec : ChangeSpec := { name := "fnExactCountLive", fn := fun _ => fun
  | [d] => { results := [.lit (.bool true)], args := [d] }
  | _ => none }
def fnExactCountLiveRow : OpenClaim := { program := "ytcofdgeelojebab", sum := "794279b0e6d565874ea36082a44e8939c52665e1faad29aef82f2b38123c3f91", func := "loop.example/cellcollector/laws.FnExactCountLive", spec := "fnExactCountLive", unfollowed := true, recurses := true, apart := false }
def FnExactCountLiveSaid : Prop := fnExactCountLiveRow.holds Try.pinned (OpenSpec.ofChange fnExactCountLiveSpec)

/-- ITS FALSE NEIGHBOUR: 'it returns false'. Refute it at one input. -/
def fnExactCountLiveWrong : ChangeSpec := { name := "fnExactCountLive", fn := fun _ => fun
  | [d] => { results := [.lit (.bool false)], args := [d] }
  | _ => none }
def FnExactCountLiveWrongFalsely : Prop := fnExactCountLiveRow.holds Try.pinned (OpenSpec.ofChange fnExactCountLiveWrong)

/-- 'laws.FnReachable': WHATEVER THE INPUT: true; the input reads as it did. -/
def fnReachableSpec : ChangeSpec := { name := "fnReachable", fn := fun _ => fun
  | [d] => { results := [.lit (.bool true)], args := [d] }
  | _ => none }
def fnReachableRow : OpenClaim := { program := "ytcofdgeelojebab", sum := "794279b0e6d565874ea36082a44e8939c52665e1faad29aef82f2b38123c3f91", func := "loop.example/cellcollector/laws.FnReachable", spec := "fnReachable", unfollowed := true, recurses := true, apart := false }
def FnReachableSaid : Prop := fnReachableRow.holds Try.pinned (OpenSpec.ofChange fnReachableSpec)

/-- ITS FALSE NEIGHBOUR: 'it returns false'. Refute it at one input. -/
def fnReachableWrong : ChangeSpec := { name := "fnReachable", fn := fun _ => fun
  | [d] => { results := [.lit (.bool false)], args := [d] }
  | _ => none }
def FnReachableWrongFalsely : Prop := fnReachableRow.holds Try.pinned (OpenSpec.ofChange fnReachableWrong)

/-- 'laws.FnHasCycle': WHATEVER THE INPUT: true; the input reads as it did. -/
def fnHasCycleSpec : ChangeSpec := { name := "fnHasCycle", fn := fun _ => fun
  | [d] => { results := [.lit (.bool true)], args := [d] }
  | _ => none }
def fnHasCycleRow : OpenClaim := { program := "ytcofdgeelojebab", sum := "794279b0e6d565874ea36082a44e8939c52665e1faad29aef82f2b38123c3f91", func := "loop.example/cellcollector/laws.FnHasCycle", spec := "fnHasCycle", unfollowed := true, recurses := true, apart := false }
def FnHasCycleSaid : Prop := fnHasCycleRow.holds Try.pinned (OpenSpec.ofChange fnHasCycleSpec)

/-- ITS FALSE NEIGHBOUR: 'it returns false'. Refute it at one input. -/
def fnHasCycleWrong : ChangeSpec := { name := "fnHasCycle", fn := fun _ => fun
  | [d] => { results := [.lit (.bool false)], args := [d] }
  | _ => none }
def FnHasCycleWrongFalsely : Prop := fnHasCycleRow.holds Try.pinned (OpenSpec.ofChange fnHasCycleWrong)

/-- 'laws.FnExactNewColored': WHATEVER THE INPUT: true; the input reads as it did. -/
def fnExactNewColoredSpec : ChangeSpec := { name := "fnExactNewColored", fn := fun _ => fun
  | [d] => { results := [.lit (.bool true)], args := [d] }
  | _ => none }
def fnExactNewColoredRow : OpenClaim := { program := "ytcofdgeelojebab", sum := "794279b0e6d565874ea36082a44e8939c52665e1faad29aef82f2b38123c3f91", func := "loop.example/cellcollector/laws.FnExactNewColored", spec := "fnExactNewColored", apart := false }
def FnExactNewColoredSaid : Prop := fnExactNewColoredRow.holds Try.pinned (OpenSpec.ofChange fnExactNewColoredSpec)

/-- ITS FALSE NEIGHBOUR: 'it returns false'. Refute it at one input. -/
def fnExactNewColoredWrong : ChangeSpec := { name := "fnExactNewColored", fn := fun _ => fun
  | [d] => { results := [.lit (.bool false)], args := [d] }
  | _ => none }
def FnExactNewColoredWrongFalsely : Prop := fnExactNewColoredRow.holds Try.pinned (OpenSpec.ofChange fnExactNewColoredWrong)

/-- 'laws.FnReachMore': WHATEVER THE INPUT: true; the input reads as it did. -/
def fnReachMoreSpec : ChangeSpec := { name := "fnReachMore", fn := fun _ => fun
  | [d] => { results := [.lit (.bool true)], args := [d] }
  | _ => none }
def fnReachMoreRow : OpenClaim := { program := "ytcofdgeelojebab", sum := "794279b0e6d565874ea36082a44e8939c52665e1faad29aef82f2b38123c3f91", func := "loop.example/cellcollector/laws.FnReachMore", spec := "fnReachMore", unfollowed := true, recurses := true, apart := false }
def FnReachMoreSaid : Prop := fnReachMoreRow.holds Try.pinned (OpenSpec.ofChange fnReachMoreSpec)

/-- ITS FALSE NEIGHBOUR: 'it returns false'. Refute it at one input. -/
def fnReachMoreWrong : ChangeSpec := { name := "fnReachMore", fn := fun _ => fun
  | [d] => { results := [.lit (.bool false)], args := [d] }
  | _ => none }
def FnReachMoreWrongFalsely : Prop := fnReachMoreRow.holds Try.pinned (OpenSpec.ofChange fnReachMoreWrong)

/-- 'laws.FnCountPointers': WHATEVER THE INPUT: true; the input reads as it did. -/
def fnCountPointersSpec : ChangeSpec := { name := "fnCountPointers", fn := fun _ => fun
  | [d] => { results := [.lit (.bool true)], args := [d] }
  | _ => none }
def fnCountPointersRow : OpenClaim := { program := "ytcofdgeelojebab", sum := "794279b0e6d565874ea36082a44e8939c52665e1faad29aef82f2b38123c3f91", func := "loop.example/cellcollector/laws.FnCountPointers", spec := "fnCountPointers", apart := false }
def FnCountPointersSaid : Prop := fnCountPointersRow.holds Try.pinned (OpenSpec.ofChange fnCountPointersSpec)

/-- ITS FALSE NEIGHBOUR: 'it returns false'. Refute it at one input. -/
def fnCountPointersWrong : ChangeSpec := { name := "fnCountPointers", fn := fun _ => fun
  | [d] => { results := [.lit (.bool false)], args := [d] }
  | _ => none }
def FnCountPointersWrongFalsely : Prop := fnCountPointersRow.holds Try.pinned (OpenSpec.ofChange fnCountPointersWrong)

/-- 'laws.FnLiveCount': WHATEVER THE INPUT: true; the input reads as it did. -/
def fnLiveCountSpec : ChangeSpec := { name := "fnLiveCount", fn := fun _ => fun
  | [d] => { results := [.lit (.bool true)], args := [d] }
  | _ => none }
def fnLiveCountRow : OpenClaim := { program := "ytcofdgeelojebab", sum := "794279b0e6d565874ea36082a44e8939c52665e1faad29aef82f2b38123c3f91", func := "loop.example/cellcollector/laws.FnLiveCount", spec := "fnLiveCount", unfollowed := true, recurses := true, apart := false }
def FnLiveCountSaid : Prop := fnLiveCountRow.holds Try.pinned (OpenSpec.ofChange fnLiveCountSpec)

/-- ITS FALSE NEIGHBOUR: 'it returns false'. Refute it at one input. -/
def fnLiveCountWrong : ChangeSpec := { name := "fnLiveCount", fn := fun _ => fun
  | [d] => { results := [.lit (.bool false)], args := [d] }
  | _ => none }
def FnLiveCountWrongFalsely : Prop := fnLiveCountRow.holds Try.pinned (OpenSpec.ofChange fnLiveCountWrong)

/-- 'laws.FnDistanceOf': WHATEVER THE INPUT: true; the input reads as it did. -/
def fnDistanceOfSpec : ChangeSpec := { name := "fnDistanceOf", fn := fun _ => fun
  | [d] => { results := [.lit (.bool true)], args := [d] }
  | _ => none }
def fnDistanceOfRow : OpenClaim := { program := "ytcofdgeelojebab", sum := "794279b0e6d565874ea36082a44e8939c52665e1faad29aef82f2b38123c3f91", func := "loop.example/cellcollector/laws.FnDistanceOf", spec := "fnDistanceOf", unfollowed := true, recurses := true, apart := false }
def FnDistanceOfSaid : Prop := fnDistanceOfRow.holds Try.pinned (OpenSpec.ofChange fnDistanceOfSpec)

/-- ITS FALSE NEIGHBOUR: 'it returns false'. Refute it at one input. -/
def fnDistanceOfWrong : ChangeSpec := { name := "fnDistanceOf", fn := fun _ => fun
  | [d] => { results := [.lit (.bool false)], args := [d] }
  | _ => none }
def FnDistanceOfWrongFalsely : Prop := fnDistanceOfRow.holds Try.pinned (OpenSpec.ofChange fnDistanceOfWrong)

/-- 'laws.FnCycleSelf': WHATEVER THE INPUT: true; the input reads as it did. -/
def fnCycleSelfSpec : ChangeSpec := { name := "fnCycleSelf", fn := fun _ => fun
  | [d] => { results := [.lit (.bool true)], args := [d] }
  | _ => none }
def fnCycleSelfRow : OpenClaim := { program := "ytcofdgeelojebab", sum := "794279b0e6d565874ea36082a44e8939c52665e1faad29aef82f2b38123c3f91", func := "loop.example/cellcollector/laws.FnCycleSelf", spec := "fnCycleSelf", unfollowed := true, recurses := true, apart := false }
def FnCycleSelfSaid : Prop := fnCycleSelfRow.holds Try.pinned (OpenSpec.ofChange fnCycleSelfSpec)

/-- ITS FALSE NEIGHBOUR: 'it returns false'. Refute it at one input. -/
def fnCycleSelfWrong : ChangeSpec := { name := "fnCycleSelf", fn := fun _ => fun
  | [d] => { results := [.lit (.bool false)], args := [d] }
  | _ => none }
def FnCycleSelfWrongFalsely : Prop := fnCycleSelfRow.holds Try.pinned (OpenSpec.ofChange fnCycleSelfWrong)

/- THE SECOND FORM. 'bulk': how many values and letters a reading holds, each counted each time it is reached (what is shared counts as often as it is met; a slice's spare places count too). A statement '..UptoSaid' is the law's where the arguments, and the package variables that the reading takes, are together of bulk at most 1048576: NARROWER than '..Said'. Prove '..Said' where nothing that the law and all that it calls make is longer than what came in: it says more and counts as full. Else prove '..UptoSaid'. A law counts once. -/
mutual
def uptoBulk {H : Type} : DataW H → Nat
  | .lit (.string bytes) => bytes.length + 1
  | .lit _ => 1
  | .nil => 1
  | .ptr d => uptoBulk d + 1
  | .slice elems spare => uptoBulkAll elems + uptoBulkAll spare + 1
  | .agg parts => uptoBulkAll parts + 1
  | .iface _ d => uptoBulk d + 1
  | .map entries => uptoBulkEntries entries + 1
  | .held _ => 1
def uptoBulkAll {H : Type} : List (DataW H) → Nat
  | [] => 0
  | d :: r => uptoBulk d + uptoBulkAll r
def uptoBulkEntries {H : Type} : List (Lit × DataW H) → Nat
  | [] => 0
  | x :: r => uptoBulkEntry x + uptoBulkEntries r
def uptoBulkEntry {H : Type} : Lit × DataW H → Nat
  | (.string bytes, d) => bytes.length + uptoBulk d + 1
  | (_, d) => uptoBulk d + 1
 end
def uptoSmall : (H : Type) → List (DataW H) → Bool := fun _ ds => decide (uptoBulkAll ds ≤ 1048576)
def OpenSpec.upto (s : _root_.Go.ChangeSpec) : _root_.Go.OpenSpec := { _root_.Go.OpenSpec.ofChange s with cond := some uptoSmall }

/-- 'laws.FnPutBoth', WHERE WHAT IT READS IS OF BULK AT MOST 1048576: true; the input reads as it did. -/
def fnPutBothUptoRow : OpenClaim := { program := "ytcofdgeelojebab", sum := "794279b0e6d565874ea36082a44e8939c52665e1faad29aef82f2b38123c3f91", func := "loop.example/cellcollector/laws.FnPutBoth", spec := "fnPutBoth", apart := false, narrowed := true }
def FnPutBothUptoSaid : Prop := fnPutBothUptoRow.holds Try.pinned (OpenSpec.upto fnPutBothSpec)

/-- 'laws.FnSourcesCount', WHERE WHAT IT READS IS OF BULK AT MOST 1048576: true; the input reads as it did. -/
def fnSourcesCountUptoRow : OpenClaim := { program := "ytcofdgeelojebab", sum := "794279b0e6d565874ea36082a44e8939c52665e1faad29aef82f2b38123c3f91", func := "loop.example/cellcollector/laws.FnSourcesCount", spec := "fnSourcesCount", unfollowed := true, recurses := true, apart := false, narrowed := true }
def FnSourcesCountUptoSaid : Prop := fnSourcesCountUptoRow.holds Try.pinned (OpenSpec.upto fnSourcesCountSpec)

/-- 'laws.FnSourcesOf', WHERE WHAT IT READS IS OF BULK AT MOST 1048576: true; the input reads as it did. -/
def fnSourcesOfUptoRow : OpenClaim := { program := "ytcofdgeelojebab", sum := "794279b0e6d565874ea36082a44e8939c52665e1faad29aef82f2b38123c3f91", func := "loop.example/cellcollector/laws.FnSourcesOf", spec := "fnSourcesOf", apart := false, narrowed := true }
def FnSourcesOfUptoSaid : Prop := fnSourcesOfUptoRow.holds Try.pinned (OpenSpec.upto fnSourcesOfSpec)

/-- 'laws.FnExactCountLive', WHERE WHAT IT READS IS OF BULK AT MOST 1048576: true; the input reads as it did. -/
def fnExactCountLiveUptoRow : OpenClaim := { program := "ytcofdgeelojebab", sum := "794279b0e6d565874ea36082a44e8939c52665e1faad29aef82f2b38123c3f91", func := "loop.example/cellcollector/laws.FnExactCountLive", spec := "fnExactCountLive", unfollowed := true, recurses := true, apart := false, narrowed := true }
def FnExactCountLiveUptoSaid : Prop := fnExactCountLiveUptoRow.holds Try.pinned (OpenSpec.upto fnExactCountLiveSpec)

/-- 'laws.FnReachable', WHERE WHAT IT READS IS OF BULK AT MOST 1048576: true; the input reads as it did. -/
def fnReachableUptoRow : OpenClaim := { program := "ytcofdgeelojebab", sum := "794279b0e6d565874ea36082a44e8939c52665e1faad29aef82f2b38123c3f91", func := "loop.example/cellcollector/laws.FnReachable", spec := "fnReachable", unfollowed := true, recurses := true, apart := false, narrowed := true }
def FnReachableUptoSaid : Prop := fnReachableUptoRow.holds Try.pinned (OpenSpec.upto fnReachableSpec)

/-- 'laws.FnHasCycle', WHERE WHAT IT READS IS OF BULK AT MOST 1048576: true; the input reads as it did. -/
def fnHasCycleUptoRow : OpenClaim := { program := "ytcofdgeelojebab", sum := "794279b0e6d565874ea36082a44e8939c52665e1faad29aef82f2b38123c3f91", func := "loop.example/cellcollector/laws.FnHasCycle", spec := "fnHasCycle", unfollowed := true, recurses := true, apart := false, narrowed := true }
def FnHasCycleUptoSaid : Prop := fnHasCycleUptoRow.holds Try.pinned (OpenSpec.upto fnHasCycleSpec)

/-- 'laws.FnExactNewColored', WHERE WHAT IT READS IS OF BULK AT MOST 1048576: true; the input reads as it did. -/
def fnExactNewColoredUptoRow : OpenClaim := { program := "ytcofdgeelojebab", sum := "794279b0e6d565874ea36082a44e8939c52665e1faad29aef82f2b38123c3f91", func := "loop.example/cellcollector/laws.FnExactNewColored", spec := "fnExactNewColored", apart := false, narrowed := true }
def FnExactNewColoredUptoSaid : Prop := fnExactNewColoredUptoRow.holds Try.pinned (OpenSpec.upto fnExactNewColoredSpec)

/-- 'laws.FnReachMore', WHERE WHAT IT READS IS OF BULK AT MOST 1048576: true; the input reads as it did. -/
def fnReachMoreUptoRow : OpenClaim := { program := "ytcofdgeelojebab", sum := "794279b0e6d565874ea36082a44e8939c52665e1faad29aef82f2b38123c3f91", func := "loop.example/cellcollector/laws.FnReachMore", spec := "fnReachMore", unfollowed := true, recurses := true, apart := false, narrowed := true }
def FnReachMoreUptoSaid : Prop := fnReachMoreUptoRow.holds Try.pinned (OpenSpec.upto fnReachMoreSpec)

/-- 'laws.FnCountPointers', WHERE WHAT IT READS IS OF BULK AT MOST 1048576: true; the input reads as it did. -/
def fnCountPointersUptoRow : OpenClaim := { program := "ytcofdgeelojebab", sum := "794279b0e6d565874ea36082a44e8939c52665e1faad29aef82f2b38123c3f91", func := "loop.example/cellcollector/laws.FnCountPointers", spec := "fnCountPointers", apart := false, narrowed := true }
def FnCountPointersUptoSaid : Prop := fnCountPointersUptoRow.holds Try.pinned (OpenSpec.upto fnCountPointersSpec)

/-- 'laws.FnLiveCount', WHERE WHAT IT READS IS OF BULK AT MOST 1048576: true; the input reads as it did. -/
def fnLiveCountUptoRow : OpenClaim := { program := "ytcofdgeelojebab", sum := "794279b0e6d565874ea36082a44e8939c52665e1faad29aef82f2b38123c3f91", func := "loop.example/cellcollector/laws.FnLiveCount", spec := "fnLiveCount", unfollowed := true, recurses := true, apart := false, narrowed := true }
def FnLiveCountUptoSaid : Prop := fnLiveCountUptoRow.holds Try.pinned (OpenSpec.upto fnLiveCountSpec)

/-- 'laws.FnDistanceOf', WHERE WHAT IT READS IS OF BULK AT MOST 1048576: true; the input reads as it did. -/
def fnDistanceOfUptoRow : OpenClaim := { program := "ytcofdgeelojebab", sum := "794279b0e6d565874ea36082a44e8939c52665e1faad29aef82f2b38123c3f91", func := "loop.example/cellcollector/laws.FnDistanceOf", spec := "fnDistanceOf", unfollowed := true, recurses := true, apart := false, narrowed := true }
def FnDistanceOfUptoSaid : Prop := fnDistanceOfUptoRow.holds Try.pinned (OpenSpec.upto fnDistanceOfSpec)

/-- 'laws.FnCycleSelf', WHERE WHAT IT READS IS OF BULK AT MOST 1048576: true; the input reads as it did. -/
def fnCycleSelfUptoRow : OpenClaim := { program := "ytcofdgeelojebab", sum := "794279b0e6d565874ea36082a44e8939c52665e1faad29aef82f2b38123c3f91", func := "loop.example/cellcollector/laws.FnCycleSelf", spec := "fnCycleSelf", unfollowed := true, recurses := true, apart := false, narrowed := true }
def FnCycleSelfUptoSaid : Prop := fnCycleSelfUptoRow.holds Try.pinned (OpenSpec.upto fnCycleSelfSpec)

end Rows
end Go.Proofs.Ytcofdgeelojebab
