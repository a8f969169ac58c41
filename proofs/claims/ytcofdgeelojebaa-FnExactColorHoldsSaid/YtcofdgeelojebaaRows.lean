/-
  No cell of these rows narrows 'for every input' (looked for: loops, veiled, ifaces, maps, wideKeys, modest, calm, conditions, laid).
  DERIVED. THE GIVEN ROWS OF THIS SEAT. 10 by the template 'for every input the law returns true; each argument reads behind the call as it read before'; 0 by the template 'total and deterministic' (their statements: YtcofdgeelojebaaTotals.lean).
  GIVEN WITH THE SEED: the statements are not yours to turn. If you find one false, say at which input.
  Laid BY PROGRAM, IN A SANDBOX (cutbox-rows.mjs): the forced cells as the released guide's own fill.sh prints them over the translation 2064234727c3332e… (all of the seat's roots in one cut). By AI agents, Wed Nov 11 2026. No macro, syntax, notation, axiom, sorry.
-/
import Derived.Test.YtcofdgeelojebaaChecked
import GoSem.Claim
import GoSem.ClaimJoined
import GoSem.ClaimMapViews
import Derived.JoinedTies
import Derived.KernelRfl
namespace Go.Proofs.Ytcofdgeelojebaa
/- THE CELL 'sum', in the pinned program and in every row, IS THE sha256 OF THE DUMP (.gsa) THAT YtcofdgeelojebaaProg.lean LOADS. Nothing in Lean hashes anything: it is a label: what it is worth is what the hold of that sum in a sandbox is worth. -/
noncomputable def Try.pinned : Pinned := { name := "ytcofdgeelojebaa", sum := "2064234727c3332e53aa06e64a4bf800efa857abe376922a6b01b73e44ed74ea", checked := Try.checked }
namespace Rows
def none {H : Type} : Left H := { results := [], args := [] }

/-- 'laws.FnPutRight': WHATEVER THE INPUT: true; the input reads as it did. -/
def fnPutRightSpec : ChangeSpec := { name := "fnPutRight", fn := fun _ => fun
  | [d] => { results := [.lit (.bool true)], args := [d] }
  | _ => none }
def fnPutRightRow : OpenClaim := { program := "ytcofdgeelojebaa", sum := "2064234727c3332e53aa06e64a4bf800efa857abe376922a6b01b73e44ed74ea", func := "loop.example/cellcollector/laws.FnPutRight", spec := "fnPutRight", apart := false }
def FnPutRightSaid : Prop := fnPutRightRow.holds Try.pinned (OpenSpec.ofChange fnPutRightSpec)

/-- ITS FALSE NEIGHBOUR: 'it returns false'. Refute it at one input. -/
def fnPutRightWrong : ChangeSpec := { name := "fnPutRight", fn := fun _ => fun
  | [d] => { results := [.lit (.bool false)], args := [d] }
  | _ => none }
def FnPutRightWrongFalsely : Prop := fnPutRightRow.holds Try.pinned (OpenSpec.ofChange fnPutRightWrong)

/-- 'laws.FnExactHasCycle': WHATEVER THE INPUT: true; the input reads as it did. -/
def fnExactHasCycleSpec : ChangeSpec := { name := "fnExactHasCycle", fn := fun _ => fun
  | [d1, d2] => { results := [.lit (.bool true)], args := [d1, d2] }
  | _ => none }
def fnExactHasCycleRow : OpenClaim := { program := "ytcofdgeelojebaa", sum := "2064234727c3332e53aa06e64a4bf800efa857abe376922a6b01b73e44ed74ea", func := "loop.example/cellcollector/laws.FnExactHasCycle", spec := "fnExactHasCycle", unfollowed := true, recurses := true, apart := false }
def FnExactHasCycleSaid : Prop := fnExactHasCycleRow.holds Try.pinned (OpenSpec.ofChange fnExactHasCycleSpec)

/-- ITS FALSE NEIGHBOUR: 'it returns false'. Refute it at one input. -/
def fnExactHasCycleWrong : ChangeSpec := { name := "fnExactHasCycle", fn := fun _ => fun
  | [d1, d2] => { results := [.lit (.bool false)], args := [d1, d2] }
  | _ => none }
def FnExactHasCycleWrongFalsely : Prop := fnExactHasCycleRow.holds Try.pinned (OpenSpec.ofChange fnExactHasCycleWrong)

/-- 'laws.FnExactDistanceOf': WHATEVER THE INPUT: true; the input reads as it did. -/
def fnExactDistanceOfSpec : ChangeSpec := { name := "fnExactDistanceOf", fn := fun _ => fun
  | [d1, d2] => { results := [.lit (.bool true)], args := [d1, d2] }
  | _ => none }
def fnExactDistanceOfRow : OpenClaim := { program := "ytcofdgeelojebaa", sum := "2064234727c3332e53aa06e64a4bf800efa857abe376922a6b01b73e44ed74ea", func := "loop.example/cellcollector/laws.FnExactDistanceOf", spec := "fnExactDistanceOf", unfollowed := true, recurses := true, apart := false }
def FnExactDistanceOfSaid : Prop := fnExactDistanceOfRow.holds Try.pinned (OpenSpec.ofChange fnExactDistanceOfSpec)

/-- ITS FALSE NEIGHBOUR: 'it returns false'. Refute it at one input. -/
def fnExactDistanceOfWrong : ChangeSpec := { name := "fnExactDistanceOf", fn := fun _ => fun
  | [d1, d2] => { results := [.lit (.bool false)], args := [d1, d2] }
  | _ => none }
def FnExactDistanceOfWrongFalsely : Prop := fnExactDistanceOfRow.holds Try.pinned (OpenSpec.ofChange fnExactDistanceOfWrong)

/-- 'laws.FnNewHeap': WHATEVER THE INPUT: true; the input reads as it did. -/
def fnNewHeapSpec : ChangeSpec := { name := "fnNewHeap", fn := fun _ => fun
  | [d] => { results := [.lit (.bool true)], args := [d] }
  | _ => none }
def fnNewHeapRow : OpenClaim := { program := "ytcofdgeelojebaa", sum := "2064234727c3332e53aa06e64a4bf800efa857abe376922a6b01b73e44ed74ea", func := "loop.example/cellcollector/laws.FnNewHeap", spec := "fnNewHeap", apart := false }
def FnNewHeapSaid : Prop := fnNewHeapRow.holds Try.pinned (OpenSpec.ofChange fnNewHeapSpec)

/-- ITS FALSE NEIGHBOUR: 'it returns false'. Refute it at one input. -/
def fnNewHeapWrong : ChangeSpec := { name := "fnNewHeap", fn := fun _ => fun
  | [d] => { results := [.lit (.bool false)], args := [d] }
  | _ => none }
def FnNewHeapWrongFalsely : Prop := fnNewHeapRow.holds Try.pinned (OpenSpec.ofChange fnNewHeapWrong)

/-- 'laws.FnExactCountColor': WHATEVER THE INPUT: true; the input reads as it did. -/
def fnExactCountColorSpec : ChangeSpec := { name := "fnExactCountColor", fn := fun _ => fun
  | [d1, d2] => { results := [.lit (.bool true)], args := [d1, d2] }
  | _ => none }
def fnExactCountColorRow : OpenClaim := { program := "ytcofdgeelojebaa", sum := "2064234727c3332e53aa06e64a4bf800efa857abe376922a6b01b73e44ed74ea", func := "loop.example/cellcollector/laws.FnExactCountColor", spec := "fnExactCountColor", apart := false }
def FnExactCountColorSaid : Prop := fnExactCountColorRow.holds Try.pinned (OpenSpec.ofChange fnExactCountColorSpec)

/-- ITS FALSE NEIGHBOUR: 'it returns false'. Refute it at one input. -/
def fnExactCountColorWrong : ChangeSpec := { name := "fnExactCountColor", fn := fun _ => fun
  | [d1, d2] => { results := [.lit (.bool false)], args := [d1, d2] }
  | _ => none }
def FnExactCountColorWrongFalsely : Prop := fnExactCountColorRow.holds Try.pinned (OpenSpec.ofChange fnExactCountColorWrong)

/-- 'laws.FnExactPutRoot': WHATEVER THE INPUT: true; the input reads as it did. -/
def fnExactPutRootSpec : ChangeSpec := { name := "fnExactPutRoot", fn := fun _ => fun
  | [d1, d2, d3] => { results := [.lit (.bool true)], args := [d1, d2, d3] }
  | _ => none }
def fnExactPutRootRow : OpenClaim := { program := "ytcofdgeelojebaa", sum := "2064234727c3332e53aa06e64a4bf800efa857abe376922a6b01b73e44ed74ea", func := "loop.example/cellcollector/laws.FnExactPutRoot", spec := "fnExactPutRoot", apart := false }
def FnExactPutRootSaid : Prop := fnExactPutRootRow.holds Try.pinned (OpenSpec.ofChange fnExactPutRootSpec)

/-- ITS FALSE NEIGHBOUR: 'it returns false'. Refute it at one input. -/
def fnExactPutRootWrong : ChangeSpec := { name := "fnExactPutRoot", fn := fun _ => fun
  | [d1, d2, d3] => { results := [.lit (.bool false)], args := [d1, d2, d3] }
  | _ => none }
def FnExactPutRootWrongFalsely : Prop := fnExactPutRootRow.holds Try.pinned (OpenSpec.ofChange fnExactPutRootWrong)

/-- 'laws.FnExactPutLeft': WHATEVER THE INPUT: true; the input reads as it did. -/
def fnExactPutLeftSpec : ChangeSpec := { name := "fnExactPutLeft", fn := fun _ => fun
  | [d1, d2, d3] => { results := [.lit (.bool true)], args := [d1, d2, d3] }
  | _ => none }
def fnExactPutLeftRow : OpenClaim := { program := "ytcofdgeelojebaa", sum := "2064234727c3332e53aa06e64a4bf800efa857abe376922a6b01b73e44ed74ea", func := "loop.example/cellcollector/laws.FnExactPutLeft", spec := "fnExactPutLeft", apart := false }
def FnExactPutLeftSaid : Prop := fnExactPutLeftRow.holds Try.pinned (OpenSpec.ofChange fnExactPutLeftSpec)

/-- ITS FALSE NEIGHBOUR: 'it returns false'. Refute it at one input. -/
def fnExactPutLeftWrong : ChangeSpec := { name := "fnExactPutLeft", fn := fun _ => fun
  | [d1, d2, d3] => { results := [.lit (.bool false)], args := [d1, d2, d3] }
  | _ => none }
def FnExactPutLeftWrongFalsely : Prop := fnExactPutLeftRow.holds Try.pinned (OpenSpec.ofChange fnExactPutLeftWrong)

/-- 'laws.FnExactPutRight': WHATEVER THE INPUT: true; the input reads as it did. -/
def fnExactPutRightSpec : ChangeSpec := { name := "fnExactPutRight", fn := fun _ => fun
  | [d1, d2, d3] => { results := [.lit (.bool true)], args := [d1, d2, d3] }
  | _ => none }
def fnExactPutRightRow : OpenClaim := { program := "ytcofdgeelojebaa", sum := "2064234727c3332e53aa06e64a4bf800efa857abe376922a6b01b73e44ed74ea", func := "loop.example/cellcollector/laws.FnExactPutRight", spec := "fnExactPutRight", apart := false }
def FnExactPutRightSaid : Prop := fnExactPutRightRow.holds Try.pinned (OpenSpec.ofChange fnExactPutRightSpec)

/-- ITS FALSE NEIGHBOUR: 'it returns false'. Refute it at one input. -/
def fnExactPutRightWrong : ChangeSpec := { name := "fnExactPutRight", fn := fun _ => fun
  | [d1, d2, d3] => { results := [.lit (.bool false)], args := [d1, d2, d3] }
  | _ => none }
def FnExactPutRightWrongFalsely : Prop := fnExactPutRightRow.holds Try.pinned (OpenSpec.ofChange fnExactPutRightWrong)

/-- 'laws.FnPutRightOthers': WHATEVER THE INPUT: true; the input reads as it did. -/
def fnPutRightOthersSpec : ChangeSpec := { name := "fnPutRightOthers", fn := fun _ => fun
  | [d] => { results := [.lit (.bool true)], args := [d] }
  | _ => none }
def fnPutRightOthersRow : OpenClaim := { program := "ytcofdgeelojebaa", sum := "2064234727c3332e53aa06e64a4bf800efa857abe376922a6b01b73e44ed74ea", func := "loop.example/cellcollector/laws.FnPutRightOthers", spec := "fnPutRightOthers", apart := false }
def FnPutRightOthersSaid : Prop := fnPutRightOthersRow.holds Try.pinned (OpenSpec.ofChange fnPutRightOthersSpec)

/-- ITS FALSE NEIGHBOUR: 'it returns false'. Refute it at one input. -/
def fnPutRightOthersWrong : ChangeSpec := { name := "fnPutRightOthers", fn := fun _ => fun
  | [d] => { results := [.lit (.bool false)], args := [d] }
  | _ => none }
def FnPutRightOthersWrongFalsely : Prop := fnPutRightOthersRow.holds Try.pinned (OpenSpec.ofChange fnPutRightOthersWrong)

/-- 'laws.FnExactColorHolds': WHATEVER THE INPUT: true; the input reads as it did. -/
def fnExactColorHoldsSpec : ChangeSpec := { name := "fnExactColorHolds", fn := fun _ => fun
  | [d] => { results := [.lit (.bool true)], args := [d] }
  | _ => none }
def fnExactColorHoldsRow : OpenClaim := { program := "ytcofdgeelojebaa", sum := "2064234727c3332e53aa06e64a4bf800efa857abe376922a6b01b73e44ed74ea", func := "loop.example/cellcollector/laws.FnExactColorHolds", spec := "fnExactColorHolds", unfollowed := true, recurses := true, apart := false }
def FnExactColorHoldsSaid : Prop := fnExactColorHoldsRow.holds Try.pinned (OpenSpec.ofChange fnExactColorHoldsSpec)

/-- ITS FALSE NEIGHBOUR: 'it returns false'. Refute it at one input. -/
def fnExactColorHoldsWrong : ChangeSpec := { name := "fnExactColorHolds", fn := fun _ => fun
  | [d] => { results := [.lit (.bool false)], args := [d] }
  | _ => none }
def FnExactColorHoldsWrongFalsely : Prop := fnExactColorHoldsRow.holds Try.pinned (OpenSpec.ofChange fnExactColorHoldsWrong)

/- THE SECOND FORM. 'bulk': how many values and letters a reading holds, each counted each time it is reached (what is shared counts as often as it is met; a slice's spare places count too). A statement '..UptoSaid' is the law's where the arguments, and the package variables that the reading takes, are together of bulk at most 1048576: NARROWER than '..Said'. Prove '..Said' where nothing that the law and all that it calls make is longer than what came in: it says more and counts as full. Else prove '..UptoSaid'. A law counts once. -/
mutual
def uptoBulk {H : Type} : DataW H → Nat
  | .lit (.string bytes) => bytes.length + 1
  | .lit _ => 1
  | .nil => 1
  | .ptr d => uptoBulk d + 1
  | .slice elems spare => uptoBulkAll elems + uptoBulkAll spare + 1
  | .agg parts => uptoBulkAll parts + 1
  | .iface _ d => uptoBulk d + 1
  | .map entries => uptoBulkEntries entries + 1
  | .held _ => 1
def uptoBulkAll {H : Type} : List (DataW H) → Nat
  | [] => 0
  | d :: r => uptoBulk d + uptoBulkAll r
def uptoBulkEntries {H : Type} : List (Lit × DataW H) → Nat
  | [] => 0
  | x :: r => uptoBulkEntry x + uptoBulkEntries r
def uptoBulkEntry {H : Type} : Lit × DataW H → Nat
  | (.string bytes, d) => bytes.length + uptoBulk d + 1
  | (_, d) => uptoBulk d + 1
 end
def uptoSmall : (H : Type) → List (DataW H) → Bool := fun _ ds => decide (uptoBulkAll ds ≤ 1048576)
def OpenSpec.upto (s : _root_.Go.ChangeSpec) : _root_.Go.OpenSpec := { _root_.Go.OpenSpec.ofChange s with cond := some uptoSmall }

/-- 'laws.FnPutRight', WHERE WHAT IT READS IS OF BULK AT MOST 1048576: true; the input reads as it did. -/
def fnPutRightUptoRow : OpenClaim := { program := "ytcofdgeelojebaa", sum := "2064234727c3332e53aa06e64a4bf800efa857abe376922a6b01b73e44ed74ea", func := "loop.example/cellcollector/laws.FnPutRight", spec := "fnPutRight", apart := false, narrowed := true }
def FnPutRightUptoSaid : Prop := fnPutRightUptoRow.holds Try.pinned (OpenSpec.upto fnPutRightSpec)

/-- 'laws.FnExactHasCycle', WHERE WHAT IT READS IS OF BULK AT MOST 1048576: true; the input reads as it did. -/
def fnExactHasCycleUptoRow : OpenClaim := { program := "ytcofdgeelojebaa", sum := "2064234727c3332e53aa06e64a4bf800efa857abe376922a6b01b73e44ed74ea", func := "loop.example/cellcollector/laws.FnExactHasCycle", spec := "fnExactHasCycle", unfollowed := true, recurses := true, apart := false, narrowed := true }
def FnExactHasCycleUptoSaid : Prop := fnExactHasCycleUptoRow.holds Try.pinned (OpenSpec.upto fnExactHasCycleSpec)

/-- 'laws.FnExactDistanceOf', WHERE WHAT IT READS IS OF BULK AT MOST 1048576: true; the input reads as it did. -/
def fnExactDistanceOfUptoRow : OpenClaim := { program := "ytcofdgeelojebaa", sum := "2064234727c3332e53aa06e64a4bf800efa857abe376922a6b01b73e44ed74ea", func := "loop.example/cellcollector/laws.FnExactDistanceOf", spec := "fnExactDistanceOf", unfollowed := true, recurses := true, apart := false, narrowed := true }
def FnExactDistanceOfUptoSaid : Prop := fnExactDistanceOfUptoRow.holds Try.pinned (OpenSpec.upto fnExactDistanceOfSpec)

/-- 'laws.FnNewHeap', WHERE WHAT IT READS IS OF BULK AT MOST 1048576: true; the input reads as it did. -/
def fnNewHeapUptoRow : OpenClaim := { program := "ytcofdgeelojebaa", sum := "2064234727c3332e53aa06e64a4bf800efa857abe376922a6b01b73e44ed74ea", func := "loop.example/cellcollector/laws.FnNewHeap", spec := "fnNewHeap", apart := false, narrowed := true }
def FnNewHeapUptoSaid : Prop := fnNewHeapUptoRow.holds Try.pinned (OpenSpec.upto fnNewHeapSpec)

/-- 'laws.FnExactCountColor', WHERE WHAT IT READS IS OF BULK AT MOST 1048576: true; the input reads as it did. -/
def fnExactCountColorUptoRow : OpenClaim := { program := "ytcofdgeelojebaa", sum := "2064234727c3332e53aa06e64a4bf800efa857abe376922a6b01b73e44ed74ea", func := "loop.example/cellcollector/laws.FnExactCountColor", spec := "fnExactCountColor", apart := false, narrowed := true }
def FnExactCountColorUptoSaid : Prop := fnExactCountColorUptoRow.holds Try.pinned (OpenSpec.upto fnExactCountColorSpec)

/-- 'laws.FnExactPutRoot', WHERE WHAT IT READS IS OF BULK AT MOST 1048576: true; the input reads as it did. -/
def fnExactPutRootUptoRow : OpenClaim := { program := "ytcofdgeelojebaa", sum := "2064234727c3332e53aa06e64a4bf800efa857abe376922a6b01b73e44ed74ea", func := "loop.example/cellcollector/laws.FnExactPutRoot", spec := "fnExactPutRoot", apart := false, narrowed := true }
def FnExactPutRootUptoSaid : Prop := fnExactPutRootUptoRow.holds Try.pinned (OpenSpec.upto fnExactPutRootSpec)

/-- 'laws.FnExactPutLeft', WHERE WHAT IT READS IS OF BULK AT MOST 1048576: true; the input reads as it did. -/
def fnExactPutLeftUptoRow : OpenClaim := { program := "ytcofdgeelojebaa", sum := "2064234727c3332e53aa06e64a4bf800efa857abe376922a6b01b73e44ed74ea", func := "loop.example/cellcollector/laws.FnExactPutLeft", spec := "fnExactPutLeft", apart := false, narrowed := true }
def FnExactPutLeftUptoSaid : Prop := fnExactPutLeftUptoRow.holds Try.pinned (OpenSpec.upto fnExactPutLeftSpec)

/-- 'laws.FnExactPutRight', WHERE WHAT IT READS IS OF BULK AT MOST 1048576: true; the input reads as it did. -/
def fnExactPutRightUptoRow : OpenClaim := { program := "ytcofdgeelojebaa", sum := "2064234727c3332e53aa06e64a4bf800efa857abe376922a6b01b73e44ed74ea", func := "loop.example/cellcollector/laws.FnExactPutRight", spec := "fnExactPutRight", apart := false, narrowed := true }
def FnExactPutRightUptoSaid : Prop := fnExactPutRightUptoRow.holds Try.pinned (OpenSpec.upto fnExactPutRightSpec)

/-- 'laws.FnPutRightOthers', WHERE WHAT IT READS IS OF BULK AT MOST 1048576: true; the input reads as it did. -/
def fnPutRightOthersUptoRow : OpenClaim := { program := "ytcofdgeelojebaa", sum := "2064234727c3332e53aa06e64a4bf800efa857abe376922a6b01b73e44ed74ea", func := "loop.example/cellcollector/laws.FnPutRightOthers", spec := "fnPutRightOthers", apart := false, narrowed := true }
def FnPutRightOthersUptoSaid : Prop := fnPutRightOthersUptoRow.holds Try.pinned (OpenSpec.upto fnPutRightOthersSpec)

/-- 'laws.FnExactColorHolds', WHERE WHAT IT READS IS OF BULK AT MOST 1048576: true; the input reads as it did. -/
def fnExactColorHoldsUptoRow : OpenClaim := { program := "ytcofdgeelojebaa", sum := "2064234727c3332e53aa06e64a4bf800efa857abe376922a6b01b73e44ed74ea", func := "loop.example/cellcollector/laws.FnExactColorHolds", spec := "fnExactColorHolds", unfollowed := true, recurses := true, apart := false, narrowed := true }
def FnExactColorHoldsUptoSaid : Prop := fnExactColorHoldsUptoRow.holds Try.pinned (OpenSpec.upto fnExactColorHoldsSpec)

end Rows
end Go.Proofs.Ytcofdgeelojebaa
