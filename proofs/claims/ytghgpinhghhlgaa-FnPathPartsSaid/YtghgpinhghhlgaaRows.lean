/-
  No cell of these rows narrows 'for every input' (looked for: loops, veiled, ifaces, maps, wideKeys, modest, calm, conditions, laid).
  DERIVED. THE GIVEN ROWS OF THIS SEAT. 10 by the template 'for every input the law returns true; each argument reads behind the call as it read before'; 0 by the template 'total and deterministic' (their statements: YtghgpinhghhlgaaTotals.lean).
  GIVEN WITH THE SEED: the statements are not yours to turn. If you find one false, say at which input.
  Laid BY PROGRAM, IN A SANDBOX (cutbox-rows.mjs): the forced cells as the released guide's own fill.sh prints them over the translation 7425bc2d98d94bdf… (all of the seat's roots in one cut). By AI agents, Wed Nov 11 2026. No macro, syntax, notation, axiom, sorry.
-/
import Derived.Test.YtghgpinhghhlgaaChecked
import GoSem.Claim
import GoSem.ClaimJoined
import GoSem.ClaimMapViews
import Derived.JoinedTies
import Derived.KernelRfl
namespace Go.Proofs.Ytghgpinhghhlgaa
/- THE CELL 'sum', in the pinned program and in every row, IS THE sha256 OF THE DUMP (.gsa) THAT YtghgpinhghhlgaaProg.lean LOADS. Nothing in Lean hashes anything: it is a label: what it is worth is what the hold of that sum in a sandbox is worth. -/
noncomputable def Try.pinned : Pinned := { name := "ytghgpinhghhlgaa", sum := "7425bc2d98d94bdf674a89d68206fd514997c37a947571fe6af043046d243f09", checked := Try.checked }
namespace Rows
def none {H : Type} : Left H := { results := [], args := [] }

/-- 'laws.FnPutRoot': WHATEVER THE INPUT: true; the input reads as it did. -/
def fnPutRootSpec : ChangeSpec := { name := "fnPutRoot", fn := fun _ => fun
  | [d] => { results := [.lit (.bool true)], args := [d] }
  | _ => none }
def fnPutRootRow : OpenClaim := { program := "ytghgpinhghhlgaa", sum := "7425bc2d98d94bdf674a89d68206fd514997c37a947571fe6af043046d243f09", func := "loop.example/cellcollector/laws.FnPutRoot", spec := "fnPutRoot", apart := false }
def FnPutRootSaid : Prop := fnPutRootRow.holds Try.pinned (OpenSpec.ofChange fnPutRootSpec)

/-- ITS FALSE NEIGHBOUR: 'it returns false'. Refute it at one input. -/
def fnPutRootWrong : ChangeSpec := { name := "fnPutRoot", fn := fun _ => fun
  | [d] => { results := [.lit (.bool false)], args := [d] }
  | _ => none }
def FnPutRootWrongFalsely : Prop := fnPutRootRow.holds Try.pinned (OpenSpec.ofChange fnPutRootWrong)

/-- 'laws.FnPutRootOthers': WHATEVER THE INPUT: true; the input reads as it did. -/
def fnPutRootOthersSpec : ChangeSpec := { name := "fnPutRootOthers", fn := fun _ => fun
  | [d] => { results := [.lit (.bool true)], args := [d] }
  | _ => none }
def fnPutRootOthersRow : OpenClaim := { program := "ytghgpinhghhlgaa", sum := "7425bc2d98d94bdf674a89d68206fd514997c37a947571fe6af043046d243f09", func := "loop.example/cellcollector/laws.FnPutRootOthers", spec := "fnPutRootOthers", apart := false }
def FnPutRootOthersSaid : Prop := fnPutRootOthersRow.holds Try.pinned (OpenSpec.ofChange fnPutRootOthersSpec)

/-- ITS FALSE NEIGHBOUR: 'it returns false'. Refute it at one input. -/
def fnPutRootOthersWrong : ChangeSpec := { name := "fnPutRootOthers", fn := fun _ => fun
  | [d] => { results := [.lit (.bool false)], args := [d] }
  | _ => none }
def FnPutRootOthersWrongFalsely : Prop := fnPutRootOthersRow.holds Try.pinned (OpenSpec.ofChange fnPutRootOthersWrong)

/-- 'laws.FnGarbageOf': WHATEVER THE INPUT: true; the input reads as it did. -/
def fnGarbageOfSpec : ChangeSpec := { name := "fnGarbageOf", fn := fun _ => fun
  | [d] => { results := [.lit (.bool true)], args := [d] }
  | _ => none }
def fnGarbageOfRow : OpenClaim := { program := "ytghgpinhghhlgaa", sum := "7425bc2d98d94bdf674a89d68206fd514997c37a947571fe6af043046d243f09", func := "loop.example/cellcollector/laws.FnGarbageOf", spec := "fnGarbageOf", unfollowed := true, recurses := true, apart := false }
def FnGarbageOfSaid : Prop := fnGarbageOfRow.holds Try.pinned (OpenSpec.ofChange fnGarbageOfSpec)

/-- ITS FALSE NEIGHBOUR: 'it returns false'. Refute it at one input. -/
def fnGarbageOfWrong : ChangeSpec := { name := "fnGarbageOf", fn := fun _ => fun
  | [d] => { results := [.lit (.bool false)], args := [d] }
  | _ => none }
def FnGarbageOfWrongFalsely : Prop := fnGarbageOfRow.holds Try.pinned (OpenSpec.ofChange fnGarbageOfWrong)

/-- 'laws.FnCountLive': WHATEVER THE INPUT: true; the input reads as it did. -/
def fnCountLiveSpec : ChangeSpec := { name := "fnCountLive", fn := fun _ => fun
  | [d] => { results := [.lit (.bool true)], args := [d] }
  | _ => none }
def fnCountLiveRow : OpenClaim := { program := "ytghgpinhghhlgaa", sum := "7425bc2d98d94bdf674a89d68206fd514997c37a947571fe6af043046d243f09", func := "loop.example/cellcollector/laws.FnCountLive", spec := "fnCountLive", unfollowed := true, recurses := true, apart := false }
def FnCountLiveSaid : Prop := fnCountLiveRow.holds Try.pinned (OpenSpec.ofChange fnCountLiveSpec)

/-- ITS FALSE NEIGHBOUR: 'it returns false'. Refute it at one input. -/
def fnCountLiveWrong : ChangeSpec := { name := "fnCountLive", fn := fun _ => fun
  | [d] => { results := [.lit (.bool false)], args := [d] }
  | _ => none }
def FnCountLiveWrongFalsely : Prop := fnCountLiveRow.holds Try.pinned (OpenSpec.ofChange fnCountLiveWrong)

/-- 'laws.FnRootDistance': WHATEVER THE INPUT: true; the input reads as it did. -/
def fnRootDistanceSpec : ChangeSpec := { name := "fnRootDistance", fn := fun _ => fun
  | [d] => { results := [.lit (.bool true)], args := [d] }
  | _ => none }
def fnRootDistanceRow : OpenClaim := { program := "ytghgpinhghhlgaa", sum := "7425bc2d98d94bdf674a89d68206fd514997c37a947571fe6af043046d243f09", func := "loop.example/cellcollector/laws.FnRootDistance", spec := "fnRootDistance", unfollowed := true, recurses := true, apart := false }
def FnRootDistanceSaid : Prop := fnRootDistanceRow.holds Try.pinned (OpenSpec.ofChange fnRootDistanceSpec)

/-- ITS FALSE NEIGHBOUR: 'it returns false'. Refute it at one input. -/
def fnRootDistanceWrong : ChangeSpec := { name := "fnRootDistance", fn := fun _ => fun
  | [d] => { results := [.lit (.bool false)], args := [d] }
  | _ => none }
def FnRootDistanceWrongFalsely : Prop := fnRootDistanceRow.holds Try.pinned (OpenSpec.ofChange fnRootDistanceWrong)

/-- 'laws.FnPathParts': WHATEVER THE INPUT: true; the input reads as it did. -/
def fnPathPartsSpec : ChangeSpec := { name := "fnPathParts", fn := fun _ => fun
  | [d] => { results := [.lit (.bool true)], args := [d] }
  | _ => none }
def fnPathPartsRow : OpenClaim := { program := "ytghgpinhghhlgaa", sum := "7425bc2d98d94bdf674a89d68206fd514997c37a947571fe6af043046d243f09", func := "loop.example/cellcollector/laws.FnPathParts", spec := "fnPathParts", unfollowed := true, recurses := true, apart := false }
def FnPathPartsSaid : Prop := fnPathPartsRow.holds Try.pinned (OpenSpec.ofChange fnPathPartsSpec)

/-- ITS FALSE NEIGHBOUR: 'it returns false'. Refute it at one input. -/
def fnPathPartsWrong : ChangeSpec := { name := "fnPathParts", fn := fun _ => fun
  | [d] => { results := [.lit (.bool false)], args := [d] }
  | _ => none }
def FnPathPartsWrongFalsely : Prop := fnPathPartsRow.holds Try.pinned (OpenSpec.ofChange fnPathPartsWrong)

/-- 'laws.FnPathTo': WHATEVER THE INPUT: true; the input reads as it did. -/
def fnPathToSpec : ChangeSpec := { name := "fnPathTo", fn := fun _ => fun
  | [d] => { results := [.lit (.bool true)], args := [d] }
  | _ => none }
def fnPathToRow : OpenClaim := { program := "ytghgpinhghhlgaa", sum := "7425bc2d98d94bdf674a89d68206fd514997c37a947571fe6af043046d243f09", func := "loop.example/cellcollector/laws.FnPathTo", spec := "fnPathTo", unfollowed := true, recurses := true, apart := false }
def FnPathToSaid : Prop := fnPathToRow.holds Try.pinned (OpenSpec.ofChange fnPathToSpec)

/-- ITS FALSE NEIGHBOUR: 'it returns false'. Refute it at one input. -/
def fnPathToWrong : ChangeSpec := { name := "fnPathTo", fn := fun _ => fun
  | [d] => { results := [.lit (.bool false)], args := [d] }
  | _ => none }
def FnPathToWrongFalsely : Prop := fnPathToRow.holds Try.pinned (OpenSpec.ofChange fnPathToWrong)

/-- 'laws.FnGarbagePointers': WHATEVER THE INPUT: true; the input reads as it did. -/
def fnGarbagePointersSpec : ChangeSpec := { name := "fnGarbagePointers", fn := fun _ => fun
  | [d] => { results := [.lit (.bool true)], args := [d] }
  | _ => none }
def fnGarbagePointersRow : OpenClaim := { program := "ytghgpinhghhlgaa", sum := "7425bc2d98d94bdf674a89d68206fd514997c37a947571fe6af043046d243f09", func := "loop.example/cellcollector/laws.FnGarbagePointers", spec := "fnGarbagePointers", unfollowed := true, recurses := true, apart := false }
def FnGarbagePointersSaid : Prop := fnGarbagePointersRow.holds Try.pinned (OpenSpec.ofChange fnGarbagePointersSpec)

/-- ITS FALSE NEIGHBOUR: 'it returns false'. Refute it at one input. -/
def fnGarbagePointersWrong : ChangeSpec := { name := "fnGarbagePointers", fn := fun _ => fun
  | [d] => { results := [.lit (.bool false)], args := [d] }
  | _ => none }
def FnGarbagePointersWrongFalsely : Prop := fnGarbagePointersRow.holds Try.pinned (OpenSpec.ofChange fnGarbagePointersWrong)

/-- 'laws.FnClearAll': WHATEVER THE INPUT: true; the input reads as it did. -/
def fnClearAllSpec : ChangeSpec := { name := "fnClearAll", fn := fun _ => fun
  | [d] => { results := [.lit (.bool true)], args := [d] }
  | _ => none }
def fnClearAllRow : OpenClaim := { program := "ytghgpinhghhlgaa", sum := "7425bc2d98d94bdf674a89d68206fd514997c37a947571fe6af043046d243f09", func := "loop.example/cellcollector/laws.FnClearAll", spec := "fnClearAll", apart := false }
def FnClearAllSaid : Prop := fnClearAllRow.holds Try.pinned (OpenSpec.ofChange fnClearAllSpec)

/-- ITS FALSE NEIGHBOUR: 'it returns false'. Refute it at one input. -/
def fnClearAllWrong : ChangeSpec := { name := "fnClearAll", fn := fun _ => fun
  | [d] => { results := [.lit (.bool false)], args := [d] }
  | _ => none }
def FnClearAllWrongFalsely : Prop := fnClearAllRow.holds Try.pinned (OpenSpec.ofChange fnClearAllWrong)

/-- 'laws.FnHeapValid': WHATEVER THE INPUT: true; the input reads as it did. -/
def fnHeapValidSpec : ChangeSpec := { name := "fnHeapValid", fn := fun _ => fun
  | [d] => { results := [.lit (.bool true)], args := [d] }
  | _ => none }
def fnHeapValidRow : OpenClaim := { program := "ytghgpinhghhlgaa", sum := "7425bc2d98d94bdf674a89d68206fd514997c37a947571fe6af043046d243f09", func := "loop.example/cellcollector/laws.FnHeapValid", spec := "fnHeapValid", apart := false }
def FnHeapValidSaid : Prop := fnHeapValidRow.holds Try.pinned (OpenSpec.ofChange fnHeapValidSpec)

/-- ITS FALSE NEIGHBOUR: 'it returns false'. Refute it at one input. -/
def fnHeapValidWrong : ChangeSpec := { name := "fnHeapValid", fn := fun _ => fun
  | [d] => { results := [.lit (.bool false)], args := [d] }
  | _ => none }
def FnHeapValidWrongFalsely : Prop := fnHeapValidRow.holds Try.pinned (OpenSpec.ofChange fnHeapValidWrong)

/- THE SECOND FORM. 'bulk': how many values and letters a reading holds, each counted each time it is reached (what is shared counts as often as it is met; a slice's spare places count too). A statement '..UptoSaid' is the law's where the arguments, and the package variables that the reading takes, are together of bulk at most 1048576: NARROWER than '..Said'. Prove '..Said' where nothing that the law and all that it calls make is longer than what came in: it says more and counts as full. Else prove '..UptoSaid'. A law counts once. -/
mutual
def uptoBulk {H : Type} : DataW H → Nat
  | .lit (.string bytes) => bytes.length + 1
  | .lit _ => 1
  | .nil => 1
  | .ptr d => uptoBulk d + 1
  | .slice elems spare => uptoBulkAll elems + uptoBulkAll spare + 1
  | .agg parts => uptoBulkAll parts + 1
  | .iface _ d => uptoBulk d + 1
  | .map entries => uptoBulkEntries entries + 1
  | .held _ => 1
def uptoBulkAll {H : Type} : List (DataW H) → Nat
  | [] => 0
  | d :: r => uptoBulk d + uptoBulkAll r
def uptoBulkEntries {H : Type} : List (Lit × DataW H) → Nat
  | [] => 0
  | x :: r => uptoBulkEntry x + uptoBulkEntries r
def uptoBulkEntry {H : Type} : Lit × DataW H → Nat
  | (.string bytes, d) => bytes.length + uptoBulk d + 1
  | (_, d) => uptoBulk d + 1
 end
def uptoSmall : (H : Type) → List (DataW H) → Bool := fun _ ds => decide (uptoBulkAll ds ≤ 1048576)
def OpenSpec.upto (s : _root_.Go.ChangeSpec) : _root_.Go.OpenSpec := { _root_.Go.OpenSpec.ofChange s with cond := some uptoSmall }

/-- 'laws.FnPutRoot', WHERE WHAT IT READS IS OF BULK AT MOST 1048576: true; the input reads as it did. -/
def fnPutRootUptoRow : OpenClaim := { program := "ytghgpinhghhlgaa", sum := "7425bc2d98d94bdf674a89d68206fd514997c37a947571fe6af043046d243f09", func := "loop.example/cellcollector/laws.FnPutRoot", spec := "fnPutRoot", apart := false, narrowed := true }
def FnPutRootUptoSaid : Prop := fnPutRootUptoRow.holds Try.pinned (OpenSpec.upto fnPutRootSpec)

/-- 'laws.FnPutRootOthers', WHERE WHAT IT READS IS OF BULK AT MOST 1048576: true; the input reads as it did. -/
def fnPutRootOthersUptoRow : OpenClaim := { program := "ytghgpinhghhlgaa", sum := "7425bc2d98d94bdf674a89d68206fd514997c37a947571fe6af043046d243f09", func := "loop.example/cellcollector/laws.FnPutRootOthers", spec := "fnPutRootOthers", apart := false, narrowed := true }
def FnPutRootOthersUptoSaid : Prop := fnPutRootOthersUptoRow.holds Try.pinned (OpenSpec.upto fnPutRootOthersSpec)

/-- 'laws.FnGarbageOf', WHERE WHAT IT READS IS OF BULK AT MOST 1048576: true; the input reads as it did. -/
def fnGarbageOfUptoRow : OpenClaim := { program := "ytghgpinhghhlgaa", sum := "7425bc2d98d94bdf674a89d68206fd514997c37a947571fe6af043046d243f09", func := "loop.example/cellcollector/laws.FnGarbageOf", spec := "fnGarbageOf", unfollowed := true, recurses := true, apart := false, narrowed := true }
def FnGarbageOfUptoSaid : Prop := fnGarbageOfUptoRow.holds Try.pinned (OpenSpec.upto fnGarbageOfSpec)

/-- 'laws.FnCountLive', WHERE WHAT IT READS IS OF BULK AT MOST 1048576: true; the input reads as it did. -/
def fnCountLiveUptoRow : OpenClaim := { program := "ytghgpinhghhlgaa", sum := "7425bc2d98d94bdf674a89d68206fd514997c37a947571fe6af043046d243f09", func := "loop.example/cellcollector/laws.FnCountLive", spec := "fnCountLive", unfollowed := true, recurses := true, apart := false, narrowed := true }
def FnCountLiveUptoSaid : Prop := fnCountLiveUptoRow.holds Try.pinned (OpenSpec.upto fnCountLiveSpec)

/-- 'laws.FnRootDistance', WHERE WHAT IT READS IS OF BULK AT MOST 1048576: true; the input reads as it did. -/
def fnRootDistanceUptoRow : OpenClaim := { program := "ytghgpinhghhlgaa", sum := "7425bc2d98d94bdf674a89d68206fd514997c37a947571fe6af043046d243f09", func := "loop.example/cellcollector/laws.FnRootDistance", spec := "fnRootDistance", unfollowed := true, recurses := true, apart := false, narrowed := true }
def FnRootDistanceUptoSaid : Prop := fnRootDistanceUptoRow.holds Try.pinned (OpenSpec.upto fnRootDistanceSpec)

/-- 'laws.FnPathParts', WHERE WHAT IT READS IS OF BULK AT MOST 1048576: true; the input reads as it did. -/
def fnPathPartsUptoRow : OpenClaim := { program := "ytghgpinhghhlgaa", sum := "7425bc2d98d94bdf674a89d68206fd514997c37a947571fe6af043046d243f09", func := "loop.example/cellcollector/laws.FnPathParts", spec := "fnPathParts", unfollowed := true, recurses := true, apart := false, narrowed := true }
def FnPathPartsUptoSaid : Prop := fnPathPartsUptoRow.holds Try.pinned (OpenSpec.upto fnPathPartsSpec)

/-- 'laws.FnPathTo', WHERE WHAT IT READS IS OF BULK AT MOST 1048576: true; the input reads as it did. -/
def fnPathToUptoRow : OpenClaim := { program := "ytghgpinhghhlgaa", sum := "7425bc2d98d94bdf674a89d68206fd514997c37a947571fe6af043046d243f09", func := "loop.example/cellcollector/laws.FnPathTo", spec := "fnPathTo", unfollowed := true, recurses := true, apart := false, narrowed := true }
def FnPathToUptoSaid : Prop := fnPathToUptoRow.holds Try.pinned (OpenSpec.upto fnPathToSpec)

/-- 'laws.FnGarbagePointers', WHERE WHAT IT READS IS OF BULK AT MOST 1048576: true; the input reads as it did. -/
def fnGarbagePointersUptoRow : OpenClaim := { program := "ytghgpinhghhlgaa", sum := "7425bc2d98d94bdf674a89d68206fd514997c37a947571fe6af043046d243f09", func := "loop.example/cellcollector/laws.FnGarbagePointers", spec := "fnGarbagePointers", unfollowed := true, recurses := true, apart := false, narrowed := true }
def FnGarbagePointersUptoSaid : Prop := fnGarbagePointersUptoRow.holds Try.pinned (OpenSpec.upto fnGarbagePointersSpec)

/-- 'laws.FnClearAll', WHERE WHAT IT READS IS OF BULK AT MOST 1048576: true; the input reads as it did. -/
def fnClearAllUptoRow : OpenClaim := { program := "ytghgpinhghhlgaa", sum := "7425bc2d98d94bdf674a89d68206fd514997c37a947571fe6af043046d243f09", func := "loop.example/cellcollector/laws.FnClearAll", spec := "fnClearAll", apart := false, narrowed := true }
def FnClearAllUptoSaid : Prop := fnClearAllUptoRow.holds Try.pinned (OpenSpec.upto fnClearAllSpec)

/-- 'laws.FnHeapValid', WHERE WHAT IT READS IS OF BULK AT MOST 1048576: true; the input reads as it did. -/
def fnHeapValidUptoRow : OpenClaim := { program := "ytghgpinhghhlgaa", sum := "7425bc2d98d94bdf674a89d68206fd514997c37a947571fe6af043046d243f09", func := "loop.example/cellcollector/laws.FnHeapValid", spec := "fnHeapValid", apart := false, narrowed := true }
def FnHeapValidUptoSaid : Prop := fnHeapValidUptoRow.holds Try.pinned (OpenSpec.upto fnHeapValidSpec)

end Rows
end Go.Proofs.Ytghgpinhghhlgaa
