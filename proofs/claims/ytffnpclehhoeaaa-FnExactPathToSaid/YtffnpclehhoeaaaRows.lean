/-
  No cell of these rows narrows 'for every input' (looked for: loops, veiled, ifaces, maps, wideKeys, modest, calm, conditions, laid).
  DERIVED. THE GIVEN ROWS OF THIS SEAT. 12 by the template 'for every input the law returns true; each argument reads behind the call as it read before'; 0 by the template 'total and deterministic' (their statements: YtffnpclehhoeaaaTotals.lean).
  GIVEN WITH THE SEED: the statements are not yours to turn. If you find one false, say at which input.
  Laid BY PROGRAM, IN A SANDBOX (cutbox-rows.mjs): the forced cells as the released guide's own fill.sh prints them over the translation 8bb575f5c72aa46f… (all of the seat's roots in one cut). By AI agents, Wed Nov 11 2026. No macro, syntax, notation, axiom, sorry.
-/
import Derived.Test.YtffnpclehhoeaaaChecked
import GoSem.Claim
import GoSem.ClaimJoined
import GoSem.ClaimMapViews
import Derived.JoinedTies
import Derived.KernelRfl
namespace Go.Proofs.Ytffnpclehhoeaaa
/- THE CELL 'sum', in the pinned program and in every row, IS THE sha256 OF THE DUMP (.gsa) THAT YtffnpclehhoeaaaProg.lean LOADS. Nothing in Lean hashes anything: it is a label: what it is worth is what the hold of that sum in a sandbox is worth. -/
noncomputable def Try.pinned : Pinned := { name := "ytffnpclehhoeaaa", sum := "8bb575f5c72aa46facd9e60c61c6a9bb8e9f928c660cf90e8795fb29fcc1932c", checked := Try.checked }
namespace Rows
def none {H : Type} : Left H := { results := [], args := [] }

/-- 'laws.FnExactReachable': WHATEVER THE INPUT: true; the input reads as it did. -/
def fnExactReachableSpec : ChangeSpec := { name := "fnExactReachable", fn := fun _ => fun
  | [d] => { results := [.lit (.bool true)], args := [d] }
  | _ => none }
def fnExactReachableRow : OpenClaim := { program := "ytffnpclehhoeaaa", sum := "8bb575f5c72aa46facd9e60c61c6a9bb8e9f928c660cf90e8795fb29fcc1932c", func := "loop.example/cellcollector/laws.FnExactReachable", spec := "fnExactReachable", unfollowed := true, recurses := true, apart := false }
def FnExactReachableSaid : Prop := fnExactReachableRow.holds Try.pinned (OpenSpec.ofChange fnExactReachableSpec)

/-- ITS FALSE NEIGHBOUR: 'it returns false'. Refute it at one input. -/
def fnExactReachableWrong : ChangeSpec := { name := "fnExactReachable", fn := fun _ => fun
  | [d] => { results := [.lit (.bool false)], args := [d] }
  | _ => none }
def FnExactReachableWrongFalsely : Prop := fnExactReachableRow.holds Try.pinned (OpenSpec.ofChange fnExactReachableWrong)

/-- 'laws.FnExactGarbageOf': WHATEVER THE INPUT: true; the input reads as it did. -/
def fnExactGarbageOfSpec : ChangeSpec := { name := "fnExactGarbageOf", fn := fun _ => fun
  | [d] => { results := [.lit (.bool true)], args := [d] }
  | _ => none }
def fnExactGarbageOfRow : OpenClaim := { program := "ytffnpclehhoeaaa", sum := "8bb575f5c72aa46facd9e60c61c6a9bb8e9f928c660cf90e8795fb29fcc1932c", func := "loop.example/cellcollector/laws.FnExactGarbageOf", spec := "fnExactGarbageOf", unfollowed := true, recurses := true, apart := false }
def FnExactGarbageOfSaid : Prop := fnExactGarbageOfRow.holds Try.pinned (OpenSpec.ofChange fnExactGarbageOfSpec)

/-- ITS FALSE NEIGHBOUR: 'it returns false'. Refute it at one input. -/
def fnExactGarbageOfWrong : ChangeSpec := { name := "fnExactGarbageOf", fn := fun _ => fun
  | [d] => { results := [.lit (.bool false)], args := [d] }
  | _ => none }
def FnExactGarbageOfWrongFalsely : Prop := fnExactGarbageOfRow.holds Try.pinned (OpenSpec.ofChange fnExactGarbageOfWrong)

/-- 'laws.FnPutRootOthers': WHATEVER THE INPUT: true; the input reads as it did. -/
def fnPutRootOthersSpec : ChangeSpec := { name := "fnPutRootOthers", fn := fun _ => fun
  | [d] => { results := [.lit (.bool true)], args := [d] }
  | _ => none }
def fnPutRootOthersRow : OpenClaim := { program := "ytffnpclehhoeaaa", sum := "8bb575f5c72aa46facd9e60c61c6a9bb8e9f928c660cf90e8795fb29fcc1932c", func := "loop.example/cellcollector/laws.FnPutRootOthers", spec := "fnPutRootOthers", apart := false }
def FnPutRootOthersSaid : Prop := fnPutRootOthersRow.holds Try.pinned (OpenSpec.ofChange fnPutRootOthersSpec)

/-- ITS FALSE NEIGHBOUR: 'it returns false'. Refute it at one input. -/
def fnPutRootOthersWrong : ChangeSpec := { name := "fnPutRootOthers", fn := fun _ => fun
  | [d] => { results := [.lit (.bool false)], args := [d] }
  | _ => none }
def FnPutRootOthersWrongFalsely : Prop := fnPutRootOthersRow.holds Try.pinned (OpenSpec.ofChange fnPutRootOthersWrong)

/-- 'laws.FnGarbageOf': WHATEVER THE INPUT: true; the input reads as it did. -/
def fnGarbageOfSpec : ChangeSpec := { name := "fnGarbageOf", fn := fun _ => fun
  | [d] => { results := [.lit (.bool true)], args := [d] }
  | _ => none }
def fnGarbageOfRow : OpenClaim := { program := "ytffnpclehhoeaaa", sum := "8bb575f5c72aa46facd9e60c61c6a9bb8e9f928c660cf90e8795fb29fcc1932c", func := "loop.example/cellcollector/laws.FnGarbageOf", spec := "fnGarbageOf", unfollowed := true, recurses := true, apart := false }
def FnGarbageOfSaid : Prop := fnGarbageOfRow.holds Try.pinned (OpenSpec.ofChange fnGarbageOfSpec)

/-- ITS FALSE NEIGHBOUR: 'it returns false'. Refute it at one input. -/
def fnGarbageOfWrong : ChangeSpec := { name := "fnGarbageOf", fn := fun _ => fun
  | [d] => { results := [.lit (.bool false)], args := [d] }
  | _ => none }
def FnGarbageOfWrongFalsely : Prop := fnGarbageOfRow.holds Try.pinned (OpenSpec.ofChange fnGarbageOfWrong)

/-- 'laws.FnCountLive': WHATEVER THE INPUT: true; the input reads as it did. -/
def fnCountLiveSpec : ChangeSpec := { name := "fnCountLive", fn := fun _ => fun
  | [d] => { results := [.lit (.bool true)], args := [d] }
  | _ => none }
def fnCountLiveRow : OpenClaim := { program := "ytffnpclehhoeaaa", sum := "8bb575f5c72aa46facd9e60c61c6a9bb8e9f928c660cf90e8795fb29fcc1932c", func := "loop.example/cellcollector/laws.FnCountLive", spec := "fnCountLive", unfollowed := true, recurses := true, apart := false }
def FnCountLiveSaid : Prop := fnCountLiveRow.holds Try.pinned (OpenSpec.ofChange fnCountLiveSpec)

/-- ITS FALSE NEIGHBOUR: 'it returns false'. Refute it at one input. -/
def fnCountLiveWrong : ChangeSpec := { name := "fnCountLive", fn := fun _ => fun
  | [d] => { results := [.lit (.bool false)], args := [d] }
  | _ => none }
def FnCountLiveWrongFalsely : Prop := fnCountLiveRow.holds Try.pinned (OpenSpec.ofChange fnCountLiveWrong)

/-- 'laws.FnRootsGray': WHATEVER THE INPUT: true; the input reads as it did. -/
def fnRootsGraySpec : ChangeSpec := { name := "fnRootsGray", fn := fun _ => fun
  | [d] => { results := [.lit (.bool true)], args := [d] }
  | _ => none }
def fnRootsGrayRow : OpenClaim := { program := "ytffnpclehhoeaaa", sum := "8bb575f5c72aa46facd9e60c61c6a9bb8e9f928c660cf90e8795fb29fcc1932c", func := "loop.example/cellcollector/laws.FnRootsGray", spec := "fnRootsGray", unfollowed := true, recurses := true, apart := false }
def FnRootsGraySaid : Prop := fnRootsGrayRow.holds Try.pinned (OpenSpec.ofChange fnRootsGraySpec)

/-- ITS FALSE NEIGHBOUR: 'it returns false'. Refute it at one input. -/
def fnRootsGrayWrong : ChangeSpec := { name := "fnRootsGray", fn := fun _ => fun
  | [d] => { results := [.lit (.bool false)], args := [d] }
  | _ => none }
def FnRootsGrayWrongFalsely : Prop := fnRootsGrayRow.holds Try.pinned (OpenSpec.ofChange fnRootsGrayWrong)

/-- 'laws.FnRootDistance': WHATEVER THE INPUT: true; the input reads as it did. -/
def fnRootDistanceSpec : ChangeSpec := { name := "fnRootDistance", fn := fun _ => fun
  | [d] => { results := [.lit (.bool true)], args := [d] }
  | _ => none }
def fnRootDistanceRow : OpenClaim := { program := "ytffnpclehhoeaaa", sum := "8bb575f5c72aa46facd9e60c61c6a9bb8e9f928c660cf90e8795fb29fcc1932c", func := "loop.example/cellcollector/laws.FnRootDistance", spec := "fnRootDistance", unfollowed := true, recurses := true, apart := false }
def FnRootDistanceSaid : Prop := fnRootDistanceRow.holds Try.pinned (OpenSpec.ofChange fnRootDistanceSpec)

/-- ITS FALSE NEIGHBOUR: 'it returns false'. Refute it at one input. -/
def fnRootDistanceWrong : ChangeSpec := { name := "fnRootDistance", fn := fun _ => fun
  | [d] => { results := [.lit (.bool false)], args := [d] }
  | _ => none }
def FnRootDistanceWrongFalsely : Prop := fnRootDistanceRow.holds Try.pinned (OpenSpec.ofChange fnRootDistanceWrong)

/-- 'laws.FnExactPathTo': WHATEVER THE INPUT: true; the input reads as it did. -/
def fnExactPathToSpec : ChangeSpec := { name := "fnExactPathTo", fn := fun _ => fun
  | [d1, d2] => { results := [.lit (.bool true)], args := [d1, d2] }
  | _ => none }
def fnExactPathToRow : OpenClaim := { program := "ytffnpclehhoeaaa", sum := "8bb575f5c72aa46facd9e60c61c6a9bb8e9f928c660cf90e8795fb29fcc1932c", func := "loop.example/cellcollector/laws.FnExactPathTo", spec := "fnExactPathTo", unfollowed := true, recurses := true, apart := false }
def FnExactPathToSaid : Prop := fnExactPathToRow.holds Try.pinned (OpenSpec.ofChange fnExactPathToSpec)

/-- ITS FALSE NEIGHBOUR: 'it returns false'. Refute it at one input. -/
def fnExactPathToWrong : ChangeSpec := { name := "fnExactPathTo", fn := fun _ => fun
  | [d1, d2] => { results := [.lit (.bool false)], args := [d1, d2] }
  | _ => none }
def FnExactPathToWrongFalsely : Prop := fnExactPathToRow.holds Try.pinned (OpenSpec.ofChange fnExactPathToWrong)

/-- 'laws.FnColorOthers': WHATEVER THE INPUT: true; the input reads as it did. -/
def fnColorOthersSpec : ChangeSpec := { name := "fnColorOthers", fn := fun _ => fun
  | [d] => { results := [.lit (.bool true)], args := [d] }
  | _ => none }
def fnColorOthersRow : OpenClaim := { program := "ytffnpclehhoeaaa", sum := "8bb575f5c72aa46facd9e60c61c6a9bb8e9f928c660cf90e8795fb29fcc1932c", func := "loop.example/cellcollector/laws.FnColorOthers", spec := "fnColorOthers", apart := false }
def FnColorOthersSaid : Prop := fnColorOthersRow.holds Try.pinned (OpenSpec.ofChange fnColorOthersSpec)

/-- ITS FALSE NEIGHBOUR: 'it returns false'. Refute it at one input. -/
def fnColorOthersWrong : ChangeSpec := { name := "fnColorOthers", fn := fun _ => fun
  | [d] => { results := [.lit (.bool false)], args := [d] }
  | _ => none }
def FnColorOthersWrongFalsely : Prop := fnColorOthersRow.holds Try.pinned (OpenSpec.ofChange fnColorOthersWrong)

/-- 'laws.FnCountColor': WHATEVER THE INPUT: true; the input reads as it did. -/
def fnCountColorSpec : ChangeSpec := { name := "fnCountColor", fn := fun _ => fun
  | [d] => { results := [.lit (.bool true)], args := [d] }
  | _ => none }
def fnCountColorRow : OpenClaim := { program := "ytffnpclehhoeaaa", sum := "8bb575f5c72aa46facd9e60c61c6a9bb8e9f928c660cf90e8795fb29fcc1932c", func := "loop.example/cellcollector/laws.FnCountColor", spec := "fnCountColor", apart := false }
def FnCountColorSaid : Prop := fnCountColorRow.holds Try.pinned (OpenSpec.ofChange fnCountColorSpec)

/-- ITS FALSE NEIGHBOUR: 'it returns false'. Refute it at one input. -/
def fnCountColorWrong : ChangeSpec := { name := "fnCountColor", fn := fun _ => fun
  | [d] => { results := [.lit (.bool false)], args := [d] }
  | _ => none }
def FnCountColorWrongFalsely : Prop := fnCountColorRow.holds Try.pinned (OpenSpec.ofChange fnCountColorWrong)

/-- 'laws.FnPathParts': WHATEVER THE INPUT: true; the input reads as it did. -/
def fnPathPartsSpec : ChangeSpec := { name := "fnPathParts", fn := fun _ => fun
  | [d] => { results := [.lit (.bool true)], args := [d] }
  | _ => none }
def fnPathPartsRow : OpenClaim := { program := "ytffnpclehhoeaaa", sum := "8bb575f5c72aa46facd9e60c61c6a9bb8e9f928c660cf90e8795fb29fcc1932c", func := "loop.example/cellcollector/laws.FnPathParts", spec := "fnPathParts", unfollowed := true, recurses := true, apart := false }
def FnPathPartsSaid : Prop := fnPathPartsRow.holds Try.pinned (OpenSpec.ofChange fnPathPartsSpec)

/-- ITS FALSE NEIGHBOUR: 'it returns false'. Refute it at one input. -/
def fnPathPartsWrong : ChangeSpec := { name := "fnPathParts", fn := fun _ => fun
  | [d] => { results := [.lit (.bool false)], args := [d] }
  | _ => none }
def FnPathPartsWrongFalsely : Prop := fnPathPartsRow.holds Try.pinned (OpenSpec.ofChange fnPathPartsWrong)

/-- 'laws.FnPathTo': WHATEVER THE INPUT: true; the input reads as it did. -/
def fnPathToSpec : ChangeSpec := { name := "fnPathTo", fn := fun _ => fun
  | [d] => { results := [.lit (.bool true)], args := [d] }
  | _ => none }
def fnPathToRow : OpenClaim := { program := "ytffnpclehhoeaaa", sum := "8bb575f5c72aa46facd9e60c61c6a9bb8e9f928c660cf90e8795fb29fcc1932c", func := "loop.example/cellcollector/laws.FnPathTo", spec := "fnPathTo", unfollowed := true, recurses := true, apart := false }
def FnPathToSaid : Prop := fnPathToRow.holds Try.pinned (OpenSpec.ofChange fnPathToSpec)

/-- ITS FALSE NEIGHBOUR: 'it returns false'. Refute it at one input. -/
def fnPathToWrong : ChangeSpec := { name := "fnPathTo", fn := fun _ => fun
  | [d] => { results := [.lit (.bool false)], args := [d] }
  | _ => none }
def FnPathToWrongFalsely : Prop := fnPathToRow.holds Try.pinned (OpenSpec.ofChange fnPathToWrong)

/- THE SECOND FORM. 'bulk': how many values and letters a reading holds, each counted each time it is reached (what is shared counts as often as it is met; a slice's spare places count too). A statement '..UptoSaid' is the law's where the arguments, and the package variables that the reading takes, are together of bulk at most 1048576: NARROWER than '..Said'. Prove '..Said' where nothing that the law and all that it calls make is longer than what came in: it says more and counts as full. Else prove '..UptoSaid'. A law counts once. -/
mutual
def uptoBulk {H : Type} : DataW H → Nat
  | .lit (.string bytes) => bytes.length + 1
  | .lit _ => 1
  | .nil => 1
  | .ptr d => uptoBulk d + 1
  | .slice elems spare => uptoBulkAll elems + uptoBulkAll spare + 1
  | .agg parts => uptoBulkAll parts + 1
  | .iface _ d => uptoBulk d + 1
  | .map entries => uptoBulkEntries entries + 1
  | .held _ => 1
def uptoBulkAll {H : Type} : List (DataW H) → Nat
  | [] => 0
  | d :: r => uptoBulk d + uptoBulkAll r
def uptoBulkEntries {H : Type} : List (Lit × DataW H) → Nat
  | [] => 0
  | x :: r => uptoBulkEntry x + uptoBulkEntries r
def uptoBulkEntry {H : Type} : Lit × DataW H → Nat
  | (.string bytes, d) => bytes.length + uptoBulk d + 1
  | (_, d) => uptoBulk d + 1
 end
def uptoSmall : (H : Type) → List (DataW H) → Bool := fun _ ds => decide (uptoBulkAll ds ≤ 1048576)
def OpenSpec.upto (s : _root_.Go.ChangeSpec) : _root_.Go.OpenSpec := { _root_.Go.OpenSpec.ofChange s with cond := some uptoSmall }

/-- 'laws.FnExactReachable', WHERE WHAT IT READS IS OF BULK AT MOST 1048576: true; the input reads as it did. -/
def fnExactReachableUptoRow : OpenClaim := { program := "ytffnpclehhoeaaa", sum := "8bb575f5c72aa46facd9e60c61c6a9bb8e9f928c660cf90e8795fb29fcc1932c", func := "loop.example/cellcollector/laws.FnExactReachable", spec := "fnExactReachable", unfollowed := true, recurses := true, apart := false, narrowed := true }
def FnExactReachableUptoSaid : Prop := fnExactReachableUptoRow.holds Try.pinned (OpenSpec.upto fnExactReachableSpec)

/-- 'laws.FnExactGarbageOf', WHERE WHAT IT READS IS OF BULK AT MOST 1048576: true; the input reads as it did. -/
def fnExactGarbageOfUptoRow : OpenClaim := { program := "ytffnpclehhoeaaa", sum := "8bb575f5c72aa46facd9e60c61c6a9bb8e9f928c660cf90e8795fb29fcc1932c", func := "loop.example/cellcollector/laws.FnExactGarbageOf", spec := "fnExactGarbageOf", unfollowed := true, recurses := true, apart := false, narrowed := true }
def FnExactGarbageOfUptoSaid : Prop := fnExactGarbageOfUptoRow.holds Try.pinned (OpenSpec.upto fnExactGarbageOfSpec)

/-- 'laws.FnPutRootOthers', WHERE WHAT IT READS IS OF BULK AT MOST 1048576: true; the input reads as it did. -/
def fnPutRootOthersUptoRow : OpenClaim := { program := "ytffnpclehhoeaaa", sum := "8bb575f5c72aa46facd9e60c61c6a9bb8e9f928c660cf90e8795fb29fcc1932c", func := "loop.example/cellcollector/laws.FnPutRootOthers", spec := "fnPutRootOthers", apart := false, narrowed := true }
def FnPutRootOthersUptoSaid : Prop := fnPutRootOthersUptoRow.holds Try.pinned (OpenSpec.upto fnPutRootOthersSpec)

/-- 'laws.FnGarbageOf', WHERE WHAT IT READS IS OF BULK AT MOST 1048576: true; the input reads as it did. -/
def fnGarbageOfUptoRow : OpenClaim := { program := "ytffnpclehhoeaaa", sum := "8bb575f5c72aa46facd9e60c61c6a9bb8e9f928c660cf90e8795fb29fcc1932c", func := "loop.example/cellcollector/laws.FnGarbageOf", spec := "fnGarbageOf", unfollowed := true, recurses := true, apart := false, narrowed := true }
def FnGarbageOfUptoSaid : Prop := fnGarbageOfUptoRow.holds Try.pinned (OpenSpec.upto fnGarbageOfSpec)

/-- 'laws.FnCountLive', WHERE WHAT IT READS IS OF BULK AT MOST 1048576: true; the input reads as it did. -/
def fnCountLiveUptoRow : OpenClaim := { program := "ytffnpclehhoeaaa", sum := "8bb575f5c72aa46facd9e60c61c6a9bb8e9f928c660cf90e8795fb29fcc1932c", func := "loop.example/cellcollector/laws.FnCountLive", spec := "fnCountLive", unfollowed := true, recurses := true, apart := false, narrowed := true }
def FnCountLiveUptoSaid : Prop := fnCountLiveUptoRow.holds Try.pinned (OpenSpec.upto fnCountLiveSpec)

/-- 'laws.FnRootsGray', WHERE WHAT IT READS IS OF BULK AT MOST 1048576: true; the input reads as it did. -/
def fnRootsGrayUptoRow : OpenClaim := { program := "ytffnpclehhoeaaa", sum := "8bb575f5c72aa46facd9e60c61c6a9bb8e9f928c660cf90e8795fb29fcc1932c", func := "loop.example/cellcollector/laws.FnRootsGray", spec := "fnRootsGray", unfollowed := true, recurses := true, apart := false, narrowed := true }
def FnRootsGrayUptoSaid : Prop := fnRootsGrayUptoRow.holds Try.pinned (OpenSpec.upto fnRootsGraySpec)

/-- 'laws.FnRootDistance', WHERE WHAT IT READS IS OF BULK AT MOST 1048576: true; the input reads as it did. -/
def fnRootDistanceUptoRow : OpenClaim := { program := "ytffnpclehhoeaaa", sum := "8bb575f5c72aa46facd9e60c61c6a9bb8e9f928c660cf90e8795fb29fcc1932c", func := "loop.example/cellcollector/laws.FnRootDistance", spec := "fnRootDistance", unfollowed := true, recurses := true, apart := false, narrowed := true }
def FnRootDistanceUptoSaid : Prop := fnRootDistanceUptoRow.holds Try.pinned (OpenSpec.upto fnRootDistanceSpec)

/-- 'laws.FnExactPathTo', WHERE WHAT IT READS IS OF BULK AT MOST 1048576: true; the input reads as it did. -/
def fnExactPathToUptoRow : OpenClaim := { program := "ytffnpclehhoeaaa", sum := "8bb575f5c72aa46facd9e60c61c6a9bb8e9f928c660cf90e8795fb29fcc1932c", func := "loop.example/cellcollector/laws.FnExactPathTo", spec := "fnExactPathTo", unfollowed := true, recurses := true, apart := false, narrowed := true }
def FnExactPathToUptoSaid : Prop := fnExactPathToUptoRow.holds Try.pinned (OpenSpec.upto fnExactPathToSpec)

/-- 'laws.FnColorOthers', WHERE WHAT IT READS IS OF BULK AT MOST 1048576: true; the input reads as it did. -/
def fnColorOthersUptoRow : OpenClaim := { program := "ytffnpclehhoeaaa", sum := "8bb575f5c72aa46facd9e60c61c6a9bb8e9f928c660cf90e8795fb29fcc1932c", func := "loop.example/cellcollector/laws.FnColorOthers", spec := "fnColorOthers", apart := false, narrowed := true }
def FnColorOthersUptoSaid : Prop := fnColorOthersUptoRow.holds Try.pinned (OpenSpec.upto fnColorOthersSpec)

/-- 'laws.FnCountColor', WHERE WHAT IT READS IS OF BULK AT MOST 1048576: true; the input reads as it did. -/
def fnCountColorUptoRow : OpenClaim := { program := "ytffnpclehhoeaaa", sum := "8bb575f5c72aa46facd9e60c61c6a9bb8e9f928c660cf90e8795fb29fcc1932c", func := "loop.example/cellcollector/laws.FnCountColor", spec := "fnCountColor", apart := false, narrowed := true }
def FnCountColorUptoSaid : Prop := fnCountColorUptoRow.holds Try.pinned (OpenSpec.upto fnCountColorSpec)

/-- 'laws.FnPathParts', WHERE WHAT IT READS IS OF BULK AT MOST 1048576: true; the input reads as it did. -/
def fnPathPartsUptoRow : OpenClaim := { program := "ytffnpclehhoeaaa", sum := "8bb575f5c72aa46facd9e60c61c6a9bb8e9f928c660cf90e8795fb29fcc1932c", func := "loop.example/cellcollector/laws.FnPathParts", spec := "fnPathParts", unfollowed := true, recurses := true, apart := false, narrowed := true }
def FnPathPartsUptoSaid : Prop := fnPathPartsUptoRow.holds Try.pinned (OpenSpec.upto fnPathPartsSpec)

/-- 'laws.FnPathTo', WHERE WHAT IT READS IS OF BULK AT MOST 1048576: true; the input reads as it did. -/
def fnPathToUptoRow : OpenClaim := { program := "ytffnpclehhoeaaa", sum := "8bb575f5c72aa46facd9e60c61c6a9bb8e9f928c660cf90e8795fb29fcc1932c", func := "loop.example/cellcollector/laws.FnPathTo", spec := "fnPathTo", unfollowed := true, recurses := true, apart := false, narrowed := true }
def FnPathToUptoSaid : Prop := fnPathToUptoRow.holds Try.pinned (OpenSpec.upto fnPathToSpec)

end Rows
end Go.Proofs.Ytffnpclehhoeaaa
