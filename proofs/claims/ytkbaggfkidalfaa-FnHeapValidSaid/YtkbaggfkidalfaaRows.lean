/-
  No cell of these rows narrows 'for every input' (looked for: loops, veiled, ifaces, maps, wideKeys, modest, calm, conditions, laid).
  DERIVED. THE GIVEN ROWS OF THIS SEAT. 14 by the template 'for every input the law returns true; each argument reads behind the call as it read before'; 0 by the template 'total and deterministic' (their statements: YtkbaggfkidalfaaTotals.lean).
  GIVEN WITH THE SEED: the statements are not yours to turn. If you find one false, say at which input.
  Laid BY PROGRAM, IN A SANDBOX (cutbox-rows.mjs): the forced cells as the released guide's own fill.sh prints them over the translation 1236084ba288e295… (all of the seat's roots in one cut). By AI agents, Wed Nov 11 2026. No macro, syntax, notation, axiom, sorry.
-/
import Derived.Test.YtkbaggfkidalfaaChecked
import GoSem.Claim
import GoSem.ClaimJoined
import GoSem.ClaimMapViews
import Derived.JoinedTies
import Derived.KernelRfl
namespace Go.Proofs.Ytkbaggfkidalfaa
/- THE CELL 'sum', in the pinned program and in every row, IS THE sha256 OF THE DUMP (.gsa) THAT YtkbaggfkidalfaaProg.lean LOADS. Nothing in Lean hashes anything: it is a label: what it is worth is what the hold of that sum in a sandbox is worth. -/
noncomputable def Try.pinned : Pinned := { name := "ytkbaggfkidalfaa", sum := "1236084ba288e2951219042595e6a6fd6ef9ae6bee0dffb81c4fefd390831f66", checked := Try.checked }
namespace Rows
def none {H : Type} : Left H := { results := [], args := [] }

/-- 'laws.FnExactShadeCell': WHATEVER THE INPUT: true; the input reads as it did. -/
def fnExactShadeCellSpec : ChangeSpec := { name := "fnExactShadeCell", fn := fun _ => fun
  | [d1, d2] => { results := [.lit (.bool true)], args := [d1, d2] }
  | _ => none }
def fnExactShadeCellRow : OpenClaim := { program := "ytkbaggfkidalfaa", sum := "1236084ba288e2951219042595e6a6fd6ef9ae6bee0dffb81c4fefd390831f66", func := "loop.example/cellcollector/laws.FnExactShadeCell", spec := "fnExactShadeCell", apart := false }
def FnExactShadeCellSaid : Prop := fnExactShadeCellRow.holds Try.pinned (OpenSpec.ofChange fnExactShadeCellSpec)

/-- ITS FALSE NEIGHBOUR: 'it returns false'. Refute it at one input. -/
def fnExactShadeCellWrong : ChangeSpec := { name := "fnExactShadeCell", fn := fun _ => fun
  | [d1, d2] => { results := [.lit (.bool false)], args := [d1, d2] }
  | _ => none }
def FnExactShadeCellWrongFalsely : Prop := fnExactShadeCellRow.holds Try.pinned (OpenSpec.ofChange fnExactShadeCellWrong)

/-- 'laws.FnExactShadeRoots': WHATEVER THE INPUT: true; the input reads as it did. -/
def fnExactShadeRootsSpec : ChangeSpec := { name := "fnExactShadeRoots", fn := fun _ => fun
  | [d] => { results := [.lit (.bool true)], args := [d] }
  | _ => none }
def fnExactShadeRootsRow : OpenClaim := { program := "ytkbaggfkidalfaa", sum := "1236084ba288e2951219042595e6a6fd6ef9ae6bee0dffb81c4fefd390831f66", func := "loop.example/cellcollector/laws.FnExactShadeRoots", spec := "fnExactShadeRoots", apart := false }
def FnExactShadeRootsSaid : Prop := fnExactShadeRootsRow.holds Try.pinned (OpenSpec.ofChange fnExactShadeRootsSpec)

/-- ITS FALSE NEIGHBOUR: 'it returns false'. Refute it at one input. -/
def fnExactShadeRootsWrong : ChangeSpec := { name := "fnExactShadeRoots", fn := fun _ => fun
  | [d] => { results := [.lit (.bool false)], args := [d] }
  | _ => none }
def FnExactShadeRootsWrongFalsely : Prop := fnExactShadeRootsRow.holds Try.pinned (OpenSpec.ofChange fnExactShadeRootsWrong)

/-- 'laws.FnColorOthers': WHATEVER THE INPUT: true; the input reads as it did. -/
def fnColorOthersSpec : ChangeSpec := { name := "fnColorOthers", fn := fun _ => fun
  | [d] => { results := [.lit (.bool true)], args := [d] }
  | _ => none }
def fnColorOthersRow : OpenClaim := { program := "ytkbaggfkidalfaa", sum := "1236084ba288e2951219042595e6a6fd6ef9ae6bee0dffb81c4fefd390831f66", func := "loop.example/cellcollector/laws.FnColorOthers", spec := "fnColorOthers", apart := false }
def FnColorOthersSaid : Prop := fnColorOthersRow.holds Try.pinned (OpenSpec.ofChange fnColorOthersSpec)

/-- ITS FALSE NEIGHBOUR: 'it returns false'. Refute it at one input. -/
def fnColorOthersWrong : ChangeSpec := { name := "fnColorOthers", fn := fun _ => fun
  | [d] => { results := [.lit (.bool false)], args := [d] }
  | _ => none }
def FnColorOthersWrongFalsely : Prop := fnColorOthersRow.holds Try.pinned (OpenSpec.ofChange fnColorOthersWrong)

/-- 'laws.FnCountColor': WHATEVER THE INPUT: true; the input reads as it did. -/
def fnCountColorSpec : ChangeSpec := { name := "fnCountColor", fn := fun _ => fun
  | [d] => { results := [.lit (.bool true)], args := [d] }
  | _ => none }
def fnCountColorRow : OpenClaim := { program := "ytkbaggfkidalfaa", sum := "1236084ba288e2951219042595e6a6fd6ef9ae6bee0dffb81c4fefd390831f66", func := "loop.example/cellcollector/laws.FnCountColor", spec := "fnCountColor", apart := false }
def FnCountColorSaid : Prop := fnCountColorRow.holds Try.pinned (OpenSpec.ofChange fnCountColorSpec)

/-- ITS FALSE NEIGHBOUR: 'it returns false'. Refute it at one input. -/
def fnCountColorWrong : ChangeSpec := { name := "fnCountColor", fn := fun _ => fun
  | [d] => { results := [.lit (.bool false)], args := [d] }
  | _ => none }
def FnCountColorWrongFalsely : Prop := fnCountColorRow.holds Try.pinned (OpenSpec.ofChange fnCountColorWrong)

/-- 'laws.FnColorHolds': WHATEVER THE INPUT: true; the input reads as it did. -/
def fnColorHoldsSpec : ChangeSpec := { name := "fnColorHolds", fn := fun _ => fun
  | [d] => { results := [.lit (.bool true)], args := [d] }
  | _ => none }
def fnColorHoldsRow : OpenClaim := { program := "ytkbaggfkidalfaa", sum := "1236084ba288e2951219042595e6a6fd6ef9ae6bee0dffb81c4fefd390831f66", func := "loop.example/cellcollector/laws.FnColorHolds", spec := "fnColorHolds", unfollowed := true, recurses := true, apart := false }
def FnColorHoldsSaid : Prop := fnColorHoldsRow.holds Try.pinned (OpenSpec.ofChange fnColorHoldsSpec)

/-- ITS FALSE NEIGHBOUR: 'it returns false'. Refute it at one input. -/
def fnColorHoldsWrong : ChangeSpec := { name := "fnColorHolds", fn := fun _ => fun
  | [d] => { results := [.lit (.bool false)], args := [d] }
  | _ => none }
def FnColorHoldsWrongFalsely : Prop := fnColorHoldsRow.holds Try.pinned (OpenSpec.ofChange fnColorHoldsWrong)

/-- 'laws.FnColoredSame': WHATEVER THE INPUT: true; the input reads as it did. -/
def fnColoredSameSpec : ChangeSpec := { name := "fnColoredSame", fn := fun _ => fun
  | [d] => { results := [.lit (.bool true)], args := [d] }
  | _ => none }
def fnColoredSameRow : OpenClaim := { program := "ytkbaggfkidalfaa", sum := "1236084ba288e2951219042595e6a6fd6ef9ae6bee0dffb81c4fefd390831f66", func := "loop.example/cellcollector/laws.FnColoredSame", spec := "fnColoredSame", apart := false }
def FnColoredSameSaid : Prop := fnColoredSameRow.holds Try.pinned (OpenSpec.ofChange fnColoredSameSpec)

/-- ITS FALSE NEIGHBOUR: 'it returns false'. Refute it at one input. -/
def fnColoredSameWrong : ChangeSpec := { name := "fnColoredSame", fn := fun _ => fun
  | [d] => { results := [.lit (.bool false)], args := [d] }
  | _ => none }
def FnColoredSameWrongFalsely : Prop := fnColoredSameRow.holds Try.pinned (OpenSpec.ofChange fnColoredSameWrong)

/-- 'laws.FnShadeOthers': WHATEVER THE INPUT: true; the input reads as it did. -/
def fnShadeOthersSpec : ChangeSpec := { name := "fnShadeOthers", fn := fun _ => fun
  | [d] => { results := [.lit (.bool true)], args := [d] }
  | _ => none }
def fnShadeOthersRow : OpenClaim := { program := "ytkbaggfkidalfaa", sum := "1236084ba288e2951219042595e6a6fd6ef9ae6bee0dffb81c4fefd390831f66", func := "loop.example/cellcollector/laws.FnShadeOthers", spec := "fnShadeOthers", apart := false }
def FnShadeOthersSaid : Prop := fnShadeOthersRow.holds Try.pinned (OpenSpec.ofChange fnShadeOthersSpec)

/-- ITS FALSE NEIGHBOUR: 'it returns false'. Refute it at one input. -/
def fnShadeOthersWrong : ChangeSpec := { name := "fnShadeOthers", fn := fun _ => fun
  | [d] => { results := [.lit (.bool false)], args := [d] }
  | _ => none }
def FnShadeOthersWrongFalsely : Prop := fnShadeOthersRow.holds Try.pinned (OpenSpec.ofChange fnShadeOthersWrong)

/-- 'laws.FnShadeRoots': WHATEVER THE INPUT: true; the input reads as it did. -/
def fnShadeRootsSpec : ChangeSpec := { name := "fnShadeRoots", fn := fun _ => fun
  | [d] => { results := [.lit (.bool true)], args := [d] }
  | _ => none }
def fnShadeRootsRow : OpenClaim := { program := "ytkbaggfkidalfaa", sum := "1236084ba288e2951219042595e6a6fd6ef9ae6bee0dffb81c4fefd390831f66", func := "loop.example/cellcollector/laws.FnShadeRoots", spec := "fnShadeRoots", apart := false }
def FnShadeRootsSaid : Prop := fnShadeRootsRow.holds Try.pinned (OpenSpec.ofChange fnShadeRootsSpec)

/-- ITS FALSE NEIGHBOUR: 'it returns false'. Refute it at one input. -/
def fnShadeRootsWrong : ChangeSpec := { name := "fnShadeRoots", fn := fun _ => fun
  | [d] => { results := [.lit (.bool false)], args := [d] }
  | _ => none }
def FnShadeRootsWrongFalsely : Prop := fnShadeRootsRow.holds Try.pinned (OpenSpec.ofChange fnShadeRootsWrong)

/-- 'laws.FnMarkFirst': WHATEVER THE INPUT: true; the input reads as it did. -/
def fnMarkFirstSpec : ChangeSpec := { name := "fnMarkFirst", fn := fun _ => fun
  | [d] => { results := [.lit (.bool true)], args := [d] }
  | _ => none }
def fnMarkFirstRow : OpenClaim := { program := "ytkbaggfkidalfaa", sum := "1236084ba288e2951219042595e6a6fd6ef9ae6bee0dffb81c4fefd390831f66", func := "loop.example/cellcollector/laws.FnMarkFirst", spec := "fnMarkFirst", apart := false }
def FnMarkFirstSaid : Prop := fnMarkFirstRow.holds Try.pinned (OpenSpec.ofChange fnMarkFirstSpec)

/-- ITS FALSE NEIGHBOUR: 'it returns false'. Refute it at one input. -/
def fnMarkFirstWrong : ChangeSpec := { name := "fnMarkFirst", fn := fun _ => fun
  | [d] => { results := [.lit (.bool false)], args := [d] }
  | _ => none }
def FnMarkFirstWrongFalsely : Prop := fnMarkFirstRow.holds Try.pinned (OpenSpec.ofChange fnMarkFirstWrong)

/-- 'laws.FnHoldsNew': WHATEVER THE INPUT: true; the input reads as it did. -/
def fnHoldsNewSpec : ChangeSpec := { name := "fnHoldsNew", fn := fun _ => fun
  | [d] => { results := [.lit (.bool true)], args := [d] }
  | _ => none }
def fnHoldsNewRow : OpenClaim := { program := "ytkbaggfkidalfaa", sum := "1236084ba288e2951219042595e6a6fd6ef9ae6bee0dffb81c4fefd390831f66", func := "loop.example/cellcollector/laws.FnHoldsNew", spec := "fnHoldsNew", unfollowed := true, recurses := true, apart := false }
def FnHoldsNewSaid : Prop := fnHoldsNewRow.holds Try.pinned (OpenSpec.ofChange fnHoldsNewSpec)

/-- ITS FALSE NEIGHBOUR: 'it returns false'. Refute it at one input. -/
def fnHoldsNewWrong : ChangeSpec := { name := "fnHoldsNew", fn := fun _ => fun
  | [d] => { results := [.lit (.bool false)], args := [d] }
  | _ => none }
def FnHoldsNewWrongFalsely : Prop := fnHoldsNewRow.holds Try.pinned (OpenSpec.ofChange fnHoldsNewWrong)

/-- 'laws.FnHoldsShade': WHATEVER THE INPUT: true; the input reads as it did. -/
def fnHoldsShadeSpec : ChangeSpec := { name := "fnHoldsShade", fn := fun _ => fun
  | [d] => { results := [.lit (.bool true)], args := [d] }
  | _ => none }
def fnHoldsShadeRow : OpenClaim := { program := "ytkbaggfkidalfaa", sum := "1236084ba288e2951219042595e6a6fd6ef9ae6bee0dffb81c4fefd390831f66", func := "loop.example/cellcollector/laws.FnHoldsShade", spec := "fnHoldsShade", unfollowed := true, recurses := true, apart := false }
def FnHoldsShadeSaid : Prop := fnHoldsShadeRow.holds Try.pinned (OpenSpec.ofChange fnHoldsShadeSpec)

/-- ITS FALSE NEIGHBOUR: 'it returns false'. Refute it at one input. -/
def fnHoldsShadeWrong : ChangeSpec := { name := "fnHoldsShade", fn := fun _ => fun
  | [d] => { results := [.lit (.bool false)], args := [d] }
  | _ => none }
def FnHoldsShadeWrongFalsely : Prop := fnHoldsShadeRow.holds Try.pinned (OpenSpec.ofChange fnHoldsShadeWrong)

/-- 'laws.FnRootsGray': WHATEVER THE INPUT: true; the input reads as it did. -/
def fnRootsGraySpec : ChangeSpec := { name := "fnRootsGray", fn := fun _ => fun
  | [d] => { results := [.lit (.bool true)], args := [d] }
  | _ => none }
def fnRootsGrayRow : OpenClaim := { program := "ytkbaggfkidalfaa", sum := "1236084ba288e2951219042595e6a6fd6ef9ae6bee0dffb81c4fefd390831f66", func := "loop.example/cellcollector/laws.FnRootsGray", spec := "fnRootsGray", unfollowed := true, recurses := true, apart := false }
def FnRootsGraySaid : Prop := fnRootsGrayRow.holds Try.pinned (OpenSpec.ofChange fnRootsGraySpec)

/-- ITS FALSE NEIGHBOUR: 'it returns false'. Refute it at one input. -/
def fnRootsGrayWrong : ChangeSpec := { name := "fnRootsGray", fn := fun _ => fun
  | [d] => { results := [.lit (.bool false)], args := [d] }
  | _ => none }
def FnRootsGrayWrongFalsely : Prop := fnRootsGrayRow.holds Try.pinned (OpenSpec.ofChange fnRootsGrayWrong)

/-- 'laws.FnMarkLive': WHATEVER THE INPUT: true; the input reads as it did. -/
def fnMarkLiveSpec : ChangeSpec := { name := "fnMarkLive", fn := fun _ => fun
  | [d] => { results := [.lit (.bool true)], args := [d] }
  | _ => none }
def fnMarkLiveRow : OpenClaim := { program := "ytkbaggfkidalfaa", sum := "1236084ba288e2951219042595e6a6fd6ef9ae6bee0dffb81c4fefd390831f66", func := "loop.example/cellcollector/laws.FnMarkLive", spec := "fnMarkLive", unfollowed := true, recurses := true, apart := false }
def FnMarkLiveSaid : Prop := fnMarkLiveRow.holds Try.pinned (OpenSpec.ofChange fnMarkLiveSpec)

/-- ITS FALSE NEIGHBOUR: 'it returns false'. Refute it at one input. -/
def fnMarkLiveWrong : ChangeSpec := { name := "fnMarkLive", fn := fun _ => fun
  | [d] => { results := [.lit (.bool false)], args := [d] }
  | _ => none }
def FnMarkLiveWrongFalsely : Prop := fnMarkLiveRow.holds Try.pinned (OpenSpec.ofChange fnMarkLiveWrong)

/-- 'laws.FnHeapValid': WHATEVER THE INPUT: true; the input reads as it did. -/
def fnHeapValidSpec : ChangeSpec := { name := "fnHeapValid", fn := fun _ => fun
  | [d] => { results := [.lit (.bool true)], args := [d] }
  | _ => none }
def fnHeapValidRow : OpenClaim := { program := "ytkbaggfkidalfaa", sum := "1236084ba288e2951219042595e6a6fd6ef9ae6bee0dffb81c4fefd390831f66", func := "loop.example/cellcollector/laws.FnHeapValid", spec := "fnHeapValid", apart := false }
def FnHeapValidSaid : Prop := fnHeapValidRow.holds Try.pinned (OpenSpec.ofChange fnHeapValidSpec)

/-- ITS FALSE NEIGHBOUR: 'it returns false'. Refute it at one input. -/
def fnHeapValidWrong : ChangeSpec := { name := "fnHeapValid", fn := fun _ => fun
  | [d] => { results := [.lit (.bool false)], args := [d] }
  | _ => none }
def FnHeapValidWrongFalsely : Prop := fnHeapValidRow.holds Try.pinned (OpenSpec.ofChange fnHeapValidWrong)

/- THE SECOND FORM. 'bulk': how many values and letters a reading holds, each counted each time it is reached (what is shared counts as often as it is met; a slice's spare places count too). A statement '..UptoSaid' is the law's where the arguments, and the package variables that the reading takes, are together of bulk at most 1048576: NARROWER than '..Said'. Prove '..Said' where nothing that the law and all that it calls make is longer than what came in: it says more and counts as full. Else prove '..UptoSaid'. A law counts once. -/
mutual
def uptoBulk {H : Type} : DataW H → Nat
  | .lit (.string bytes) => bytes.length + 1
  | .lit _ => 1
  | .nil => 1
  | .ptr d => uptoBulk d + 1
  | .slice elems spare => uptoBulkAll elems + uptoBulkAll spare + 1
  | .agg parts => uptoBulkAll parts + 1
  | .iface _ d => uptoBulk d + 1
  | .map entries => uptoBulkEntries entries + 1
  | .held _ => 1
def uptoBulkAll {H : Type} : List (DataW H) → Nat
  | [] => 0
  | d :: r => uptoBulk d + uptoBulkAll r
def uptoBulkEntries {H : Type} : List (Lit × DataW H) → Nat
  | [] => 0
  | x :: r => uptoBulkEntry x + uptoBulkEntries r
def uptoBulkEntry {H : Type} : Lit × DataW H → Nat
  | (.string bytes, d) => bytes.length + uptoBulk d + 1
  | (_, d) => uptoBulk d + 1
 end
def uptoSmall : (H : Type) → List (DataW H) → Bool := fun _ ds => decide (uptoBulkAll ds ≤ 1048576)
def OpenSpec.upto (s : _root_.Go.ChangeSpec) : _root_.Go.OpenSpec := { _root_.Go.OpenSpec.ofChange s with cond := some uptoSmall }

/-- 'laws.FnExactShadeCell', WHERE WHAT IT READS IS OF BULK AT MOST 1048576: true; the input reads as it did. -/
def fnExactShadeCellUptoRow : OpenClaim := { program := "ytkbaggfkidalfaa", sum := "1236084ba288e2951219042595e6a6fd6ef9ae6bee0dffb81c4fefd390831f66", func := "loop.example/cellcollector/laws.FnExactShadeCell", spec := "fnExactShadeCell", apart := false, narrowed := true }
def FnExactShadeCellUptoSaid : Prop := fnExactShadeCellUptoRow.holds Try.pinned (OpenSpec.upto fnExactShadeCellSpec)

/-- 'laws.FnExactShadeRoots', WHERE WHAT IT READS IS OF BULK AT MOST 1048576: true; the input reads as it did. -/
def fnExactShadeRootsUptoRow : OpenClaim := { program := "ytkbaggfkidalfaa", sum := "1236084ba288e2951219042595e6a6fd6ef9ae6bee0dffb81c4fefd390831f66", func := "loop.example/cellcollector/laws.FnExactShadeRoots", spec := "fnExactShadeRoots", apart := false, narrowed := true }
def FnExactShadeRootsUptoSaid : Prop := fnExactShadeRootsUptoRow.holds Try.pinned (OpenSpec.upto fnExactShadeRootsSpec)

/-- 'laws.FnColorOthers', WHERE WHAT IT READS IS OF BULK AT MOST 1048576: true; the input reads as it did. -/
def fnColorOthersUptoRow : OpenClaim := { program := "ytkbaggfkidalfaa", sum := "1236084ba288e2951219042595e6a6fd6ef9ae6bee0dffb81c4fefd390831f66", func := "loop.example/cellcollector/laws.FnColorOthers", spec := "fnColorOthers", apart := false, narrowed := true }
def FnColorOthersUptoSaid : Prop := fnColorOthersUptoRow.holds Try.pinned (OpenSpec.upto fnColorOthersSpec)

/-- 'laws.FnCountColor', WHERE WHAT IT READS IS OF BULK AT MOST 1048576: true; the input reads as it did. -/
def fnCountColorUptoRow : OpenClaim := { program := "ytkbaggfkidalfaa", sum := "1236084ba288e2951219042595e6a6fd6ef9ae6bee0dffb81c4fefd390831f66", func := "loop.example/cellcollector/laws.FnCountColor", spec := "fnCountColor", apart := false, narrowed := true }
def FnCountColorUptoSaid : Prop := fnCountColorUptoRow.holds Try.pinned (OpenSpec.upto fnCountColorSpec)

/-- 'laws.FnColorHolds', WHERE WHAT IT READS IS OF BULK AT MOST 1048576: true; the input reads as it did. -/
def fnColorHoldsUptoRow : OpenClaim := { program := "ytkbaggfkidalfaa", sum := "1236084ba288e2951219042595e6a6fd6ef9ae6bee0dffb81c4fefd390831f66", func := "loop.example/cellcollector/laws.FnColorHolds", spec := "fnColorHolds", unfollowed := true, recurses := true, apart := false, narrowed := true }
def FnColorHoldsUptoSaid : Prop := fnColorHoldsUptoRow.holds Try.pinned (OpenSpec.upto fnColorHoldsSpec)

/-- 'laws.FnColoredSame', WHERE WHAT IT READS IS OF BULK AT MOST 1048576: true; the input reads as it did. -/
def fnColoredSameUptoRow : OpenClaim := { program := "ytkbaggfkidalfaa", sum := "1236084ba288e2951219042595e6a6fd6ef9ae6bee0dffb81c4fefd390831f66", func := "loop.example/cellcollector/laws.FnColoredSame", spec := "fnColoredSame", apart := false, narrowed := true }
def FnColoredSameUptoSaid : Prop := fnColoredSameUptoRow.holds Try.pinned (OpenSpec.upto fnColoredSameSpec)

/-- 'laws.FnShadeOthers', WHERE WHAT IT READS IS OF BULK AT MOST 1048576: true; the input reads as it did. -/
def fnShadeOthersUptoRow : OpenClaim := { program := "ytkbaggfkidalfaa", sum := "1236084ba288e2951219042595e6a6fd6ef9ae6bee0dffb81c4fefd390831f66", func := "loop.example/cellcollector/laws.FnShadeOthers", spec := "fnShadeOthers", apart := false, narrowed := true }
def FnShadeOthersUptoSaid : Prop := fnShadeOthersUptoRow.holds Try.pinned (OpenSpec.upto fnShadeOthersSpec)

/-- 'laws.FnShadeRoots', WHERE WHAT IT READS IS OF BULK AT MOST 1048576: true; the input reads as it did. -/
def fnShadeRootsUptoRow : OpenClaim := { program := "ytkbaggfkidalfaa", sum := "1236084ba288e2951219042595e6a6fd6ef9ae6bee0dffb81c4fefd390831f66", func := "loop.example/cellcollector/laws.FnShadeRoots", spec := "fnShadeRoots", apart := false, narrowed := true }
def FnShadeRootsUptoSaid : Prop := fnShadeRootsUptoRow.holds Try.pinned (OpenSpec.upto fnShadeRootsSpec)

/-- 'laws.FnMarkFirst', WHERE WHAT IT READS IS OF BULK AT MOST 1048576: true; the input reads as it did. -/
def fnMarkFirstUptoRow : OpenClaim := { program := "ytkbaggfkidalfaa", sum := "1236084ba288e2951219042595e6a6fd6ef9ae6bee0dffb81c4fefd390831f66", func := "loop.example/cellcollector/laws.FnMarkFirst", spec := "fnMarkFirst", apart := false, narrowed := true }
def FnMarkFirstUptoSaid : Prop := fnMarkFirstUptoRow.holds Try.pinned (OpenSpec.upto fnMarkFirstSpec)

/-- 'laws.FnHoldsNew', WHERE WHAT IT READS IS OF BULK AT MOST 1048576: true; the input reads as it did. -/
def fnHoldsNewUptoRow : OpenClaim := { program := "ytkbaggfkidalfaa", sum := "1236084ba288e2951219042595e6a6fd6ef9ae6bee0dffb81c4fefd390831f66", func := "loop.example/cellcollector/laws.FnHoldsNew", spec := "fnHoldsNew", unfollowed := true, recurses := true, apart := false, narrowed := true }
def FnHoldsNewUptoSaid : Prop := fnHoldsNewUptoRow.holds Try.pinned (OpenSpec.upto fnHoldsNewSpec)

/-- 'laws.FnHoldsShade', WHERE WHAT IT READS IS OF BULK AT MOST 1048576: true; the input reads as it did. -/
def fnHoldsShadeUptoRow : OpenClaim := { program := "ytkbaggfkidalfaa", sum := "1236084ba288e2951219042595e6a6fd6ef9ae6bee0dffb81c4fefd390831f66", func := "loop.example/cellcollector/laws.FnHoldsShade", spec := "fnHoldsShade", unfollowed := true, recurses := true, apart := false, narrowed := true }
def FnHoldsShadeUptoSaid : Prop := fnHoldsShadeUptoRow.holds Try.pinned (OpenSpec.upto fnHoldsShadeSpec)

/-- 'laws.FnRootsGray', WHERE WHAT IT READS IS OF BULK AT MOST 1048576: true; the input reads as it did. -/
def fnRootsGrayUptoRow : OpenClaim := { program := "ytkbaggfkidalfaa", sum := "1236084ba288e2951219042595e6a6fd6ef9ae6bee0dffb81c4fefd390831f66", func := "loop.example/cellcollector/laws.FnRootsGray", spec := "fnRootsGray", unfollowed := true, recurses := true, apart := false, narrowed := true }
def FnRootsGrayUptoSaid : Prop := fnRootsGrayUptoRow.holds Try.pinned (OpenSpec.upto fnRootsGraySpec)

/-- 'laws.FnMarkLive', WHERE WHAT IT READS IS OF BULK AT MOST 1048576: true; the input reads as it did. -/
def fnMarkLiveUptoRow : OpenClaim := { program := "ytkbaggfkidalfaa", sum := "1236084ba288e2951219042595e6a6fd6ef9ae6bee0dffb81c4fefd390831f66", func := "loop.example/cellcollector/laws.FnMarkLive", spec := "fnMarkLive", unfollowed := true, recurses := true, apart := false, narrowed := true }
def FnMarkLiveUptoSaid : Prop := fnMarkLiveUptoRow.holds Try.pinned (OpenSpec.upto fnMarkLiveSpec)

/-- 'laws.FnHeapValid', WHERE WHAT IT READS IS OF BULK AT MOST 1048576: true; the input reads as it did. -/
def fnHeapValidUptoRow : OpenClaim := { program := "ytkbaggfkidalfaa", sum := "1236084ba288e2951219042595e6a6fd6ef9ae6bee0dffb81c4fefd390831f66", func := "loop.example/cellcollector/laws.FnHeapValid", spec := "fnHeapValid", apart := false, narrowed := true }
def FnHeapValidUptoSaid : Prop := fnHeapValidUptoRow.holds Try.pinned (OpenSpec.upto fnHeapValidSpec)

end Rows
end Go.Proofs.Ytkbaggfkidalfaa
