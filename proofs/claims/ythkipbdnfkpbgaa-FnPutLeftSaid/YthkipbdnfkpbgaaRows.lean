/-
  No cell of these rows narrows 'for every input' (looked for: loops, veiled, ifaces, maps, wideKeys, modest, calm, conditions, laid).
  DERIVED. THE GIVEN ROWS OF THIS SEAT. 11 by the template 'for every input the law returns true; each argument reads behind the call as it read before'; 0 by the template 'total and deterministic' (their statements: YthkipbdnfkpbgaaTotals.lean).
  GIVEN WITH THE SEED: the statements are not yours to turn. If you find one false, say at which input.
  Laid BY PROGRAM, IN A SANDBOX (cutbox-rows.mjs): the forced cells as the released guide's own fill.sh prints them over the translation e48a41beaa3b3d5e… (all of the seat's roots in one cut). By AI agents, Wed Nov 11 2026. No macro, syntax, notation, axiom, sorry.
-/
import Derived.Test.YthkipbdnfkpbgaaChecked
import GoSem.Claim
import GoSem.ClaimJoined
import GoSem.ClaimMapViews
import Derived.JoinedTies
import Derived.KernelRfl
namespace Go.Proofs.Ythkipbdnfkpbgaa
/- THE CELL 'sum', in the pinned program and in every row, IS THE sha256 OF THE DUMP (.gsa) THAT YthkipbdnfkpbgaaProg.lean LOADS. Nothing in Lean hashes anything: it is a label: what it is worth is what the hold of that sum in a sandbox is worth. -/
noncomputable def Try.pinned : Pinned := { name := "ythkipbdnfkpbgaa", sum := "e48a41beaa3b3d5e0b0ffbfad45ac3c436c370c65b5588712a32377f903f0779", checked := Try.checked }
namespace Rows
def none {H : Type} : Left H := { results := [], args := [] }

/-- 'laws.FnExactConstants': WHATEVER THE INPUT: true; the input reads as it did. -/
def fnExactConstantsSpec : ChangeSpec := { name := "fnExactConstants", fn := fun _ => fun
  | [] => { results := [.lit (.bool true)], args := [] }
  | _ => none }
def fnExactConstantsRow : OpenClaim := { program := "ythkipbdnfkpbgaa", sum := "e48a41beaa3b3d5e0b0ffbfad45ac3c436c370c65b5588712a32377f903f0779", func := "loop.example/cellcollector/laws.FnExactConstants", spec := "fnExactConstants", apart := false }
def FnExactConstantsSaid : Prop := fnExactConstantsRow.holds Try.pinned (OpenSpec.ofChange fnExactConstantsSpec)

/-- ITS FALSE NEIGHBOUR: 'it returns false'. Refute it at one input. -/
def fnExactConstantsWrong : ChangeSpec := { name := "fnExactConstants", fn := fun _ => fun
  | [] => { results := [.lit (.bool false)], args := [] }
  | _ => none }
def FnExactConstantsWrongFalsely : Prop := fnExactConstantsRow.holds Try.pinned (OpenSpec.ofChange fnExactConstantsWrong)

/-- 'laws.FnExactHeapSame': WHATEVER THE INPUT: true; the input reads as it did. -/
def fnExactHeapSameSpec : ChangeSpec := { name := "fnExactHeapSame", fn := fun _ => fun
  | [d1, d2] => { results := [.lit (.bool true)], args := [d1, d2] }
  | _ => none }
def fnExactHeapSameRow : OpenClaim := { program := "ythkipbdnfkpbgaa", sum := "e48a41beaa3b3d5e0b0ffbfad45ac3c436c370c65b5588712a32377f903f0779", func := "loop.example/cellcollector/laws.FnExactHeapSame", spec := "fnExactHeapSame", apart := false }
def FnExactHeapSameSaid : Prop := fnExactHeapSameRow.holds Try.pinned (OpenSpec.ofChange fnExactHeapSameSpec)

/-- ITS FALSE NEIGHBOUR: 'it returns false'. Refute it at one input. -/
def fnExactHeapSameWrong : ChangeSpec := { name := "fnExactHeapSame", fn := fun _ => fun
  | [d1, d2] => { results := [.lit (.bool false)], args := [d1, d2] }
  | _ => none }
def FnExactHeapSameWrongFalsely : Prop := fnExactHeapSameRow.holds Try.pinned (OpenSpec.ofChange fnExactHeapSameWrong)

/-- 'laws.FnExactHeapValid': WHATEVER THE INPUT: true; the input reads as it did. -/
def fnExactHeapValidSpec : ChangeSpec := { name := "fnExactHeapValid", fn := fun _ => fun
  | [d] => { results := [.lit (.bool true)], args := [d] }
  | _ => none }
def fnExactHeapValidRow : OpenClaim := { program := "ythkipbdnfkpbgaa", sum := "e48a41beaa3b3d5e0b0ffbfad45ac3c436c370c65b5588712a32377f903f0779", func := "loop.example/cellcollector/laws.FnExactHeapValid", spec := "fnExactHeapValid", apart := false }
def FnExactHeapValidSaid : Prop := fnExactHeapValidRow.holds Try.pinned (OpenSpec.ofChange fnExactHeapValidSpec)

/-- ITS FALSE NEIGHBOUR: 'it returns false'. Refute it at one input. -/
def fnExactHeapValidWrong : ChangeSpec := { name := "fnExactHeapValid", fn := fun _ => fun
  | [d] => { results := [.lit (.bool false)], args := [d] }
  | _ => none }
def FnExactHeapValidWrongFalsely : Prop := fnExactHeapValidRow.holds Try.pinned (OpenSpec.ofChange fnExactHeapValidWrong)

/-- 'laws.FnHeapValid': WHATEVER THE INPUT: true; the input reads as it did. -/
def fnHeapValidSpec : ChangeSpec := { name := "fnHeapValid", fn := fun _ => fun
  | [d] => { results := [.lit (.bool true)], args := [d] }
  | _ => none }
def fnHeapValidRow : OpenClaim := { program := "ythkipbdnfkpbgaa", sum := "e48a41beaa3b3d5e0b0ffbfad45ac3c436c370c65b5588712a32377f903f0779", func := "loop.example/cellcollector/laws.FnHeapValid", spec := "fnHeapValid", apart := false }
def FnHeapValidSaid : Prop := fnHeapValidRow.holds Try.pinned (OpenSpec.ofChange fnHeapValidSpec)

/-- ITS FALSE NEIGHBOUR: 'it returns false'. Refute it at one input. -/
def fnHeapValidWrong : ChangeSpec := { name := "fnHeapValid", fn := fun _ => fun
  | [d] => { results := [.lit (.bool false)], args := [d] }
  | _ => none }
def FnHeapValidWrongFalsely : Prop := fnHeapValidRow.holds Try.pinned (OpenSpec.ofChange fnHeapValidWrong)

/-- 'laws.FnExactColoredSame': WHATEVER THE INPUT: true; the input reads as it did. -/
def fnExactColoredSameSpec : ChangeSpec := { name := "fnExactColoredSame", fn := fun _ => fun
  | [d1, d2] => { results := [.lit (.bool true)], args := [d1, d2] }
  | _ => none }
def fnExactColoredSameRow : OpenClaim := { program := "ythkipbdnfkpbgaa", sum := "e48a41beaa3b3d5e0b0ffbfad45ac3c436c370c65b5588712a32377f903f0779", func := "loop.example/cellcollector/laws.FnExactColoredSame", spec := "fnExactColoredSame", apart := false }
def FnExactColoredSameSaid : Prop := fnExactColoredSameRow.holds Try.pinned (OpenSpec.ofChange fnExactColoredSameSpec)

/-- ITS FALSE NEIGHBOUR: 'it returns false'. Refute it at one input. -/
def fnExactColoredSameWrong : ChangeSpec := { name := "fnExactColoredSame", fn := fun _ => fun
  | [d1, d2] => { results := [.lit (.bool false)], args := [d1, d2] }
  | _ => none }
def FnExactColoredSameWrongFalsely : Prop := fnExactColoredSameRow.holds Try.pinned (OpenSpec.ofChange fnExactColoredSameWrong)

/-- 'laws.FnExactNewHeap': WHATEVER THE INPUT: true; the input reads as it did. -/
def fnExactNewHeapSpec : ChangeSpec := { name := "fnExactNewHeap", fn := fun _ => fun
  | [d1, d2] => { results := [.lit (.bool true)], args := [d1, d2] }
  | _ => none }
def fnExactNewHeapRow : OpenClaim := { program := "ythkipbdnfkpbgaa", sum := "e48a41beaa3b3d5e0b0ffbfad45ac3c436c370c65b5588712a32377f903f0779", func := "loop.example/cellcollector/laws.FnExactNewHeap", spec := "fnExactNewHeap", apart := false }
def FnExactNewHeapSaid : Prop := fnExactNewHeapRow.holds Try.pinned (OpenSpec.ofChange fnExactNewHeapSpec)

/-- ITS FALSE NEIGHBOUR: 'it returns false'. Refute it at one input. -/
def fnExactNewHeapWrong : ChangeSpec := { name := "fnExactNewHeap", fn := fun _ => fun
  | [d1, d2] => { results := [.lit (.bool false)], args := [d1, d2] }
  | _ => none }
def FnExactNewHeapWrongFalsely : Prop := fnExactNewHeapRow.holds Try.pinned (OpenSpec.ofChange fnExactNewHeapWrong)

/-- 'laws.FnExactSourcesOf': WHATEVER THE INPUT: true; the input reads as it did. -/
def fnExactSourcesOfSpec : ChangeSpec := { name := "fnExactSourcesOf", fn := fun _ => fun
  | [d1, d2] => { results := [.lit (.bool true)], args := [d1, d2] }
  | _ => none }
def fnExactSourcesOfRow : OpenClaim := { program := "ythkipbdnfkpbgaa", sum := "e48a41beaa3b3d5e0b0ffbfad45ac3c436c370c65b5588712a32377f903f0779", func := "loop.example/cellcollector/laws.FnExactSourcesOf", spec := "fnExactSourcesOf", apart := false }
def FnExactSourcesOfSaid : Prop := fnExactSourcesOfRow.holds Try.pinned (OpenSpec.ofChange fnExactSourcesOfSpec)

/-- ITS FALSE NEIGHBOUR: 'it returns false'. Refute it at one input. -/
def fnExactSourcesOfWrong : ChangeSpec := { name := "fnExactSourcesOf", fn := fun _ => fun
  | [d1, d2] => { results := [.lit (.bool false)], args := [d1, d2] }
  | _ => none }
def FnExactSourcesOfWrongFalsely : Prop := fnExactSourcesOfRow.holds Try.pinned (OpenSpec.ofChange fnExactSourcesOfWrong)

/-- 'laws.FnExactColoredValid': WHATEVER THE INPUT: true; the input reads as it did. -/
def fnExactColoredValidSpec : ChangeSpec := { name := "fnExactColoredValid", fn := fun _ => fun
  | [d] => { results := [.lit (.bool true)], args := [d] }
  | _ => none }
def fnExactColoredValidRow : OpenClaim := { program := "ythkipbdnfkpbgaa", sum := "e48a41beaa3b3d5e0b0ffbfad45ac3c436c370c65b5588712a32377f903f0779", func := "loop.example/cellcollector/laws.FnExactColoredValid", spec := "fnExactColoredValid", apart := false }
def FnExactColoredValidSaid : Prop := fnExactColoredValidRow.holds Try.pinned (OpenSpec.ofChange fnExactColoredValidSpec)

/-- ITS FALSE NEIGHBOUR: 'it returns false'. Refute it at one input. -/
def fnExactColoredValidWrong : ChangeSpec := { name := "fnExactColoredValid", fn := fun _ => fun
  | [d] => { results := [.lit (.bool false)], args := [d] }
  | _ => none }
def FnExactColoredValidWrongFalsely : Prop := fnExactColoredValidRow.holds Try.pinned (OpenSpec.ofChange fnExactColoredValidWrong)

/-- 'laws.FnExactCountPointers': WHATEVER THE INPUT: true; the input reads as it did. -/
def fnExactCountPointersSpec : ChangeSpec := { name := "fnExactCountPointers", fn := fun _ => fun
  | [d] => { results := [.lit (.bool true)], args := [d] }
  | _ => none }
def fnExactCountPointersRow : OpenClaim := { program := "ythkipbdnfkpbgaa", sum := "e48a41beaa3b3d5e0b0ffbfad45ac3c436c370c65b5588712a32377f903f0779", func := "loop.example/cellcollector/laws.FnExactCountPointers", spec := "fnExactCountPointers", apart := false }
def FnExactCountPointersSaid : Prop := fnExactCountPointersRow.holds Try.pinned (OpenSpec.ofChange fnExactCountPointersSpec)

/-- ITS FALSE NEIGHBOUR: 'it returns false'. Refute it at one input. -/
def fnExactCountPointersWrong : ChangeSpec := { name := "fnExactCountPointers", fn := fun _ => fun
  | [d] => { results := [.lit (.bool false)], args := [d] }
  | _ => none }
def FnExactCountPointersWrongFalsely : Prop := fnExactCountPointersRow.holds Try.pinned (OpenSpec.ofChange fnExactCountPointersWrong)

/-- 'laws.FnPutRoot': WHATEVER THE INPUT: true; the input reads as it did. -/
def fnPutRootSpec : ChangeSpec := { name := "fnPutRoot", fn := fun _ => fun
  | [d] => { results := [.lit (.bool true)], args := [d] }
  | _ => none }
def fnPutRootRow : OpenClaim := { program := "ythkipbdnfkpbgaa", sum := "e48a41beaa3b3d5e0b0ffbfad45ac3c436c370c65b5588712a32377f903f0779", func := "loop.example/cellcollector/laws.FnPutRoot", spec := "fnPutRoot", apart := false }
def FnPutRootSaid : Prop := fnPutRootRow.holds Try.pinned (OpenSpec.ofChange fnPutRootSpec)

/-- ITS FALSE NEIGHBOUR: 'it returns false'. Refute it at one input. -/
def fnPutRootWrong : ChangeSpec := { name := "fnPutRoot", fn := fun _ => fun
  | [d] => { results := [.lit (.bool false)], args := [d] }
  | _ => none }
def FnPutRootWrongFalsely : Prop := fnPutRootRow.holds Try.pinned (OpenSpec.ofChange fnPutRootWrong)

/-- 'laws.FnPutLeft': WHATEVER THE INPUT: true; the input reads as it did. -/
def fnPutLeftSpec : ChangeSpec := { name := "fnPutLeft", fn := fun _ => fun
  | [d] => { results := [.lit (.bool true)], args := [d] }
  | _ => none }
def fnPutLeftRow : OpenClaim := { program := "ythkipbdnfkpbgaa", sum := "e48a41beaa3b3d5e0b0ffbfad45ac3c436c370c65b5588712a32377f903f0779", func := "loop.example/cellcollector/laws.FnPutLeft", spec := "fnPutLeft", apart := false }
def FnPutLeftSaid : Prop := fnPutLeftRow.holds Try.pinned (OpenSpec.ofChange fnPutLeftSpec)

/-- ITS FALSE NEIGHBOUR: 'it returns false'. Refute it at one input. -/
def fnPutLeftWrong : ChangeSpec := { name := "fnPutLeft", fn := fun _ => fun
  | [d] => { results := [.lit (.bool false)], args := [d] }
  | _ => none }
def FnPutLeftWrongFalsely : Prop := fnPutLeftRow.holds Try.pinned (OpenSpec.ofChange fnPutLeftWrong)

/- THE SECOND FORM. 'bulk': how many values and letters a reading holds, each counted each time it is reached (what is shared counts as often as it is met; a slice's spare places count too). A statement '..UptoSaid' is the law's where the arguments, and the package variables that the reading takes, are together of bulk at most 1048576: NARROWER than '..Said'. Prove '..Said' where nothing that the law and all that it calls make is longer than what came in: it says more and counts as full. Else prove '..UptoSaid'. A law counts once. -/
mutual
def uptoBulk {H : Type} : DataW H → Nat
  | .lit (.string bytes) => bytes.length + 1
  | .lit _ => 1
  | .nil => 1
  | .ptr d => uptoBulk d + 1
  | .slice elems spare => uptoBulkAll elems + uptoBulkAll spare + 1
  | .agg parts => uptoBulkAll parts + 1
  | .iface _ d => uptoBulk d + 1
  | .map entries => uptoBulkEntries entries + 1
  | .held _ => 1
def uptoBulkAll {H : Type} : List (DataW H) → Nat
  | [] => 0
  | d :: r => uptoBulk d + uptoBulkAll r
def uptoBulkEntries {H : Type} : List (Lit × DataW H) → Nat
  | [] => 0
  | x :: r => uptoBulkEntry x + uptoBulkEntries r
def uptoBulkEntry {H : Type} : Lit × DataW H → Nat
  | (.string bytes, d) => bytes.length + uptoBulk d + 1
  | (_, d) => uptoBulk d + 1
 end
def uptoSmall : (H : Type) → List (DataW H) → Bool := fun _ ds => decide (uptoBulkAll ds ≤ 1048576)
def OpenSpec.upto (s : _root_.Go.ChangeSpec) : _root_.Go.OpenSpec := { _root_.Go.OpenSpec.ofChange s with cond := some uptoSmall }

/-- 'laws.FnExactConstants', WHERE WHAT IT READS IS OF BULK AT MOST 1048576: true; the input reads as it did. -/
def fnExactConstantsUptoRow : OpenClaim := { program := "ythkipbdnfkpbgaa", sum := "e48a41beaa3b3d5e0b0ffbfad45ac3c436c370c65b5588712a32377f903f0779", func := "loop.example/cellcollector/laws.FnExactConstants", spec := "fnExactConstants", apart := false, narrowed := true }
def FnExactConstantsUptoSaid : Prop := fnExactConstantsUptoRow.holds Try.pinned (OpenSpec.upto fnExactConstantsSpec)

/-- 'laws.FnExactHeapSame', WHERE WHAT IT READS IS OF BULK AT MOST 1048576: true; the input reads as it did. -/
def fnExactHeapSameUptoRow : OpenClaim := { program := "ythkipbdnfkpbgaa", sum := "e48a41beaa3b3d5e0b0ffbfad45ac3c436c370c65b5588712a32377f903f0779", func := "loop.example/cellcollector/laws.FnExactHeapSame", spec := "fnExactHeapSame", apart := false, narrowed := true }
def FnExactHeapSameUptoSaid : Prop := fnExactHeapSameUptoRow.holds Try.pinned (OpenSpec.upto fnExactHeapSameSpec)

/-- 'laws.FnExactHeapValid', WHERE WHAT IT READS IS OF BULK AT MOST 1048576: true; the input reads as it did. -/
def fnExactHeapValidUptoRow : OpenClaim := { program := "ythkipbdnfkpbgaa", sum := "e48a41beaa3b3d5e0b0ffbfad45ac3c436c370c65b5588712a32377f903f0779", func := "loop.example/cellcollector/laws.FnExactHeapValid", spec := "fnExactHeapValid", apart := false, narrowed := true }
def FnExactHeapValidUptoSaid : Prop := fnExactHeapValidUptoRow.holds Try.pinned (OpenSpec.upto fnExactHeapValidSpec)

/-- 'laws.FnHeapValid', WHERE WHAT IT READS IS OF BULK AT MOST 1048576: true; the input reads as it did. -/
def fnHeapValidUptoRow : OpenClaim := { program := "ythkipbdnfkpbgaa", sum := "e48a41beaa3b3d5e0b0ffbfad45ac3c436c370c65b5588712a32377f903f0779", func := "loop.example/cellcollector/laws.FnHeapValid", spec := "fnHeapValid", apart := false, narrowed := true }
def FnHeapValidUptoSaid : Prop := fnHeapValidUptoRow.holds Try.pinned (OpenSpec.upto fnHeapValidSpec)

/-- 'laws.FnExactColoredSame', WHERE WHAT IT READS IS OF BULK AT MOST 1048576: true; the input reads as it did. -/
def fnExactColoredSameUptoRow : OpenClaim := { program := "ythkipbdnfkpbgaa", sum := "e48a41beaa3b3d5e0b0ffbfad45ac3c436c370c65b5588712a32377f903f0779", func := "loop.example/cellcollector/laws.FnExactColoredSame", spec := "fnExactColoredSame", apart := false, narrowed := true }
def FnExactColoredSameUptoSaid : Prop := fnExactColoredSameUptoRow.holds Try.pinned (OpenSpec.upto fnExactColoredSameSpec)

/-- 'laws.FnExactNewHeap', WHERE WHAT IT READS IS OF BULK AT MOST 1048576: true; the input reads as it did. -/
def fnExactNewHeapUptoRow : OpenClaim := { program := "ythkipbdnfkpbgaa", sum := "e48a41beaa3b3d5e0b0ffbfad45ac3c436c370c65b5588712a32377f903f0779", func := "loop.example/cellcollector/laws.FnExactNewHeap", spec := "fnExactNewHeap", apart := false, narrowed := true }
def FnExactNewHeapUptoSaid : Prop := fnExactNewHeapUptoRow.holds Try.pinned (OpenSpec.upto fnExactNewHeapSpec)

/-- 'laws.FnExactSourcesOf', WHERE WHAT IT READS IS OF BULK AT MOST 1048576: true; the input reads as it did. -/
def fnExactSourcesOfUptoRow : OpenClaim := { program := "ythkipbdnfkpbgaa", sum := "e48a41beaa3b3d5e0b0ffbfad45ac3c436c370c65b5588712a32377f903f0779", func := "loop.example/cellcollector/laws.FnExactSourcesOf", spec := "fnExactSourcesOf", apart := false, narrowed := true }
def FnExactSourcesOfUptoSaid : Prop := fnExactSourcesOfUptoRow.holds Try.pinned (OpenSpec.upto fnExactSourcesOfSpec)

/-- 'laws.FnExactColoredValid', WHERE WHAT IT READS IS OF BULK AT MOST 1048576: true; the input reads as it did. -/
def fnExactColoredValidUptoRow : OpenClaim := { program := "ythkipbdnfkpbgaa", sum := "e48a41beaa3b3d5e0b0ffbfad45ac3c436c370c65b5588712a32377f903f0779", func := "loop.example/cellcollector/laws.FnExactColoredValid", spec := "fnExactColoredValid", apart := false, narrowed := true }
def FnExactColoredValidUptoSaid : Prop := fnExactColoredValidUptoRow.holds Try.pinned (OpenSpec.upto fnExactColoredValidSpec)

/-- 'laws.FnExactCountPointers', WHERE WHAT IT READS IS OF BULK AT MOST 1048576: true; the input reads as it did. -/
def fnExactCountPointersUptoRow : OpenClaim := { program := "ythkipbdnfkpbgaa", sum := "e48a41beaa3b3d5e0b0ffbfad45ac3c436c370c65b5588712a32377f903f0779", func := "loop.example/cellcollector/laws.FnExactCountPointers", spec := "fnExactCountPointers", apart := false, narrowed := true }
def FnExactCountPointersUptoSaid : Prop := fnExactCountPointersUptoRow.holds Try.pinned (OpenSpec.upto fnExactCountPointersSpec)

/-- 'laws.FnPutRoot', WHERE WHAT IT READS IS OF BULK AT MOST 1048576: true; the input reads as it did. -/
def fnPutRootUptoRow : OpenClaim := { program := "ythkipbdnfkpbgaa", sum := "e48a41beaa3b3d5e0b0ffbfad45ac3c436c370c65b5588712a32377f903f0779", func := "loop.example/cellcollector/laws.FnPutRoot", spec := "fnPutRoot", apart := false, narrowed := true }
def FnPutRootUptoSaid : Prop := fnPutRootUptoRow.holds Try.pinned (OpenSpec.upto fnPutRootSpec)

/-- 'laws.FnPutLeft', WHERE WHAT IT READS IS OF BULK AT MOST 1048576: true; the input reads as it did. -/
def fnPutLeftUptoRow : OpenClaim := { program := "ythkipbdnfkpbgaa", sum := "e48a41beaa3b3d5e0b0ffbfad45ac3c436c370c65b5588712a32377f903f0779", func := "loop.example/cellcollector/laws.FnPutLeft", spec := "fnPutLeft", apart := false, narrowed := true }
def FnPutLeftUptoSaid : Prop := fnPutLeftUptoRow.holds Try.pinned (OpenSpec.upto fnPutLeftSpec)

end Rows
end Go.Proofs.Ythkipbdnfkpbgaa
