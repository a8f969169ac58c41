/-
  DERIVED. GIVEN WITH THE SEED: THE CARDS: each row of YtomeaapjjmaepaaDoorRows.lean that lists a variable, with what it lists TIED to the program's text (the seventh form; the later family's looks); each row that meets fmt, with fmt's text TOLD by the authors' own Lean function (tested against real Go, not proved from fmt's source: count such statements apart). THE CARD IS WHAT COUNTS. Prove the row's statement (the work); the ties are given (YtomeaapjjmaepaaDoorTie.lean); close each card by the builder's one call (the guide's Derived/Test/ToyasCard.lean, 'card_holds'). Laid BY PROGRAM, IN A SANDBOX (cutbox-door.mjs). By AI agents, Wed Nov 11 2026. No macro, syntax, notation, axiom, sorry.
-/
import Derived.Test.YtomeaapjjmaepaaDoorRows
import GoSem.ClaimSeven
namespace Go.Proofs.YtomeaapjjmaepaaDoor
namespace Rows

/-- THE TIED CARD OF 'laws.FnExactParseHeap'. -/
def fnExactParseHeapCard : Claim7 := { stood := { row := fnExactParseHeapRow, standIns := [], harness := (true, "65416d93371f744de26b8f73a69a8b6e86ad29b3020a0f331ddf3cdd39f46179"), looks := false }, kinds := [], alts := [], laidByText := true, laidKinds := [.data, .data, .data, .data, .pinned], laidTests := true, laidLooks := .later }
def FnExactParseHeapCardSaid : Prop := Claim7.holds Tryd.pinned (.plain (OpenSpec.ofChange fnExactParseHeapSpec)) fnExactParseHeapCard

/-- THE TIED CARD OF 'laws.FnParseValid'. -/
def fnParseValidCard : Claim7 := { stood := { row := fnParseValidRow, standIns := [], harness := (true, "65416d93371f744de26b8f73a69a8b6e86ad29b3020a0f331ddf3cdd39f46179"), looks := false }, kinds := [], alts := [], laidByText := true, laidKinds := [.data, .data, .data, .data, .pinned], laidTests := true, laidLooks := .later }
def FnParseValidCardSaid : Prop := Claim7.holds Tryd.pinned (.plain (OpenSpec.ofChange fnParseValidSpec)) fnParseValidCard

/-- THE TIED CARD OF 'laws.FnHeapText'. -/
def fnHeapTextCard : Claim7 := { stood := { row := fnHeapTextRow, standIns := [], harness := (true, "65416d93371f744de26b8f73a69a8b6e86ad29b3020a0f331ddf3cdd39f46179"), looks := false }, kinds := [], alts := [], laidByText := true, laidKinds := [.data, .data, .data, .data, .pinned], laidTests := true, laidLooks := .later }
def FnHeapTextCardSaid : Prop := Claim7.holds Tryd.pinned (.plain (OpenSpec.ofChange fnHeapTextSpec)) fnHeapTextCard

/-- THE TIED CARD OF 'laws.FnHeapSame'. -/
def fnHeapSameCard : Claim7 := { stood := { row := fnHeapSameRow, standIns := [], harness := (true, "65416d93371f744de26b8f73a69a8b6e86ad29b3020a0f331ddf3cdd39f46179"), looks := false }, kinds := [], alts := [], laidByText := true, laidKinds := [.data, .data, .data], laidTests := true, laidLooks := .later }
def FnHeapSameCardSaid : Prop := Claim7.holds Tryd.pinned (.plain (OpenSpec.ofChange fnHeapSameSpec)) fnHeapSameCard

/-- THE TIED CARD OF 'laws.FnExactFormatHeap'. -/
def fnExactFormatHeapCard : Claim7 := { stood := { row := fnExactFormatHeapRow, standIns := [], harness := (true, "65416d93371f744de26b8f73a69a8b6e86ad29b3020a0f331ddf3cdd39f46179"), looks := false }, kinds := [], alts := [], laidByText := true, laidKinds := [.data, .data, .data], laidTests := true, laidLooks := .later }
def FnExactFormatHeapCardSaid : Prop := Claim7.holds Tryd.pinned (.plain (OpenSpec.ofChange fnExactFormatHeapSpec)) fnExactFormatHeapCard

/-- THE TIED CARD OF 'laws.FnHeapSize'. -/
def fnHeapSizeCard : Claim7 := { stood := { row := fnHeapSizeRow, standIns := [], harness := (true, "65416d93371f744de26b8f73a69a8b6e86ad29b3020a0f331ddf3cdd39f46179"), looks := false }, kinds := [], alts := [], laidByText := true, laidKinds := [.data, .data, .data], laidTests := true, laidLooks := .later }
def FnHeapSizeCardSaid : Prop := Claim7.holds Tryd.pinned (.plain (OpenSpec.ofChange fnHeapSizeSpec)) fnHeapSizeCard

/-- THE SECOND FORM's CARD OF 'laws.FnExactParseHeap'. -/
def fnExactParseHeapUptoCard : Claim7 := { stood := { row := fnExactParseHeapUptoRow, standIns := [], harness := (true, "65416d93371f744de26b8f73a69a8b6e86ad29b3020a0f331ddf3cdd39f46179"), looks := false }, kinds := [], alts := [], laidByText := true, laidKinds := [.data, .data, .data, .data, .pinned], laidTests := true, laidLooks := .later }
def FnExactParseHeapUptoCardSaid : Prop := Claim7.holds Tryd.pinned (.plain (OpenSpec.upto fnExactParseHeapSpec)) fnExactParseHeapUptoCard

/-- THE SECOND FORM's CARD OF 'laws.FnParseValid'. -/
def fnParseValidUptoCard : Claim7 := { stood := { row := fnParseValidUptoRow, standIns := [], harness := (true, "65416d93371f744de26b8f73a69a8b6e86ad29b3020a0f331ddf3cdd39f46179"), looks := false }, kinds := [], alts := [], laidByText := true, laidKinds := [.data, .data, .data, .data, .pinned], laidTests := true, laidLooks := .later }
def FnParseValidUptoCardSaid : Prop := Claim7.holds Tryd.pinned (.plain (OpenSpec.upto fnParseValidSpec)) fnParseValidUptoCard

/-- THE SECOND FORM's CARD OF 'laws.FnHeapText'. -/
def fnHeapTextUptoCard : Claim7 := { stood := { row := fnHeapTextUptoRow, standIns := [], harness := (true, "65416d93371f744de26b8f73a69a8b6e86ad29b3020a0f331ddf3cdd39f46179"), looks := false }, kinds := [], alts := [], laidByText := true, laidKinds := [.data, .data, .data, .data, .pinned], laidTests := true, laidLooks := .later }
def FnHeapTextUptoCardSaid : Prop := Claim7.holds Tryd.pinned (.plain (OpenSpec.upto fnHeapTextSpec)) fnHeapTextUptoCard

/-- THE SECOND FORM's CARD OF 'laws.FnHeapSame'. -/
def fnHeapSameUptoCard : Claim7 := { stood := { row := fnHeapSameUptoRow, standIns := [], harness := (true, "65416d93371f744de26b8f73a69a8b6e86ad29b3020a0f331ddf3cdd39f46179"), looks := false }, kinds := [], alts := [], laidByText := true, laidKinds := [.data, .data, .data], laidTests := true, laidLooks := .later }
def FnHeapSameUptoCardSaid : Prop := Claim7.holds Tryd.pinned (.plain (OpenSpec.upto fnHeapSameSpec)) fnHeapSameUptoCard

/-- THE SECOND FORM's CARD OF 'laws.FnExactFormatHeap'. -/
def fnExactFormatHeapUptoCard : Claim7 := { stood := { row := fnExactFormatHeapUptoRow, standIns := [], harness := (true, "65416d93371f744de26b8f73a69a8b6e86ad29b3020a0f331ddf3cdd39f46179"), looks := false }, kinds := [], alts := [], laidByText := true, laidKinds := [.data, .data, .data], laidTests := true, laidLooks := .later }
def FnExactFormatHeapUptoCardSaid : Prop := Claim7.holds Tryd.pinned (.plain (OpenSpec.upto fnExactFormatHeapSpec)) fnExactFormatHeapUptoCard

/-- THE SECOND FORM's CARD OF 'laws.FnHeapSize'. -/
def fnHeapSizeUptoCard : Claim7 := { stood := { row := fnHeapSizeUptoRow, standIns := [], harness := (true, "65416d93371f744de26b8f73a69a8b6e86ad29b3020a0f331ddf3cdd39f46179"), looks := false }, kinds := [], alts := [], laidByText := true, laidKinds := [.data, .data, .data], laidTests := true, laidLooks := .later }
def FnHeapSizeUptoCardSaid : Prop := Claim7.holds Tryd.pinned (.plain (OpenSpec.upto fnHeapSizeSpec)) fnHeapSizeUptoCard
end Rows
end Go.Proofs.YtomeaapjjmaepaaDoor
