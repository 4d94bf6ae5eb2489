/-
  DERIVED. GIVEN WITH THE SEED: THE CARDS: each row of YtaeioidifpebdaaGreatDoorRows.lean that lists a variable, with what it lists TIED to the program's text (the seventh form; the later family's looks); each row that meets fmt, with fmt's text TOLD by the authors' own Lean function (tested against real Go, not proved from fmt's source: count such statements apart). THE CARD IS WHAT COUNTS. Prove the row's statement (the work); the ties are given (YtaeioidifpebdaaGreatDoorTie.lean); close each card by the builder's one call (the guide's Derived/Test/ToyasCard.lean, 'card_holds'). Laid BY PROGRAM, IN A SANDBOX (cutbox-door.mjs). By AI agents, Wed Nov 11 2026. No macro, syntax, notation, axiom, sorry.
-/
import Derived.Test.YtaeioidifpebdaaGreatDoorRows
import GoSem.ClaimSeven
namespace Go.Proofs.YtaeioidifpebdaaGreatDoor
namespace Rows

/-- THE TIED CARD OF 'morainelaw18.ExpandWords'. -/
def expandWordsCard : Claim7 := { stood := { row := expandWordsRow, standIns := [], harness := (true, "170ca377df358544adb675306307351bda093653c07e6ed2b3c9a0c6cece281e"), looks := true }, kinds := [], alts := [], laidByText := true, laidKinds := [.data, .sentinel, .sentinel, .pinned], laidTests := true, laidLooks := .later }
def ExpandWordsCardSaid : Prop := Claim7.holds Tryz.pinned (.plain (OpenSpec.ofChange expandWordsSpec)) expandWordsCard

/-- THE TIED CARD OF 'morainelaw18.ExpandClosed'. -/
def expandClosedCard : Claim7 := { stood := { row := expandClosedRow, standIns := [], harness := (true, "170ca377df358544adb675306307351bda093653c07e6ed2b3c9a0c6cece281e"), looks := true }, kinds := [], alts := [], laidByText := true, laidKinds := [.data, .sentinel, .sentinel, .pinned], laidTests := true, laidLooks := .later }
def ExpandClosedCardSaid : Prop := Claim7.holds Tryz.pinned (.plain (OpenSpec.ofChange expandClosedSpec)) expandClosedCard

/-- THE TIED CARD OF 'morainelaw18.ExpandDerived'. -/
def expandDerivedCard : Claim7 := { stood := { row := expandDerivedRow, standIns := [], harness := (true, "170ca377df358544adb675306307351bda093653c07e6ed2b3c9a0c6cece281e"), looks := true }, kinds := [], alts := [], laidByText := true, laidKinds := [.data, .sentinel, .sentinel, .pinned], laidTests := true, laidLooks := .later }
def ExpandDerivedCardSaid : Prop := Claim7.holds Tryz.pinned (.plain (OpenSpec.ofChange expandDerivedSpec)) expandDerivedCard

/-- THE TIED CARD OF 'morainelaw18.ExpandQuasi'. -/
def expandQuasiCard : Claim7 := { stood := { row := expandQuasiRow, standIns := [], harness := (true, "170ca377df358544adb675306307351bda093653c07e6ed2b3c9a0c6cece281e"), looks := true }, kinds := [], alts := [], laidByText := true, laidKinds := [.data, .sentinel, .sentinel, .pinned], laidTests := true, laidLooks := .later }
def ExpandQuasiCardSaid : Prop := Claim7.holds Tryz.pinned (.plain (OpenSpec.ofChange expandQuasiSpec)) expandQuasiCard

/-- THE TIED CARD OF 'morainelaw18.ExpandParts'. -/
def expandPartsCard : Claim7 := { stood := { row := expandPartsRow, standIns := [], harness := (true, "170ca377df358544adb675306307351bda093653c07e6ed2b3c9a0c6cece281e"), looks := true }, kinds := [], alts := [], laidByText := true, laidKinds := [.data, .sentinel, .sentinel, .pinned], laidTests := true, laidLooks := .later }
def ExpandPartsCardSaid : Prop := Claim7.holds Tryz.pinned (.plain (OpenSpec.ofChange expandPartsSpec)) expandPartsCard

/-- THE TIED CARD OF 'morainelaw18.ExpandBody'. -/
def expandBodyCard : Claim7 := { stood := { row := expandBodyRow, standIns := [], harness := (true, "170ca377df358544adb675306307351bda093653c07e6ed2b3c9a0c6cece281e"), looks := true }, kinds := [], alts := [], laidByText := true, laidKinds := [.data, .sentinel, .sentinel, .pinned], laidTests := true, laidLooks := .later }
def ExpandBodyCardSaid : Prop := Claim7.holds Tryz.pinned (.plain (OpenSpec.ofChange expandBodySpec)) expandBodyCard

/-- THE TIED CARD OF 'morainelaw19.ScopeExpands'. -/
def scopeExpandsCard : Claim7 := { stood := { row := scopeExpandsRow, standIns := [], harness := (true, "170ca377df358544adb675306307351bda093653c07e6ed2b3c9a0c6cece281e"), looks := true }, kinds := [], alts := [], laidByText := true, laidKinds := [.data, .sentinel, .sentinel, .pinned], laidTests := true, laidLooks := .later }
def ScopeExpandsCardSaid : Prop := Claim7.holds Tryz.pinned (.plain (OpenSpec.ofChange scopeExpandsSpec)) scopeExpandsCard

/-- THE SECOND FORM's CARD OF 'morainelaw18.ExpandWords'. -/
def expandWordsUptoCard : Claim7 := { stood := { row := expandWordsUptoRow, standIns := [], harness := (true, "170ca377df358544adb675306307351bda093653c07e6ed2b3c9a0c6cece281e"), looks := true }, kinds := [], alts := [], laidByText := true, laidKinds := [.data, .sentinel, .sentinel, .pinned], laidTests := true, laidLooks := .later }
def ExpandWordsUptoCardSaid : Prop := Claim7.holds Tryz.pinned (.plain (OpenSpec.upto expandWordsSpec)) expandWordsUptoCard

/-- THE SECOND FORM's CARD OF 'morainelaw18.ExpandClosed'. -/
def expandClosedUptoCard : Claim7 := { stood := { row := expandClosedUptoRow, standIns := [], harness := (true, "170ca377df358544adb675306307351bda093653c07e6ed2b3c9a0c6cece281e"), looks := true }, kinds := [], alts := [], laidByText := true, laidKinds := [.data, .sentinel, .sentinel, .pinned], laidTests := true, laidLooks := .later }
def ExpandClosedUptoCardSaid : Prop := Claim7.holds Tryz.pinned (.plain (OpenSpec.upto expandClosedSpec)) expandClosedUptoCard

/-- THE SECOND FORM's CARD OF 'morainelaw18.ExpandDerived'. -/
def expandDerivedUptoCard : Claim7 := { stood := { row := expandDerivedUptoRow, standIns := [], harness := (true, "170ca377df358544adb675306307351bda093653c07e6ed2b3c9a0c6cece281e"), looks := true }, kinds := [], alts := [], laidByText := true, laidKinds := [.data, .sentinel, .sentinel, .pinned], laidTests := true, laidLooks := .later }
def ExpandDerivedUptoCardSaid : Prop := Claim7.holds Tryz.pinned (.plain (OpenSpec.upto expandDerivedSpec)) expandDerivedUptoCard

/-- THE SECOND FORM's CARD OF 'morainelaw18.ExpandQuasi'. -/
def expandQuasiUptoCard : Claim7 := { stood := { row := expandQuasiUptoRow, standIns := [], harness := (true, "170ca377df358544adb675306307351bda093653c07e6ed2b3c9a0c6cece281e"), looks := true }, kinds := [], alts := [], laidByText := true, laidKinds := [.data, .sentinel, .sentinel, .pinned], laidTests := true, laidLooks := .later }
def ExpandQuasiUptoCardSaid : Prop := Claim7.holds Tryz.pinned (.plain (OpenSpec.upto expandQuasiSpec)) expandQuasiUptoCard

/-- THE SECOND FORM's CARD OF 'morainelaw18.ExpandParts'. -/
def expandPartsUptoCard : Claim7 := { stood := { row := expandPartsUptoRow, standIns := [], harness := (true, "170ca377df358544adb675306307351bda093653c07e6ed2b3c9a0c6cece281e"), looks := true }, kinds := [], alts := [], laidByText := true, laidKinds := [.data, .sentinel, .sentinel, .pinned], laidTests := true, laidLooks := .later }
def ExpandPartsUptoCardSaid : Prop := Claim7.holds Tryz.pinned (.plain (OpenSpec.upto expandPartsSpec)) expandPartsUptoCard

/-- THE SECOND FORM's CARD OF 'morainelaw18.ExpandBody'. -/
def expandBodyUptoCard : Claim7 := { stood := { row := expandBodyUptoRow, standIns := [], harness := (true, "170ca377df358544adb675306307351bda093653c07e6ed2b3c9a0c6cece281e"), looks := true }, kinds := [], alts := [], laidByText := true, laidKinds := [.data, .sentinel, .sentinel, .pinned], laidTests := true, laidLooks := .later }
def ExpandBodyUptoCardSaid : Prop := Claim7.holds Tryz.pinned (.plain (OpenSpec.upto expandBodySpec)) expandBodyUptoCard

/-- THE SECOND FORM's CARD OF 'morainelaw19.ScopeExpands'. -/
def scopeExpandsUptoCard : Claim7 := { stood := { row := scopeExpandsUptoRow, standIns := [], harness := (true, "170ca377df358544adb675306307351bda093653c07e6ed2b3c9a0c6cece281e"), looks := true }, kinds := [], alts := [], laidByText := true, laidKinds := [.data, .sentinel, .sentinel, .pinned], laidTests := true, laidLooks := .later }
def ScopeExpandsUptoCardSaid : Prop := Claim7.holds Tryz.pinned (.plain (OpenSpec.upto scopeExpandsSpec)) scopeExpandsUptoCard
end Rows
end Go.Proofs.YtaeioidifpebdaaGreatDoor
