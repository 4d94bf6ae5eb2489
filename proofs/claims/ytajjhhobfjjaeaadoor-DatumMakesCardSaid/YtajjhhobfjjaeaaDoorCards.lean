/-
  DERIVED. GIVEN WITH THE SEED: THE CARDS: each row of YtajjhhobfjjaeaaDoorRows.lean that lists a variable, with what it lists TIED to the program's text (the seventh form; the later family's looks); each row that meets fmt, with fmt's text TOLD by the authors' own Lean function (tested against real Go, not proved from fmt's source: count such statements apart). THE CARD IS WHAT COUNTS. Prove the row's statement (the work); the ties are given (YtajjhhobfjjaeaaDoorTie.lean); close each card by the builder's one call (the guide's Derived/Test/ToyasCard.lean, 'card_holds'). Laid BY PROGRAM, IN A SANDBOX (cutbox-door.mjs). By AI agents, Wed Nov 11 2026. No macro, syntax, notation, axiom, sorry.
-/
import Derived.Test.YtajjhhobfjjaeaaDoorRows
import GoSem.ClaimSeven
namespace Go.Proofs.YtajjhhobfjjaeaaDoor
namespace Rows

/-- THE TIED CARD OF 'morainelaw03.DatumMay'. -/
def datumMayCard : Claim7 := { stood := { row := datumMayRow, standIns := [], harness := (true, "86f66b007f594854bcef19968124858ea55ea0bfd4f69f48ec782feb50a63984"), looks := false }, kinds := [], alts := [], laidByText := true, laidKinds := [.data, .pinned], laidTests := true, laidLooks := .later }
def DatumMayCardSaid : Prop := Claim7.holds Tryd.pinned (.plain (OpenSpec.ofChange datumMaySpec)) datumMayCard

/-- THE TIED CARD OF 'morainelaw03.DatumSame'. -/
def datumSameCard : Claim7 := { stood := { row := datumSameRow, standIns := [], harness := (true, "86f66b007f594854bcef19968124858ea55ea0bfd4f69f48ec782feb50a63984"), looks := false }, kinds := [], alts := [], laidByText := true, laidKinds := [.data, .pinned], laidTests := true, laidLooks := .later }
def DatumSameCardSaid : Prop := Claim7.holds Tryd.pinned (.plain (OpenSpec.ofChange datumSameSpec)) datumSameCard

/-- THE TIED CARD OF 'morainelaw03.DatumLike'. -/
def datumLikeCard : Claim7 := { stood := { row := datumLikeRow, standIns := [], harness := (true, "86f66b007f594854bcef19968124858ea55ea0bfd4f69f48ec782feb50a63984"), looks := false }, kinds := [], alts := [], laidByText := true, laidKinds := [.data, .pinned], laidTests := true, laidLooks := .later }
def DatumLikeCardSaid : Prop := Claim7.holds Tryd.pinned (.plain (OpenSpec.ofChange datumLikeSpec)) datumLikeCard

/-- THE TIED CARD OF 'morainelaw03.DatumParts'. -/
def datumPartsCard : Claim7 := { stood := { row := datumPartsRow, standIns := [], harness := (true, "86f66b007f594854bcef19968124858ea55ea0bfd4f69f48ec782feb50a63984"), looks := false }, kinds := [], alts := [], laidByText := true, laidKinds := [.data, .pinned], laidTests := true, laidLooks := .later }
def DatumPartsCardSaid : Prop := Claim7.holds Tryd.pinned (.plain (OpenSpec.ofChange datumPartsSpec)) datumPartsCard

/-- THE TIED CARD OF 'morainelaw03.DatumWithin'. -/
def datumWithinCard : Claim7 := { stood := { row := datumWithinRow, standIns := [], harness := (true, "86f66b007f594854bcef19968124858ea55ea0bfd4f69f48ec782feb50a63984"), looks := false }, kinds := [], alts := [], laidByText := true, laidKinds := [.data, .pinned], laidTests := true, laidLooks := .later }
def DatumWithinCardSaid : Prop := Claim7.holds Tryd.pinned (.plain (OpenSpec.ofChange datumWithinSpec)) datumWithinCard

/-- THE TIED CARD OF 'morainelaw03.DatumMakes'. -/
def datumMakesCard : Claim7 := { stood := { row := datumMakesRow, standIns := [], harness := (true, "86f66b007f594854bcef19968124858ea55ea0bfd4f69f48ec782feb50a63984"), looks := false }, kinds := [], alts := [], laidByText := true, laidKinds := [.data, .pinned], laidTests := true, laidLooks := .later }
def DatumMakesCardSaid : Prop := Claim7.holds Tryd.pinned (.plain (OpenSpec.ofChange datumMakesSpec)) datumMakesCard

/-- THE SECOND FORM's CARD OF 'morainelaw03.DatumMay'. -/
def datumMayUptoCard : Claim7 := { stood := { row := datumMayUptoRow, standIns := [], harness := (true, "86f66b007f594854bcef19968124858ea55ea0bfd4f69f48ec782feb50a63984"), looks := false }, kinds := [], alts := [], laidByText := true, laidKinds := [.data, .pinned], laidTests := true, laidLooks := .later }
def DatumMayUptoCardSaid : Prop := Claim7.holds Tryd.pinned (.plain (OpenSpec.upto datumMaySpec)) datumMayUptoCard

/-- THE SECOND FORM's CARD OF 'morainelaw03.DatumSame'. -/
def datumSameUptoCard : Claim7 := { stood := { row := datumSameUptoRow, standIns := [], harness := (true, "86f66b007f594854bcef19968124858ea55ea0bfd4f69f48ec782feb50a63984"), looks := false }, kinds := [], alts := [], laidByText := true, laidKinds := [.data, .pinned], laidTests := true, laidLooks := .later }
def DatumSameUptoCardSaid : Prop := Claim7.holds Tryd.pinned (.plain (OpenSpec.upto datumSameSpec)) datumSameUptoCard

/-- THE SECOND FORM's CARD OF 'morainelaw03.DatumLike'. -/
def datumLikeUptoCard : Claim7 := { stood := { row := datumLikeUptoRow, standIns := [], harness := (true, "86f66b007f594854bcef19968124858ea55ea0bfd4f69f48ec782feb50a63984"), looks := false }, kinds := [], alts := [], laidByText := true, laidKinds := [.data, .pinned], laidTests := true, laidLooks := .later }
def DatumLikeUptoCardSaid : Prop := Claim7.holds Tryd.pinned (.plain (OpenSpec.upto datumLikeSpec)) datumLikeUptoCard

/-- THE SECOND FORM's CARD OF 'morainelaw03.DatumParts'. -/
def datumPartsUptoCard : Claim7 := { stood := { row := datumPartsUptoRow, standIns := [], harness := (true, "86f66b007f594854bcef19968124858ea55ea0bfd4f69f48ec782feb50a63984"), looks := false }, kinds := [], alts := [], laidByText := true, laidKinds := [.data, .pinned], laidTests := true, laidLooks := .later }
def DatumPartsUptoCardSaid : Prop := Claim7.holds Tryd.pinned (.plain (OpenSpec.upto datumPartsSpec)) datumPartsUptoCard

/-- THE SECOND FORM's CARD OF 'morainelaw03.DatumWithin'. -/
def datumWithinUptoCard : Claim7 := { stood := { row := datumWithinUptoRow, standIns := [], harness := (true, "86f66b007f594854bcef19968124858ea55ea0bfd4f69f48ec782feb50a63984"), looks := false }, kinds := [], alts := [], laidByText := true, laidKinds := [.data, .pinned], laidTests := true, laidLooks := .later }
def DatumWithinUptoCardSaid : Prop := Claim7.holds Tryd.pinned (.plain (OpenSpec.upto datumWithinSpec)) datumWithinUptoCard

/-- THE SECOND FORM's CARD OF 'morainelaw03.DatumMakes'. -/
def datumMakesUptoCard : Claim7 := { stood := { row := datumMakesUptoRow, standIns := [], harness := (true, "86f66b007f594854bcef19968124858ea55ea0bfd4f69f48ec782feb50a63984"), looks := false }, kinds := [], alts := [], laidByText := true, laidKinds := [.data, .pinned], laidTests := true, laidLooks := .later }
def DatumMakesUptoCardSaid : Prop := Claim7.holds Tryd.pinned (.plain (OpenSpec.upto datumMakesSpec)) datumMakesUptoCard
end Rows
end Go.Proofs.YtajjhhobfjjaeaaDoor
