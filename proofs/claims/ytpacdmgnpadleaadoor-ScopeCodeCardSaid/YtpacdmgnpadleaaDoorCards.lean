/-
  DERIVED. GIVEN WITH THE SEED: THE CARDS: each row of YtpacdmgnpadleaaDoorRows.lean that lists a variable, with what it lists TIED to the program's text (the seventh form; the later family's looks); each row that meets fmt, with fmt's text TOLD by the authors' own Lean function (tested against real Go, not proved from fmt's source: count such statements apart). THE CARD IS WHAT COUNTS. Prove the row's statement (the work); the ties are given (YtpacdmgnpadleaaDoorTie.lean); close each card by the builder's one call (the guide's Derived/Test/ToyasCard.lean, 'card_holds'). Laid BY PROGRAM, IN A SANDBOX (cutbox-door.mjs). By AI agents, Wed Nov 11 2026. No macro, syntax, notation, axiom, sorry.
-/
import Derived.Test.YtpacdmgnpadleaaDoorRows
import GoSem.ClaimSeven
namespace Go.Proofs.YtpacdmgnpadleaaDoor
namespace Rows

/-- THE TIED CARD OF 'morainelaw19.ScopeCode'. -/
def scopeCodeCard : Claim7 := { stood := { row := scopeCodeRow, standIns := [], harness := (true, "3a544aedc3ca41a41fcb7f0abdc64efe7075ceead19e75fa486cc42248b9cd61"), looks := false }, kinds := [], alts := [], laidByText := true, laidKinds := [.data, .pinned], laidTests := true, laidLooks := .later }
def ScopeCodeCardSaid : Prop := Claim7.holds Tryd.pinned (.plain (OpenSpec.ofChange scopeCodeSpec)) scopeCodeCard

/-- THE TIED CARD OF 'morainelaw19.ScopeWithin'. -/
def scopeWithinCard : Claim7 := { stood := { row := scopeWithinRow, standIns := [], harness := (true, "3a544aedc3ca41a41fcb7f0abdc64efe7075ceead19e75fa486cc42248b9cd61"), looks := false }, kinds := [], alts := [], laidByText := true, laidKinds := [.data, .pinned], laidTests := true, laidLooks := .later }
def ScopeWithinCardSaid : Prop := Claim7.holds Tryd.pinned (.plain (OpenSpec.ofChange scopeWithinSpec)) scopeWithinCard

/-- THE TIED CARD OF 'morainelaw19.ScopePlaces'. -/
def scopePlacesCard : Claim7 := { stood := { row := scopePlacesRow, standIns := [], harness := (true, "3a544aedc3ca41a41fcb7f0abdc64efe7075ceead19e75fa486cc42248b9cd61"), looks := false }, kinds := [], alts := [], laidByText := true, laidKinds := [.data, .pinned], laidTests := true, laidLooks := .later }
def ScopePlacesCardSaid : Prop := Claim7.holds Tryd.pinned (.plain (OpenSpec.ofChange scopePlacesSpec)) scopePlacesCard

/-- THE TIED CARD OF 'morainelaw19.ScopeParts'. -/
def scopePartsCard : Claim7 := { stood := { row := scopePartsRow, standIns := [], harness := (true, "3a544aedc3ca41a41fcb7f0abdc64efe7075ceead19e75fa486cc42248b9cd61"), looks := false }, kinds := [], alts := [], laidByText := true, laidKinds := [.data, .pinned], laidTests := true, laidLooks := .later }
def ScopePartsCardSaid : Prop := Claim7.holds Tryd.pinned (.plain (OpenSpec.ofChange scopePartsSpec)) scopePartsCard

/-- THE TIED CARD OF 'morainelaw19.ScopeCounts'. -/
def scopeCountsCard : Claim7 := { stood := { row := scopeCountsRow, standIns := [], harness := (true, "3a544aedc3ca41a41fcb7f0abdc64efe7075ceead19e75fa486cc42248b9cd61"), looks := false }, kinds := [], alts := [], laidByText := true, laidKinds := [.data, .pinned], laidTests := true, laidLooks := .later }
def ScopeCountsCardSaid : Prop := Claim7.holds Tryd.pinned (.plain (OpenSpec.ofChange scopeCountsSpec)) scopeCountsCard

/-- THE TIED CARD OF 'morainelaw19.ScopeInner'. -/
def scopeInnerCard : Claim7 := { stood := { row := scopeInnerRow, standIns := [], harness := (true, "3a544aedc3ca41a41fcb7f0abdc64efe7075ceead19e75fa486cc42248b9cd61"), looks := false }, kinds := [], alts := [], laidByText := true, laidKinds := [.data, .pinned], laidTests := true, laidLooks := .later }
def ScopeInnerCardSaid : Prop := Claim7.holds Tryd.pinned (.plain (OpenSpec.ofChange scopeInnerSpec)) scopeInnerCard

/-- THE SECOND FORM's CARD OF 'morainelaw19.ScopeCode'. -/
def scopeCodeUptoCard : Claim7 := { stood := { row := scopeCodeUptoRow, standIns := [], harness := (true, "3a544aedc3ca41a41fcb7f0abdc64efe7075ceead19e75fa486cc42248b9cd61"), looks := false }, kinds := [], alts := [], laidByText := true, laidKinds := [.data, .pinned], laidTests := true, laidLooks := .later }
def ScopeCodeUptoCardSaid : Prop := Claim7.holds Tryd.pinned (.plain (OpenSpec.upto scopeCodeSpec)) scopeCodeUptoCard

/-- THE SECOND FORM's CARD OF 'morainelaw19.ScopeWithin'. -/
def scopeWithinUptoCard : Claim7 := { stood := { row := scopeWithinUptoRow, standIns := [], harness := (true, "3a544aedc3ca41a41fcb7f0abdc64efe7075ceead19e75fa486cc42248b9cd61"), looks := false }, kinds := [], alts := [], laidByText := true, laidKinds := [.data, .pinned], laidTests := true, laidLooks := .later }
def ScopeWithinUptoCardSaid : Prop := Claim7.holds Tryd.pinned (.plain (OpenSpec.upto scopeWithinSpec)) scopeWithinUptoCard

/-- THE SECOND FORM's CARD OF 'morainelaw19.ScopePlaces'. -/
def scopePlacesUptoCard : Claim7 := { stood := { row := scopePlacesUptoRow, standIns := [], harness := (true, "3a544aedc3ca41a41fcb7f0abdc64efe7075ceead19e75fa486cc42248b9cd61"), looks := false }, kinds := [], alts := [], laidByText := true, laidKinds := [.data, .pinned], laidTests := true, laidLooks := .later }
def ScopePlacesUptoCardSaid : Prop := Claim7.holds Tryd.pinned (.plain (OpenSpec.upto scopePlacesSpec)) scopePlacesUptoCard

/-- THE SECOND FORM's CARD OF 'morainelaw19.ScopeParts'. -/
def scopePartsUptoCard : Claim7 := { stood := { row := scopePartsUptoRow, standIns := [], harness := (true, "3a544aedc3ca41a41fcb7f0abdc64efe7075ceead19e75fa486cc42248b9cd61"), looks := false }, kinds := [], alts := [], laidByText := true, laidKinds := [.data, .pinned], laidTests := true, laidLooks := .later }
def ScopePartsUptoCardSaid : Prop := Claim7.holds Tryd.pinned (.plain (OpenSpec.upto scopePartsSpec)) scopePartsUptoCard

/-- THE SECOND FORM's CARD OF 'morainelaw19.ScopeCounts'. -/
def scopeCountsUptoCard : Claim7 := { stood := { row := scopeCountsUptoRow, standIns := [], harness := (true, "3a544aedc3ca41a41fcb7f0abdc64efe7075ceead19e75fa486cc42248b9cd61"), looks := false }, kinds := [], alts := [], laidByText := true, laidKinds := [.data, .pinned], laidTests := true, laidLooks := .later }
def ScopeCountsUptoCardSaid : Prop := Claim7.holds Tryd.pinned (.plain (OpenSpec.upto scopeCountsSpec)) scopeCountsUptoCard

/-- THE SECOND FORM's CARD OF 'morainelaw19.ScopeInner'. -/
def scopeInnerUptoCard : Claim7 := { stood := { row := scopeInnerUptoRow, standIns := [], harness := (true, "3a544aedc3ca41a41fcb7f0abdc64efe7075ceead19e75fa486cc42248b9cd61"), looks := false }, kinds := [], alts := [], laidByText := true, laidKinds := [.data, .pinned], laidTests := true, laidLooks := .later }
def ScopeInnerUptoCardSaid : Prop := Claim7.holds Tryd.pinned (.plain (OpenSpec.upto scopeInnerSpec)) scopeInnerUptoCard
end Rows
end Go.Proofs.YtpacdmgnpadleaaDoor
