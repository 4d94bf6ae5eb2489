/-
  NARROWER THAN 'FOR EVERY INPUT', by the rows' own cells (each row's printed sentence says how): ExpandWords: loops, laid · ExpandClosed: loops, laid · ExpandDerived: loops, laid · ExpandQuasi: loops, laid · ExpandParts: loops, laid · ExpandBody: loops, laid · ScopeExpands: loops, laid.
  DERIVED. THE GIVEN ROWS OF THIS SEAT. 7 by the template 'for every input the law returns true; each argument reads behind the call as it read before'; 0 by the template 'total and deterministic' (their statements: YtaeioidifpebdaaGreatDoorTotals.lean).
  GIVEN WITH THE SEED: the statements are not yours to turn. If you find one false, say at which input.
  Laid BY PROGRAM, IN A SANDBOX (cutbox-rows.mjs): the forced cells as the released guide's own fill.sh prints them over the translation c41da40e0f85e0c2… (all of the seat's roots in one cut). By AI agents, Wed Nov 11 2026. No macro, syntax, notation, axiom, sorry.
-/
import Derived.Test.YtaeioidifpebdaaGreatDoorChecked
import GoSem.PinnedTables
import GoSem.Claim
import GoSem.ClaimJoined
import GoSem.ClaimMapViews
import Derived.JoinedTies
import Derived.KernelRfl
namespace Go.Proofs.YtaeioidifpebdaaGreatDoor
/- THE CELL 'sum', in the pinned program and in every row, IS THE sha256 OF THE DUMP (.gsa) THAT YtaeioidifpebdaaGreatDoorProg.lean LOADS. Nothing in Lean hashes anything: it is a label: what it is worth is what the hold of that sum in a sandbox is worth. -/
noncomputable def Tryz.pinned : Pinned := { name := "ytaeioidifpebdaagreatdoor", sum := "c41da40e0f85e0c2e71be4319bca5339e453e8d11ed43d0b3aabe3dfb5aeb4be", checked := Tryz.checked }
namespace Rows
def none {H : Type} : Left H := { results := [], args := [] }

/- WHAT THE LISTED PACKAGE-LEVEL VARIABLES READ AS WHEN THE CALL BEGINS. Each datum BY PROGRAM (the guide's laid-datum.mjs) off the statement by which the dump's own 'gosem.cut.vars' lays the variable. In a bare row this is a premise. The card (YtaeioidifpebdaaGreatDoorCards.lean) ties it to the program's text. -/
def laid_unicode_utf8_acceptRanges {H : Type} : DataW H := .agg [.agg [.lit (.int .u8 128), .lit (.int .u8 191)], .agg [.lit (.int .u8 160), .lit (.int .u8 191)], .agg [.lit (.int .u8 128), .lit (.int .u8 159)], .agg [.lit (.int .u8 144), .lit (.int .u8 191)], .agg [.lit (.int .u8 128), .lit (.int .u8 143)], .agg [.lit (.int .u8 0), .lit (.int .u8 0)], .agg [.lit (.int .u8 0), .lit (.int .u8 0)], .agg [.lit (.int .u8 0), .lit (.int .u8 0)], .agg [.lit (.int .u8 0), .lit (.int .u8 0)], .agg [.lit (.int .u8 0), .lit (.int .u8 0)], .agg [.lit (.int .u8 0), .lit (.int .u8 0)], .agg [.lit (.int .u8 0), .lit (.int .u8 0)], .agg [.lit (.int .u8 0), .lit (.int .u8 0)], .agg [.lit (.int .u8 0), .lit (.int .u8 0)], .agg [.lit (.int .u8 0), .lit (.int .u8 0)], .agg [.lit (.int .u8 0), .lit (.int .u8 0)]]
def laid_moraine_expand_errSyntax {H : Type} : DataW H := .iface "*errors.errorString" (.ptr (.agg [.lit (.string [110, 111, 32, 101, 120, 112, 114, 101, 115, 115, 105, 111, 110])]))
def laid_moraine_expand_errBig {H : Type} : DataW H := .iface "*errors.errorString" (.ptr (.agg [.lit (.string [116, 111, 111, 32, 109, 97, 110, 121])]))
/-- One of Go's own tables, pinned by name: the form's constant. -/
def laid_unicode_utf8_first : DataW Unit := Go.Pinned.utf8First

/-- 'morainelaw18.ExpandWords': WHATEVER THE INPUT: true; the input reads as it did. -/
def expandWordsSpec : ChangeSpec := { name := "expandWords", fn := fun _ => fun
  | [d1, d2, d3] => { results := [.lit (.bool true)], args := [d1, d2, d3] }
  | _ => none }
def expandWordsRow : OpenClaim := { program := "ytaeioidifpebdaagreatdoor", sum := "c41da40e0f85e0c2e71be4319bca5339e453e8d11ed43d0b3aabe3dfb5aeb4be", func := "moraine/morainelaw18.ExpandWords", spec := "expandWords", inPlace := ["internal/reflectlite.TypeOf"], unfollowed := true, recurses := true, named := ["moraine/expand.errBig", "unicode/utf8.first", "unicode/utf8.acceptRanges", "moraine/expand.errSyntax"], loops := true, apart := false, laid := [("unicode/utf8.acceptRanges", laid_unicode_utf8_acceptRanges), ("moraine/expand.errSyntax", laid_moraine_expand_errSyntax), ("moraine/expand.errBig", laid_moraine_expand_errBig), ("unicode/utf8.first", laid_unicode_utf8_first)] }
def ExpandWordsSaid : Prop := expandWordsRow.holds Tryz.pinned (OpenSpec.ofChange expandWordsSpec)

/-- ITS FALSE NEIGHBOUR: 'it returns false'. Refute it at one input. -/
def expandWordsWrong : ChangeSpec := { name := "expandWords", fn := fun _ => fun
  | [d1, d2, d3] => { results := [.lit (.bool false)], args := [d1, d2, d3] }
  | _ => none }
def ExpandWordsWrongFalsely : Prop := expandWordsRow.holds Tryz.pinned (OpenSpec.ofChange expandWordsWrong)

/-- 'morainelaw18.ExpandClosed': WHATEVER THE INPUT: true; the input reads as it did. -/
def expandClosedSpec : ChangeSpec := { name := "expandClosed", fn := fun _ => fun
  | [d] => { results := [.lit (.bool true)], args := [d] }
  | _ => none }
def expandClosedRow : OpenClaim := { program := "ytaeioidifpebdaagreatdoor", sum := "c41da40e0f85e0c2e71be4319bca5339e453e8d11ed43d0b3aabe3dfb5aeb4be", func := "moraine/morainelaw18.ExpandClosed", spec := "expandClosed", inPlace := ["internal/reflectlite.TypeOf"], unfollowed := true, recurses := true, named := ["moraine/expand.errBig", "unicode/utf8.first", "unicode/utf8.acceptRanges", "moraine/expand.errSyntax"], loops := true, apart := false, laid := [("unicode/utf8.acceptRanges", laid_unicode_utf8_acceptRanges), ("moraine/expand.errSyntax", laid_moraine_expand_errSyntax), ("moraine/expand.errBig", laid_moraine_expand_errBig), ("unicode/utf8.first", laid_unicode_utf8_first)] }
def ExpandClosedSaid : Prop := expandClosedRow.holds Tryz.pinned (OpenSpec.ofChange expandClosedSpec)

/-- ITS FALSE NEIGHBOUR: 'it returns false'. Refute it at one input. -/
def expandClosedWrong : ChangeSpec := { name := "expandClosed", fn := fun _ => fun
  | [d] => { results := [.lit (.bool false)], args := [d] }
  | _ => none }
def ExpandClosedWrongFalsely : Prop := expandClosedRow.holds Tryz.pinned (OpenSpec.ofChange expandClosedWrong)

/-- 'morainelaw18.ExpandDerived': WHATEVER THE INPUT: true; the input reads as it did. -/
def expandDerivedSpec : ChangeSpec := { name := "expandDerived", fn := fun _ => fun
  | [d1, d2, d3, d4] => { results := [.lit (.bool true)], args := [d1, d2, d3, d4] }
  | _ => none }
def expandDerivedRow : OpenClaim := { program := "ytaeioidifpebdaagreatdoor", sum := "c41da40e0f85e0c2e71be4319bca5339e453e8d11ed43d0b3aabe3dfb5aeb4be", func := "moraine/morainelaw18.ExpandDerived", spec := "expandDerived", inPlace := ["internal/reflectlite.TypeOf"], unfollowed := true, recurses := true, named := ["moraine/expand.errBig", "unicode/utf8.first", "unicode/utf8.acceptRanges", "moraine/expand.errSyntax"], loops := true, apart := false, laid := [("unicode/utf8.acceptRanges", laid_unicode_utf8_acceptRanges), ("moraine/expand.errSyntax", laid_moraine_expand_errSyntax), ("moraine/expand.errBig", laid_moraine_expand_errBig), ("unicode/utf8.first", laid_unicode_utf8_first)] }
def ExpandDerivedSaid : Prop := expandDerivedRow.holds Tryz.pinned (OpenSpec.ofChange expandDerivedSpec)

/-- ITS FALSE NEIGHBOUR: 'it returns false'. Refute it at one input. -/
def expandDerivedWrong : ChangeSpec := { name := "expandDerived", fn := fun _ => fun
  | [d1, d2, d3, d4] => { results := [.lit (.bool false)], args := [d1, d2, d3, d4] }
  | _ => none }
def ExpandDerivedWrongFalsely : Prop := expandDerivedRow.holds Tryz.pinned (OpenSpec.ofChange expandDerivedWrong)

/-- 'morainelaw18.ExpandQuasi': WHATEVER THE INPUT: true; the input reads as it did. -/
def expandQuasiSpec : ChangeSpec := { name := "expandQuasi", fn := fun _ => fun
  | [d1, d2] => { results := [.lit (.bool true)], args := [d1, d2] }
  | _ => none }
def expandQuasiRow : OpenClaim := { program := "ytaeioidifpebdaagreatdoor", sum := "c41da40e0f85e0c2e71be4319bca5339e453e8d11ed43d0b3aabe3dfb5aeb4be", func := "moraine/morainelaw18.ExpandQuasi", spec := "expandQuasi", inPlace := ["internal/reflectlite.TypeOf"], unfollowed := true, recurses := true, named := ["moraine/expand.errBig", "unicode/utf8.first", "unicode/utf8.acceptRanges", "moraine/expand.errSyntax"], loops := true, apart := false, laid := [("unicode/utf8.acceptRanges", laid_unicode_utf8_acceptRanges), ("moraine/expand.errSyntax", laid_moraine_expand_errSyntax), ("moraine/expand.errBig", laid_moraine_expand_errBig), ("unicode/utf8.first", laid_unicode_utf8_first)] }
def ExpandQuasiSaid : Prop := expandQuasiRow.holds Tryz.pinned (OpenSpec.ofChange expandQuasiSpec)

/-- ITS FALSE NEIGHBOUR: 'it returns false'. Refute it at one input. -/
def expandQuasiWrong : ChangeSpec := { name := "expandQuasi", fn := fun _ => fun
  | [d1, d2] => { results := [.lit (.bool false)], args := [d1, d2] }
  | _ => none }
def ExpandQuasiWrongFalsely : Prop := expandQuasiRow.holds Tryz.pinned (OpenSpec.ofChange expandQuasiWrong)

/-- 'morainelaw18.ExpandParts': WHATEVER THE INPUT: true; the input reads as it did. -/
def expandPartsSpec : ChangeSpec := { name := "expandParts", fn := fun _ => fun
  | [d1, d2, d3] => { results := [.lit (.bool true)], args := [d1, d2, d3] }
  | _ => none }
def expandPartsRow : OpenClaim := { program := "ytaeioidifpebdaagreatdoor", sum := "c41da40e0f85e0c2e71be4319bca5339e453e8d11ed43d0b3aabe3dfb5aeb4be", func := "moraine/morainelaw18.ExpandParts", spec := "expandParts", inPlace := ["internal/reflectlite.TypeOf"], unfollowed := true, recurses := true, named := ["moraine/expand.errBig", "unicode/utf8.first", "unicode/utf8.acceptRanges", "moraine/expand.errSyntax"], loops := true, apart := false, laid := [("unicode/utf8.acceptRanges", laid_unicode_utf8_acceptRanges), ("moraine/expand.errSyntax", laid_moraine_expand_errSyntax), ("moraine/expand.errBig", laid_moraine_expand_errBig), ("unicode/utf8.first", laid_unicode_utf8_first)] }
def ExpandPartsSaid : Prop := expandPartsRow.holds Tryz.pinned (OpenSpec.ofChange expandPartsSpec)

/-- ITS FALSE NEIGHBOUR: 'it returns false'. Refute it at one input. -/
def expandPartsWrong : ChangeSpec := { name := "expandParts", fn := fun _ => fun
  | [d1, d2, d3] => { results := [.lit (.bool false)], args := [d1, d2, d3] }
  | _ => none }
def ExpandPartsWrongFalsely : Prop := expandPartsRow.holds Tryz.pinned (OpenSpec.ofChange expandPartsWrong)

/-- 'morainelaw18.ExpandBody': WHATEVER THE INPUT: true; the input reads as it did. -/
def expandBodySpec : ChangeSpec := { name := "expandBody", fn := fun _ => fun
  | [d1, d2, d3, d4] => { results := [.lit (.bool true)], args := [d1, d2, d3, d4] }
  | _ => none }
def expandBodyRow : OpenClaim := { program := "ytaeioidifpebdaagreatdoor", sum := "c41da40e0f85e0c2e71be4319bca5339e453e8d11ed43d0b3aabe3dfb5aeb4be", func := "moraine/morainelaw18.ExpandBody", spec := "expandBody", inPlace := ["internal/reflectlite.TypeOf"], unfollowed := true, recurses := true, named := ["moraine/expand.errBig", "unicode/utf8.first", "unicode/utf8.acceptRanges", "moraine/expand.errSyntax"], loops := true, apart := false, laid := [("unicode/utf8.acceptRanges", laid_unicode_utf8_acceptRanges), ("moraine/expand.errSyntax", laid_moraine_expand_errSyntax), ("moraine/expand.errBig", laid_moraine_expand_errBig), ("unicode/utf8.first", laid_unicode_utf8_first)] }
def ExpandBodySaid : Prop := expandBodyRow.holds Tryz.pinned (OpenSpec.ofChange expandBodySpec)

/-- ITS FALSE NEIGHBOUR: 'it returns false'. Refute it at one input. -/
def expandBodyWrong : ChangeSpec := { name := "expandBody", fn := fun _ => fun
  | [d1, d2, d3, d4] => { results := [.lit (.bool false)], args := [d1, d2, d3, d4] }
  | _ => none }
def ExpandBodyWrongFalsely : Prop := expandBodyRow.holds Tryz.pinned (OpenSpec.ofChange expandBodyWrong)

/-- 'morainelaw19.ScopeExpands': WHATEVER THE INPUT: true; the input reads as it did. -/
def scopeExpandsSpec : ChangeSpec := { name := "scopeExpands", fn := fun _ => fun
  | [d] => { results := [.lit (.bool true)], args := [d] }
  | _ => none }
def scopeExpandsRow : OpenClaim := { program := "ytaeioidifpebdaagreatdoor", sum := "c41da40e0f85e0c2e71be4319bca5339e453e8d11ed43d0b3aabe3dfb5aeb4be", func := "moraine/morainelaw19.ScopeExpands", spec := "scopeExpands", inPlace := ["internal/reflectlite.TypeOf"], unfollowed := true, recurses := true, named := ["unicode/utf8.first", "unicode/utf8.acceptRanges", "moraine/expand.errBig", "moraine/expand.errSyntax"], loops := true, apart := false, laid := [("unicode/utf8.acceptRanges", laid_unicode_utf8_acceptRanges), ("moraine/expand.errSyntax", laid_moraine_expand_errSyntax), ("moraine/expand.errBig", laid_moraine_expand_errBig), ("unicode/utf8.first", laid_unicode_utf8_first)] }
def ScopeExpandsSaid : Prop := scopeExpandsRow.holds Tryz.pinned (OpenSpec.ofChange scopeExpandsSpec)

/-- ITS FALSE NEIGHBOUR: 'it returns false'. Refute it at one input. -/
def scopeExpandsWrong : ChangeSpec := { name := "scopeExpands", fn := fun _ => fun
  | [d] => { results := [.lit (.bool false)], args := [d] }
  | _ => none }
def ScopeExpandsWrongFalsely : Prop := scopeExpandsRow.holds Tryz.pinned (OpenSpec.ofChange scopeExpandsWrong)

/- THE SECOND FORM. 'bulk': how many values and letters a reading holds, each counted each time it is reached (what is shared counts as often as it is met; a slice's spare places count too). A statement '..UptoSaid' is the law's where the arguments, and the package variables that the reading takes, are together of bulk at most 1048576: NARROWER than '..Said'. Prove '..Said' where nothing that the law and all that it calls make is longer than what came in: it says more and counts as full. Else prove '..UptoSaid'. A law counts once. -/
mutual
def uptoBulk {H : Type} : DataW H → Nat
  | .lit (.string bytes) => bytes.length + 1
  | .lit _ => 1
  | .nil => 1
  | .ptr d => uptoBulk d + 1
  | .slice elems spare => uptoBulkAll elems + uptoBulkAll spare + 1
  | .agg parts => uptoBulkAll parts + 1
  | .iface _ d => uptoBulk d + 1
  | .map entries => uptoBulkEntries entries + 1
  | .held _ => 1
def uptoBulkAll {H : Type} : List (DataW H) → Nat
  | [] => 0
  | d :: r => uptoBulk d + uptoBulkAll r
def uptoBulkEntries {H : Type} : List (Lit × DataW H) → Nat
  | [] => 0
  | x :: r => uptoBulkEntry x + uptoBulkEntries r
def uptoBulkEntry {H : Type} : Lit × DataW H → Nat
  | (.string bytes, d) => bytes.length + uptoBulk d + 1
  | (_, d) => uptoBulk d + 1
 end
def uptoSmall : (H : Type) → List (DataW H) → Bool := fun _ ds => decide (uptoBulkAll ds ≤ 1048576)
def OpenSpec.upto (s : _root_.Go.ChangeSpec) : _root_.Go.OpenSpec := { _root_.Go.OpenSpec.ofChange s with cond := some uptoSmall }

/-- 'morainelaw18.ExpandWords', WHERE WHAT IT READS IS OF BULK AT MOST 1048576: true; the input reads as it did. -/
def expandWordsUptoRow : OpenClaim := { program := "ytaeioidifpebdaagreatdoor", sum := "c41da40e0f85e0c2e71be4319bca5339e453e8d11ed43d0b3aabe3dfb5aeb4be", func := "moraine/morainelaw18.ExpandWords", spec := "expandWords", inPlace := ["internal/reflectlite.TypeOf"], unfollowed := true, recurses := true, named := ["moraine/expand.errBig", "unicode/utf8.first", "unicode/utf8.acceptRanges", "moraine/expand.errSyntax"], loops := true, apart := false, laid := [("unicode/utf8.acceptRanges", laid_unicode_utf8_acceptRanges), ("moraine/expand.errSyntax", laid_moraine_expand_errSyntax), ("moraine/expand.errBig", laid_moraine_expand_errBig), ("unicode/utf8.first", laid_unicode_utf8_first)], narrowed := true }
def ExpandWordsUptoSaid : Prop := expandWordsUptoRow.holds Tryz.pinned (OpenSpec.upto expandWordsSpec)

/-- 'morainelaw18.ExpandClosed', WHERE WHAT IT READS IS OF BULK AT MOST 1048576: true; the input reads as it did. -/
def expandClosedUptoRow : OpenClaim := { program := "ytaeioidifpebdaagreatdoor", sum := "c41da40e0f85e0c2e71be4319bca5339e453e8d11ed43d0b3aabe3dfb5aeb4be", func := "moraine/morainelaw18.ExpandClosed", spec := "expandClosed", inPlace := ["internal/reflectlite.TypeOf"], unfollowed := true, recurses := true, named := ["moraine/expand.errBig", "unicode/utf8.first", "unicode/utf8.acceptRanges", "moraine/expand.errSyntax"], loops := true, apart := false, laid := [("unicode/utf8.acceptRanges", laid_unicode_utf8_acceptRanges), ("moraine/expand.errSyntax", laid_moraine_expand_errSyntax), ("moraine/expand.errBig", laid_moraine_expand_errBig), ("unicode/utf8.first", laid_unicode_utf8_first)], narrowed := true }
def ExpandClosedUptoSaid : Prop := expandClosedUptoRow.holds Tryz.pinned (OpenSpec.upto expandClosedSpec)

/-- 'morainelaw18.ExpandDerived', WHERE WHAT IT READS IS OF BULK AT MOST 1048576: true; the input reads as it did. -/
def expandDerivedUptoRow : OpenClaim := { program := "ytaeioidifpebdaagreatdoor", sum := "c41da40e0f85e0c2e71be4319bca5339e453e8d11ed43d0b3aabe3dfb5aeb4be", func := "moraine/morainelaw18.ExpandDerived", spec := "expandDerived", inPlace := ["internal/reflectlite.TypeOf"], unfollowed := true, recurses := true, named := ["moraine/expand.errBig", "unicode/utf8.first", "unicode/utf8.acceptRanges", "moraine/expand.errSyntax"], loops := true, apart := false, laid := [("unicode/utf8.acceptRanges", laid_unicode_utf8_acceptRanges), ("moraine/expand.errSyntax", laid_moraine_expand_errSyntax), ("moraine/expand.errBig", laid_moraine_expand_errBig), ("unicode/utf8.first", laid_unicode_utf8_first)], narrowed := true }
def ExpandDerivedUptoSaid : Prop := expandDerivedUptoRow.holds Tryz.pinned (OpenSpec.upto expandDerivedSpec)

/-- 'morainelaw18.ExpandQuasi', WHERE WHAT IT READS IS OF BULK AT MOST 1048576: true; the input reads as it did. -/
def expandQuasiUptoRow : OpenClaim := { program := "ytaeioidifpebdaagreatdoor", sum := "c41da40e0f85e0c2e71be4319bca5339e453e8d11ed43d0b3aabe3dfb5aeb4be", func := "moraine/morainelaw18.ExpandQuasi", spec := "expandQuasi", inPlace := ["internal/reflectlite.TypeOf"], unfollowed := true, recurses := true, named := ["moraine/expand.errBig", "unicode/utf8.first", "unicode/utf8.acceptRanges", "moraine/expand.errSyntax"], loops := true, apart := false, laid := [("unicode/utf8.acceptRanges", laid_unicode_utf8_acceptRanges), ("moraine/expand.errSyntax", laid_moraine_expand_errSyntax), ("moraine/expand.errBig", laid_moraine_expand_errBig), ("unicode/utf8.first", laid_unicode_utf8_first)], narrowed := true }
def ExpandQuasiUptoSaid : Prop := expandQuasiUptoRow.holds Tryz.pinned (OpenSpec.upto expandQuasiSpec)

/-- 'morainelaw18.ExpandParts', WHERE WHAT IT READS IS OF BULK AT MOST 1048576: true; the input reads as it did. -/
def expandPartsUptoRow : OpenClaim := { program := "ytaeioidifpebdaagreatdoor", sum := "c41da40e0f85e0c2e71be4319bca5339e453e8d11ed43d0b3aabe3dfb5aeb4be", func := "moraine/morainelaw18.ExpandParts", spec := "expandParts", inPlace := ["internal/reflectlite.TypeOf"], unfollowed := true, recurses := true, named := ["moraine/expand.errBig", "unicode/utf8.first", "unicode/utf8.acceptRanges", "moraine/expand.errSyntax"], loops := true, apart := false, laid := [("unicode/utf8.acceptRanges", laid_unicode_utf8_acceptRanges), ("moraine/expand.errSyntax", laid_moraine_expand_errSyntax), ("moraine/expand.errBig", laid_moraine_expand_errBig), ("unicode/utf8.first", laid_unicode_utf8_first)], narrowed := true }
def ExpandPartsUptoSaid : Prop := expandPartsUptoRow.holds Tryz.pinned (OpenSpec.upto expandPartsSpec)

/-- 'morainelaw18.ExpandBody', WHERE WHAT IT READS IS OF BULK AT MOST 1048576: true; the input reads as it did. -/
def expandBodyUptoRow : OpenClaim := { program := "ytaeioidifpebdaagreatdoor", sum := "c41da40e0f85e0c2e71be4319bca5339e453e8d11ed43d0b3aabe3dfb5aeb4be", func := "moraine/morainelaw18.ExpandBody", spec := "expandBody", inPlace := ["internal/reflectlite.TypeOf"], unfollowed := true, recurses := true, named := ["moraine/expand.errBig", "unicode/utf8.first", "unicode/utf8.acceptRanges", "moraine/expand.errSyntax"], loops := true, apart := false, laid := [("unicode/utf8.acceptRanges", laid_unicode_utf8_acceptRanges), ("moraine/expand.errSyntax", laid_moraine_expand_errSyntax), ("moraine/expand.errBig", laid_moraine_expand_errBig), ("unicode/utf8.first", laid_unicode_utf8_first)], narrowed := true }
def ExpandBodyUptoSaid : Prop := expandBodyUptoRow.holds Tryz.pinned (OpenSpec.upto expandBodySpec)

/-- 'morainelaw19.ScopeExpands', WHERE WHAT IT READS IS OF BULK AT MOST 1048576: true; the input reads as it did. -/
def scopeExpandsUptoRow : OpenClaim := { program := "ytaeioidifpebdaagreatdoor", sum := "c41da40e0f85e0c2e71be4319bca5339e453e8d11ed43d0b3aabe3dfb5aeb4be", func := "moraine/morainelaw19.ScopeExpands", spec := "scopeExpands", inPlace := ["internal/reflectlite.TypeOf"], unfollowed := true, recurses := true, named := ["unicode/utf8.first", "unicode/utf8.acceptRanges", "moraine/expand.errBig", "moraine/expand.errSyntax"], loops := true, apart := false, laid := [("unicode/utf8.acceptRanges", laid_unicode_utf8_acceptRanges), ("moraine/expand.errSyntax", laid_moraine_expand_errSyntax), ("moraine/expand.errBig", laid_moraine_expand_errBig), ("unicode/utf8.first", laid_unicode_utf8_first)], narrowed := true }
def ScopeExpandsUptoSaid : Prop := scopeExpandsUptoRow.holds Tryz.pinned (OpenSpec.upto scopeExpandsSpec)

end Rows
end Go.Proofs.YtaeioidifpebdaaGreatDoor
