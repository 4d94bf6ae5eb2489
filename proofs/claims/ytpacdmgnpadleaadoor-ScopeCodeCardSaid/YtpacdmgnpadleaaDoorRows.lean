/-
  NARROWER THAN 'FOR EVERY INPUT', by the rows' own cells (each row's printed sentence says how): ScopeCode: loops, laid · ScopeWithin: loops, laid · ScopePlaces: loops, laid · ScopeParts: loops, laid · ScopeCounts: loops, laid · ScopeInner: laid.
  DERIVED. THE GIVEN ROWS OF THIS SEAT. 6 by the template 'for every input the law returns true; each argument reads behind the call as it read before'; 0 by the template 'total and deterministic' (their statements: YtpacdmgnpadleaaDoorTotals.lean).
  GIVEN WITH THE SEED: the statements are not yours to turn. If you find one false, say at which input.
  Laid BY PROGRAM, IN A SANDBOX (cutbox-rows.mjs): the forced cells as the released guide's own fill.sh prints them over the translation c0f3659db9eeee40… (all of the seat's roots in one cut). By AI agents, Wed Nov 11 2026. No macro, syntax, notation, axiom, sorry.
-/
import Derived.Test.YtpacdmgnpadleaaDoorChecked
import GoSem.PinnedTables
import GoSem.Claim
import GoSem.ClaimJoined
import GoSem.ClaimMapViews
import Derived.JoinedTies
import Derived.KernelRfl
namespace Go.Proofs.YtpacdmgnpadleaaDoor
/- THE CELL 'sum', in the pinned program and in every row, IS THE sha256 OF THE DUMP (.gsa) THAT YtpacdmgnpadleaaDoorProg.lean LOADS. Nothing in Lean hashes anything: it is a label: what it is worth is what the hold of that sum in a sandbox is worth. -/
noncomputable def Tryd.pinned : Pinned := { name := "ytpacdmgnpadleaadoor", sum := "c0f3659db9eeee407c3c3896ef5af25dad9062854487f7fa4c942c86bf93d5a6", checked := Tryd.checked }
namespace Rows
def none {H : Type} : Left H := { results := [], args := [] }

/- WHAT THE LISTED PACKAGE-LEVEL VARIABLES READ AS WHEN THE CALL BEGINS. Each datum BY PROGRAM (the guide's laid-datum.mjs) off the statement by which the dump's own 'gosem.cut.vars' lays the variable. In a bare row this is a premise. The card (YtpacdmgnpadleaaDoorCards.lean) ties it to the program's text. -/
def laid_unicode_utf8_acceptRanges {H : Type} : DataW H := .agg [.agg [.lit (.int .u8 128), .lit (.int .u8 191)], .agg [.lit (.int .u8 160), .lit (.int .u8 191)], .agg [.lit (.int .u8 128), .lit (.int .u8 159)], .agg [.lit (.int .u8 144), .lit (.int .u8 191)], .agg [.lit (.int .u8 128), .lit (.int .u8 143)], .agg [.lit (.int .u8 0), .lit (.int .u8 0)], .agg [.lit (.int .u8 0), .lit (.int .u8 0)], .agg [.lit (.int .u8 0), .lit (.int .u8 0)], .agg [.lit (.int .u8 0), .lit (.int .u8 0)], .agg [.lit (.int .u8 0), .lit (.int .u8 0)], .agg [.lit (.int .u8 0), .lit (.int .u8 0)], .agg [.lit (.int .u8 0), .lit (.int .u8 0)], .agg [.lit (.int .u8 0), .lit (.int .u8 0)], .agg [.lit (.int .u8 0), .lit (.int .u8 0)], .agg [.lit (.int .u8 0), .lit (.int .u8 0)], .agg [.lit (.int .u8 0), .lit (.int .u8 0)]]
/-- One of Go's own tables, pinned by name: the form's constant. -/
def laid_unicode_utf8_first : DataW Unit := Go.Pinned.utf8First

/-- 'morainelaw19.ScopeCode': WHATEVER THE INPUT: true; the input reads as it did. -/
def scopeCodeSpec : ChangeSpec := { name := "scopeCode", fn := fun _ => fun
  | [d] => { results := [.lit (.bool true)], args := [d] }
  | _ => none }
def scopeCodeRow : OpenClaim := { program := "ytpacdmgnpadleaadoor", sum := "c0f3659db9eeee407c3c3896ef5af25dad9062854487f7fa4c942c86bf93d5a6", func := "moraine/morainelaw19.ScopeCode", spec := "scopeCode", unfollowed := true, recurses := true, named := ["unicode/utf8.first", "unicode/utf8.acceptRanges"], loops := true, apart := false, laid := [("unicode/utf8.acceptRanges", laid_unicode_utf8_acceptRanges), ("unicode/utf8.first", laid_unicode_utf8_first)] }
def ScopeCodeSaid : Prop := scopeCodeRow.holds Tryd.pinned (OpenSpec.ofChange scopeCodeSpec)

/-- ITS FALSE NEIGHBOUR: 'it returns false'. Refute it at one input. -/
def scopeCodeWrong : ChangeSpec := { name := "scopeCode", fn := fun _ => fun
  | [d] => { results := [.lit (.bool false)], args := [d] }
  | _ => none }
def ScopeCodeWrongFalsely : Prop := scopeCodeRow.holds Tryd.pinned (OpenSpec.ofChange scopeCodeWrong)

/-- 'morainelaw19.ScopeWithin': WHATEVER THE INPUT: true; the input reads as it did. -/
def scopeWithinSpec : ChangeSpec := { name := "scopeWithin", fn := fun _ => fun
  | [d] => { results := [.lit (.bool true)], args := [d] }
  | _ => none }
def scopeWithinRow : OpenClaim := { program := "ytpacdmgnpadleaadoor", sum := "c0f3659db9eeee407c3c3896ef5af25dad9062854487f7fa4c942c86bf93d5a6", func := "moraine/morainelaw19.ScopeWithin", spec := "scopeWithin", unfollowed := true, recurses := true, named := ["unicode/utf8.first", "unicode/utf8.acceptRanges"], loops := true, apart := false, laid := [("unicode/utf8.acceptRanges", laid_unicode_utf8_acceptRanges), ("unicode/utf8.first", laid_unicode_utf8_first)] }
def ScopeWithinSaid : Prop := scopeWithinRow.holds Tryd.pinned (OpenSpec.ofChange scopeWithinSpec)

/-- ITS FALSE NEIGHBOUR: 'it returns false'. Refute it at one input. -/
def scopeWithinWrong : ChangeSpec := { name := "scopeWithin", fn := fun _ => fun
  | [d] => { results := [.lit (.bool false)], args := [d] }
  | _ => none }
def ScopeWithinWrongFalsely : Prop := scopeWithinRow.holds Tryd.pinned (OpenSpec.ofChange scopeWithinWrong)

/-- 'morainelaw19.ScopePlaces': WHATEVER THE INPUT: true; the input reads as it did. -/
def scopePlacesSpec : ChangeSpec := { name := "scopePlaces", fn := fun _ => fun
  | [d1, d2] => { results := [.lit (.bool true)], args := [d1, d2] }
  | _ => none }
def scopePlacesRow : OpenClaim := { program := "ytpacdmgnpadleaadoor", sum := "c0f3659db9eeee407c3c3896ef5af25dad9062854487f7fa4c942c86bf93d5a6", func := "moraine/morainelaw19.ScopePlaces", spec := "scopePlaces", unfollowed := true, recurses := true, named := ["unicode/utf8.first", "unicode/utf8.acceptRanges"], loops := true, apart := false, laid := [("unicode/utf8.acceptRanges", laid_unicode_utf8_acceptRanges), ("unicode/utf8.first", laid_unicode_utf8_first)] }
def ScopePlacesSaid : Prop := scopePlacesRow.holds Tryd.pinned (OpenSpec.ofChange scopePlacesSpec)

/-- ITS FALSE NEIGHBOUR: 'it returns false'. Refute it at one input. -/
def scopePlacesWrong : ChangeSpec := { name := "scopePlaces", fn := fun _ => fun
  | [d1, d2] => { results := [.lit (.bool false)], args := [d1, d2] }
  | _ => none }
def ScopePlacesWrongFalsely : Prop := scopePlacesRow.holds Tryd.pinned (OpenSpec.ofChange scopePlacesWrong)

/-- 'morainelaw19.ScopeParts': WHATEVER THE INPUT: true; the input reads as it did. -/
def scopePartsSpec : ChangeSpec := { name := "scopeParts", fn := fun _ => fun
  | [d1, d2] => { results := [.lit (.bool true)], args := [d1, d2] }
  | _ => none }
def scopePartsRow : OpenClaim := { program := "ytpacdmgnpadleaadoor", sum := "c0f3659db9eeee407c3c3896ef5af25dad9062854487f7fa4c942c86bf93d5a6", func := "moraine/morainelaw19.ScopeParts", spec := "scopeParts", unfollowed := true, recurses := true, named := ["unicode/utf8.first", "unicode/utf8.acceptRanges"], loops := true, apart := false, laid := [("unicode/utf8.acceptRanges", laid_unicode_utf8_acceptRanges), ("unicode/utf8.first", laid_unicode_utf8_first)] }
def ScopePartsSaid : Prop := scopePartsRow.holds Tryd.pinned (OpenSpec.ofChange scopePartsSpec)

/-- ITS FALSE NEIGHBOUR: 'it returns false'. Refute it at one input. -/
def scopePartsWrong : ChangeSpec := { name := "scopeParts", fn := fun _ => fun
  | [d1, d2] => { results := [.lit (.bool false)], args := [d1, d2] }
  | _ => none }
def ScopePartsWrongFalsely : Prop := scopePartsRow.holds Tryd.pinned (OpenSpec.ofChange scopePartsWrong)

/-- 'morainelaw19.ScopeCounts': WHATEVER THE INPUT: true; the input reads as it did. -/
def scopeCountsSpec : ChangeSpec := { name := "scopeCounts", fn := fun _ => fun
  | [d] => { results := [.lit (.bool true)], args := [d] }
  | _ => none }
def scopeCountsRow : OpenClaim := { program := "ytpacdmgnpadleaadoor", sum := "c0f3659db9eeee407c3c3896ef5af25dad9062854487f7fa4c942c86bf93d5a6", func := "moraine/morainelaw19.ScopeCounts", spec := "scopeCounts", unfollowed := true, recurses := true, named := ["unicode/utf8.first", "unicode/utf8.acceptRanges"], loops := true, apart := false, laid := [("unicode/utf8.acceptRanges", laid_unicode_utf8_acceptRanges), ("unicode/utf8.first", laid_unicode_utf8_first)] }
def ScopeCountsSaid : Prop := scopeCountsRow.holds Tryd.pinned (OpenSpec.ofChange scopeCountsSpec)

/-- ITS FALSE NEIGHBOUR: 'it returns false'. Refute it at one input. -/
def scopeCountsWrong : ChangeSpec := { name := "scopeCounts", fn := fun _ => fun
  | [d] => { results := [.lit (.bool false)], args := [d] }
  | _ => none }
def ScopeCountsWrongFalsely : Prop := scopeCountsRow.holds Tryd.pinned (OpenSpec.ofChange scopeCountsWrong)

/-- 'morainelaw19.ScopeInner': WHATEVER THE INPUT: true; the input reads as it did. -/
def scopeInnerSpec : ChangeSpec := { name := "scopeInner", fn := fun _ => fun
  | [d1, d2] => { results := [.lit (.bool true)], args := [d1, d2] }
  | _ => none }
def scopeInnerRow : OpenClaim := { program := "ytpacdmgnpadleaadoor", sum := "c0f3659db9eeee407c3c3896ef5af25dad9062854487f7fa4c942c86bf93d5a6", func := "moraine/morainelaw19.ScopeInner", spec := "scopeInner", unfollowed := true, recurses := true, named := ["unicode/utf8.first", "unicode/utf8.acceptRanges"], apart := false, laid := [("unicode/utf8.acceptRanges", laid_unicode_utf8_acceptRanges), ("unicode/utf8.first", laid_unicode_utf8_first)] }
def ScopeInnerSaid : Prop := scopeInnerRow.holds Tryd.pinned (OpenSpec.ofChange scopeInnerSpec)

/-- ITS FALSE NEIGHBOUR: 'it returns false'. Refute it at one input. -/
def scopeInnerWrong : ChangeSpec := { name := "scopeInner", fn := fun _ => fun
  | [d1, d2] => { results := [.lit (.bool false)], args := [d1, d2] }
  | _ => none }
def ScopeInnerWrongFalsely : Prop := scopeInnerRow.holds Tryd.pinned (OpenSpec.ofChange scopeInnerWrong)

/- THE SECOND FORM. 'bulk': how many values and letters a reading holds, each counted each time it is reached (what is shared counts as often as it is met; a slice's spare places count too). A statement '..UptoSaid' is the law's where the arguments, and the package variables that the reading takes, are together of bulk at most 1048576: NARROWER than '..Said'. Prove '..Said' where nothing that the law and all that it calls make is longer than what came in: it says more and counts as full. Else prove '..UptoSaid'. A law counts once. -/
mutual
def uptoBulk {H : Type} : DataW H → Nat
  | .lit (.string bytes) => bytes.length + 1
  | .lit _ => 1
  | .nil => 1
  | .ptr d => uptoBulk d + 1
  | .slice elems spare => uptoBulkAll elems + uptoBulkAll spare + 1
  | .agg parts => uptoBulkAll parts + 1
  | .iface _ d => uptoBulk d + 1
  | .map entries => uptoBulkEntries entries + 1
  | .held _ => 1
def uptoBulkAll {H : Type} : List (DataW H) → Nat
  | [] => 0
  | d :: r => uptoBulk d + uptoBulkAll r
def uptoBulkEntries {H : Type} : List (Lit × DataW H) → Nat
  | [] => 0
  | x :: r => uptoBulkEntry x + uptoBulkEntries r
def uptoBulkEntry {H : Type} : Lit × DataW H → Nat
  | (.string bytes, d) => bytes.length + uptoBulk d + 1
  | (_, d) => uptoBulk d + 1
 end
def uptoSmall : (H : Type) → List (DataW H) → Bool := fun _ ds => decide (uptoBulkAll ds ≤ 1048576)
def OpenSpec.upto (s : _root_.Go.ChangeSpec) : _root_.Go.OpenSpec := { _root_.Go.OpenSpec.ofChange s with cond := some uptoSmall }

/-- 'morainelaw19.ScopeCode', WHERE WHAT IT READS IS OF BULK AT MOST 1048576: true; the input reads as it did. -/
def scopeCodeUptoRow : OpenClaim := { program := "ytpacdmgnpadleaadoor", sum := "c0f3659db9eeee407c3c3896ef5af25dad9062854487f7fa4c942c86bf93d5a6", func := "moraine/morainelaw19.ScopeCode", spec := "scopeCode", unfollowed := true, recurses := true, named := ["unicode/utf8.first", "unicode/utf8.acceptRanges"], loops := true, apart := false, laid := [("unicode/utf8.acceptRanges", laid_unicode_utf8_acceptRanges), ("unicode/utf8.first", laid_unicode_utf8_first)], narrowed := true }
def ScopeCodeUptoSaid : Prop := scopeCodeUptoRow.holds Tryd.pinned (OpenSpec.upto scopeCodeSpec)

/-- 'morainelaw19.ScopeWithin', WHERE WHAT IT READS IS OF BULK AT MOST 1048576: true; the input reads as it did. -/
def scopeWithinUptoRow : OpenClaim := { program := "ytpacdmgnpadleaadoor", sum := "c0f3659db9eeee407c3c3896ef5af25dad9062854487f7fa4c942c86bf93d5a6", func := "moraine/morainelaw19.ScopeWithin", spec := "scopeWithin", unfollowed := true, recurses := true, named := ["unicode/utf8.first", "unicode/utf8.acceptRanges"], loops := true, apart := false, laid := [("unicode/utf8.acceptRanges", laid_unicode_utf8_acceptRanges), ("unicode/utf8.first", laid_unicode_utf8_first)], narrowed := true }
def ScopeWithinUptoSaid : Prop := scopeWithinUptoRow.holds Tryd.pinned (OpenSpec.upto scopeWithinSpec)

/-- 'morainelaw19.ScopePlaces', WHERE WHAT IT READS IS OF BULK AT MOST 1048576: true; the input reads as it did. -/
def scopePlacesUptoRow : OpenClaim := { program := "ytpacdmgnpadleaadoor", sum := "c0f3659db9eeee407c3c3896ef5af25dad9062854487f7fa4c942c86bf93d5a6", func := "moraine/morainelaw19.ScopePlaces", spec := "scopePlaces", unfollowed := true, recurses := true, named := ["unicode/utf8.first", "unicode/utf8.acceptRanges"], loops := true, apart := false, laid := [("unicode/utf8.acceptRanges", laid_unicode_utf8_acceptRanges), ("unicode/utf8.first", laid_unicode_utf8_first)], narrowed := true }
def ScopePlacesUptoSaid : Prop := scopePlacesUptoRow.holds Tryd.pinned (OpenSpec.upto scopePlacesSpec)

/-- 'morainelaw19.ScopeParts', WHERE WHAT IT READS IS OF BULK AT MOST 1048576: true; the input reads as it did. -/
def scopePartsUptoRow : OpenClaim := { program := "ytpacdmgnpadleaadoor", sum := "c0f3659db9eeee407c3c3896ef5af25dad9062854487f7fa4c942c86bf93d5a6", func := "moraine/morainelaw19.ScopeParts", spec := "scopeParts", unfollowed := true, recurses := true, named := ["unicode/utf8.first", "unicode/utf8.acceptRanges"], loops := true, apart := false, laid := [("unicode/utf8.acceptRanges", laid_unicode_utf8_acceptRanges), ("unicode/utf8.first", laid_unicode_utf8_first)], narrowed := true }
def ScopePartsUptoSaid : Prop := scopePartsUptoRow.holds Tryd.pinned (OpenSpec.upto scopePartsSpec)

/-- 'morainelaw19.ScopeCounts', WHERE WHAT IT READS IS OF BULK AT MOST 1048576: true; the input reads as it did. -/
def scopeCountsUptoRow : OpenClaim := { program := "ytpacdmgnpadleaadoor", sum := "c0f3659db9eeee407c3c3896ef5af25dad9062854487f7fa4c942c86bf93d5a6", func := "moraine/morainelaw19.ScopeCounts", spec := "scopeCounts", unfollowed := true, recurses := true, named := ["unicode/utf8.first", "unicode/utf8.acceptRanges"], loops := true, apart := false, laid := [("unicode/utf8.acceptRanges", laid_unicode_utf8_acceptRanges), ("unicode/utf8.first", laid_unicode_utf8_first)], narrowed := true }
def ScopeCountsUptoSaid : Prop := scopeCountsUptoRow.holds Tryd.pinned (OpenSpec.upto scopeCountsSpec)

/-- 'morainelaw19.ScopeInner', WHERE WHAT IT READS IS OF BULK AT MOST 1048576: true; the input reads as it did. -/
def scopeInnerUptoRow : OpenClaim := { program := "ytpacdmgnpadleaadoor", sum := "c0f3659db9eeee407c3c3896ef5af25dad9062854487f7fa4c942c86bf93d5a6", func := "moraine/morainelaw19.ScopeInner", spec := "scopeInner", unfollowed := true, recurses := true, named := ["unicode/utf8.first", "unicode/utf8.acceptRanges"], apart := false, laid := [("unicode/utf8.acceptRanges", laid_unicode_utf8_acceptRanges), ("unicode/utf8.first", laid_unicode_utf8_first)], narrowed := true }
def ScopeInnerUptoSaid : Prop := scopeInnerUptoRow.holds Tryd.pinned (OpenSpec.upto scopeInnerSpec)

end Rows
end Go.Proofs.YtpacdmgnpadleaaDoor
