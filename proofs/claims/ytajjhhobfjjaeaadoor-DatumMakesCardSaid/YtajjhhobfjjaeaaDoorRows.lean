/-
  NARROWER THAN 'FOR EVERY INPUT', by the rows' own cells (each row's printed sentence says how): DatumMay: loops, laid · DatumSame: loops, laid · DatumLike: loops, laid · DatumParts: loops, laid · DatumWithin: loops, laid · DatumMakes: loops, laid.
  DERIVED. THE GIVEN ROWS OF THIS SEAT. 6 by the template 'for every input the law returns true; each argument reads behind the call as it read before'; 0 by the template 'total and deterministic' (their statements: YtajjhhobfjjaeaaDoorTotals.lean).
  GIVEN WITH THE SEED: the statements are not yours to turn. If you find one false, say at which input.
  Laid BY PROGRAM, IN A SANDBOX (cutbox-rows.mjs): the forced cells as the released guide's own fill.sh prints them over the translation 3df0d7a8cdd69abe… (all of the seat's roots in one cut). By AI agents, Wed Nov 11 2026. No macro, syntax, notation, axiom, sorry.
-/
import Derived.Test.YtajjhhobfjjaeaaDoorChecked
import GoSem.PinnedTables
import GoSem.Claim
import GoSem.ClaimJoined
import GoSem.ClaimMapViews
import Derived.JoinedTies
import Derived.KernelRfl
namespace Go.Proofs.YtajjhhobfjjaeaaDoor
/- THE CELL 'sum', in the pinned program and in every row, IS THE sha256 OF THE DUMP (.gsa) THAT YtajjhhobfjjaeaaDoorProg.lean LOADS. Nothing in Lean hashes anything: it is a label: what it is worth is what the hold of that sum in a sandbox is worth. -/
noncomputable def Tryd.pinned : Pinned := { name := "ytajjhhobfjjaeaadoor", sum := "3df0d7a8cdd69abea1f42b21eca1259f406f26fac9de42b075f2ff470bc5fd06", checked := Tryd.checked }
namespace Rows
def none {H : Type} : Left H := { results := [], args := [] }

/- WHAT THE LISTED PACKAGE-LEVEL VARIABLES READ AS WHEN THE CALL BEGINS. Each datum BY PROGRAM (the guide's laid-datum.mjs) off the statement by which the dump's own 'gosem.cut.vars' lays the variable. In a bare row this is a premise. The card (YtajjhhobfjjaeaaDoorCards.lean) ties it to the program's text. -/
def laid_unicode_utf8_acceptRanges {H : Type} : DataW H := .agg [.agg [.lit (.int .u8 128), .lit (.int .u8 191)], .agg [.lit (.int .u8 160), .lit (.int .u8 191)], .agg [.lit (.int .u8 128), .lit (.int .u8 159)], .agg [.lit (.int .u8 144), .lit (.int .u8 191)], .agg [.lit (.int .u8 128), .lit (.int .u8 143)], .agg [.lit (.int .u8 0), .lit (.int .u8 0)], .agg [.lit (.int .u8 0), .lit (.int .u8 0)], .agg [.lit (.int .u8 0), .lit (.int .u8 0)], .agg [.lit (.int .u8 0), .lit (.int .u8 0)], .agg [.lit (.int .u8 0), .lit (.int .u8 0)], .agg [.lit (.int .u8 0), .lit (.int .u8 0)], .agg [.lit (.int .u8 0), .lit (.int .u8 0)], .agg [.lit (.int .u8 0), .lit (.int .u8 0)], .agg [.lit (.int .u8 0), .lit (.int .u8 0)], .agg [.lit (.int .u8 0), .lit (.int .u8 0)], .agg [.lit (.int .u8 0), .lit (.int .u8 0)]]
/-- One of Go's own tables, pinned by name: the form's constant. -/
def laid_unicode_utf8_first : DataW Unit := Go.Pinned.utf8First

/-- 'morainelaw03.DatumMay': WHATEVER THE INPUT: true; the input reads as it did. -/
def datumMaySpec : ChangeSpec := { name := "datumMay", fn := fun _ => fun
  | [d] => { results := [.lit (.bool true)], args := [d] }
  | _ => none }
def datumMayRow : OpenClaim := { program := "ytajjhhobfjjaeaadoor", sum := "3df0d7a8cdd69abea1f42b21eca1259f406f26fac9de42b075f2ff470bc5fd06", func := "moraine/morainelaw03.DatumMay", spec := "datumMay", unfollowed := true, recurses := true, named := ["unicode/utf8.first", "unicode/utf8.acceptRanges"], loops := true, apart := false, laid := [("unicode/utf8.acceptRanges", laid_unicode_utf8_acceptRanges), ("unicode/utf8.first", laid_unicode_utf8_first)] }
def DatumMaySaid : Prop := datumMayRow.holds Tryd.pinned (OpenSpec.ofChange datumMaySpec)

/-- ITS FALSE NEIGHBOUR: 'it returns false'. Refute it at one input. -/
def datumMayWrong : ChangeSpec := { name := "datumMay", fn := fun _ => fun
  | [d] => { results := [.lit (.bool false)], args := [d] }
  | _ => none }
def DatumMayWrongFalsely : Prop := datumMayRow.holds Tryd.pinned (OpenSpec.ofChange datumMayWrong)

/-- 'morainelaw03.DatumSame': WHATEVER THE INPUT: true; the input reads as it did. -/
def datumSameSpec : ChangeSpec := { name := "datumSame", fn := fun _ => fun
  | [d1, d2] => { results := [.lit (.bool true)], args := [d1, d2] }
  | _ => none }
def datumSameRow : OpenClaim := { program := "ytajjhhobfjjaeaadoor", sum := "3df0d7a8cdd69abea1f42b21eca1259f406f26fac9de42b075f2ff470bc5fd06", func := "moraine/morainelaw03.DatumSame", spec := "datumSame", unfollowed := true, recurses := true, named := ["unicode/utf8.first", "unicode/utf8.acceptRanges"], loops := true, apart := false, laid := [("unicode/utf8.acceptRanges", laid_unicode_utf8_acceptRanges), ("unicode/utf8.first", laid_unicode_utf8_first)] }
def DatumSameSaid : Prop := datumSameRow.holds Tryd.pinned (OpenSpec.ofChange datumSameSpec)

/-- ITS FALSE NEIGHBOUR: 'it returns false'. Refute it at one input. -/
def datumSameWrong : ChangeSpec := { name := "datumSame", fn := fun _ => fun
  | [d1, d2] => { results := [.lit (.bool false)], args := [d1, d2] }
  | _ => none }
def DatumSameWrongFalsely : Prop := datumSameRow.holds Tryd.pinned (OpenSpec.ofChange datumSameWrong)

/-- 'morainelaw03.DatumLike': WHATEVER THE INPUT: true; the input reads as it did. -/
def datumLikeSpec : ChangeSpec := { name := "datumLike", fn := fun _ => fun
  | [d1, d2, d3] => { results := [.lit (.bool true)], args := [d1, d2, d3] }
  | _ => none }
def datumLikeRow : OpenClaim := { program := "ytajjhhobfjjaeaadoor", sum := "3df0d7a8cdd69abea1f42b21eca1259f406f26fac9de42b075f2ff470bc5fd06", func := "moraine/morainelaw03.DatumLike", spec := "datumLike", unfollowed := true, recurses := true, named := ["unicode/utf8.first", "unicode/utf8.acceptRanges"], loops := true, apart := false, laid := [("unicode/utf8.acceptRanges", laid_unicode_utf8_acceptRanges), ("unicode/utf8.first", laid_unicode_utf8_first)] }
def DatumLikeSaid : Prop := datumLikeRow.holds Tryd.pinned (OpenSpec.ofChange datumLikeSpec)

/-- ITS FALSE NEIGHBOUR: 'it returns false'. Refute it at one input. -/
def datumLikeWrong : ChangeSpec := { name := "datumLike", fn := fun _ => fun
  | [d1, d2, d3] => { results := [.lit (.bool false)], args := [d1, d2, d3] }
  | _ => none }
def DatumLikeWrongFalsely : Prop := datumLikeRow.holds Tryd.pinned (OpenSpec.ofChange datumLikeWrong)

/-- 'morainelaw03.DatumParts': WHATEVER THE INPUT: true; the input reads as it did. -/
def datumPartsSpec : ChangeSpec := { name := "datumParts", fn := fun _ => fun
  | [d1, d2, d3] => { results := [.lit (.bool true)], args := [d1, d2, d3] }
  | _ => none }
def datumPartsRow : OpenClaim := { program := "ytajjhhobfjjaeaadoor", sum := "3df0d7a8cdd69abea1f42b21eca1259f406f26fac9de42b075f2ff470bc5fd06", func := "moraine/morainelaw03.DatumParts", spec := "datumParts", unfollowed := true, recurses := true, named := ["unicode/utf8.first", "unicode/utf8.acceptRanges"], loops := true, apart := false, laid := [("unicode/utf8.acceptRanges", laid_unicode_utf8_acceptRanges), ("unicode/utf8.first", laid_unicode_utf8_first)] }
def DatumPartsSaid : Prop := datumPartsRow.holds Tryd.pinned (OpenSpec.ofChange datumPartsSpec)

/-- ITS FALSE NEIGHBOUR: 'it returns false'. Refute it at one input. -/
def datumPartsWrong : ChangeSpec := { name := "datumParts", fn := fun _ => fun
  | [d1, d2, d3] => { results := [.lit (.bool false)], args := [d1, d2, d3] }
  | _ => none }
def DatumPartsWrongFalsely : Prop := datumPartsRow.holds Tryd.pinned (OpenSpec.ofChange datumPartsWrong)

/-- 'morainelaw03.DatumWithin': WHATEVER THE INPUT: true; the input reads as it did. -/
def datumWithinSpec : ChangeSpec := { name := "datumWithin", fn := fun _ => fun
  | [d] => { results := [.lit (.bool true)], args := [d] }
  | _ => none }
def datumWithinRow : OpenClaim := { program := "ytajjhhobfjjaeaadoor", sum := "3df0d7a8cdd69abea1f42b21eca1259f406f26fac9de42b075f2ff470bc5fd06", func := "moraine/morainelaw03.DatumWithin", spec := "datumWithin", unfollowed := true, recurses := true, named := ["unicode/utf8.first", "unicode/utf8.acceptRanges"], loops := true, apart := false, laid := [("unicode/utf8.acceptRanges", laid_unicode_utf8_acceptRanges), ("unicode/utf8.first", laid_unicode_utf8_first)] }
def DatumWithinSaid : Prop := datumWithinRow.holds Tryd.pinned (OpenSpec.ofChange datumWithinSpec)

/-- ITS FALSE NEIGHBOUR: 'it returns false'. Refute it at one input. -/
def datumWithinWrong : ChangeSpec := { name := "datumWithin", fn := fun _ => fun
  | [d] => { results := [.lit (.bool false)], args := [d] }
  | _ => none }
def DatumWithinWrongFalsely : Prop := datumWithinRow.holds Tryd.pinned (OpenSpec.ofChange datumWithinWrong)

/-- 'morainelaw03.DatumMakes': WHATEVER THE INPUT: true; the input reads as it did. -/
def datumMakesSpec : ChangeSpec := { name := "datumMakes", fn := fun _ => fun
  | [d1, d2, d3, d4] => { results := [.lit (.bool true)], args := [d1, d2, d3, d4] }
  | _ => none }
def datumMakesRow : OpenClaim := { program := "ytajjhhobfjjaeaadoor", sum := "3df0d7a8cdd69abea1f42b21eca1259f406f26fac9de42b075f2ff470bc5fd06", func := "moraine/morainelaw03.DatumMakes", spec := "datumMakes", unfollowed := true, recurses := true, named := ["unicode/utf8.first", "unicode/utf8.acceptRanges"], loops := true, apart := false, laid := [("unicode/utf8.acceptRanges", laid_unicode_utf8_acceptRanges), ("unicode/utf8.first", laid_unicode_utf8_first)] }
def DatumMakesSaid : Prop := datumMakesRow.holds Tryd.pinned (OpenSpec.ofChange datumMakesSpec)

/-- ITS FALSE NEIGHBOUR: 'it returns false'. Refute it at one input. -/
def datumMakesWrong : ChangeSpec := { name := "datumMakes", fn := fun _ => fun
  | [d1, d2, d3, d4] => { results := [.lit (.bool false)], args := [d1, d2, d3, d4] }
  | _ => none }
def DatumMakesWrongFalsely : Prop := datumMakesRow.holds Tryd.pinned (OpenSpec.ofChange datumMakesWrong)

/- THE SECOND FORM. 'bulk': how many values and letters a reading holds, each counted each time it is reached (what is shared counts as often as it is met; a slice's spare places count too). A statement '..UptoSaid' is the law's where the arguments, and the package variables that the reading takes, are together of bulk at most 1048576: NARROWER than '..Said'. Prove '..Said' where nothing that the law and all that it calls make is longer than what came in: it says more and counts as full. Else prove '..UptoSaid'. A law counts once. -/
mutual
def uptoBulk {H : Type} : DataW H → Nat
  | .lit (.string bytes) => bytes.length + 1
  | .lit _ => 1
  | .nil => 1
  | .ptr d => uptoBulk d + 1
  | .slice elems spare => uptoBulkAll elems + uptoBulkAll spare + 1
  | .agg parts => uptoBulkAll parts + 1
  | .iface _ d => uptoBulk d + 1
  | .map entries => uptoBulkEntries entries + 1
  | .held _ => 1
def uptoBulkAll {H : Type} : List (DataW H) → Nat
  | [] => 0
  | d :: r => uptoBulk d + uptoBulkAll r
def uptoBulkEntries {H : Type} : List (Lit × DataW H) → Nat
  | [] => 0
  | x :: r => uptoBulkEntry x + uptoBulkEntries r
def uptoBulkEntry {H : Type} : Lit × DataW H → Nat
  | (.string bytes, d) => bytes.length + uptoBulk d + 1
  | (_, d) => uptoBulk d + 1
 end
def uptoSmall : (H : Type) → List (DataW H) → Bool := fun _ ds => decide (uptoBulkAll ds ≤ 1048576)
def OpenSpec.upto (s : _root_.Go.ChangeSpec) : _root_.Go.OpenSpec := { _root_.Go.OpenSpec.ofChange s with cond := some uptoSmall }

/-- 'morainelaw03.DatumMay', WHERE WHAT IT READS IS OF BULK AT MOST 1048576: true; the input reads as it did. -/
def datumMayUptoRow : OpenClaim := { program := "ytajjhhobfjjaeaadoor", sum := "3df0d7a8cdd69abea1f42b21eca1259f406f26fac9de42b075f2ff470bc5fd06", func := "moraine/morainelaw03.DatumMay", spec := "datumMay", unfollowed := true, recurses := true, named := ["unicode/utf8.first", "unicode/utf8.acceptRanges"], loops := true, apart := false, laid := [("unicode/utf8.acceptRanges", laid_unicode_utf8_acceptRanges), ("unicode/utf8.first", laid_unicode_utf8_first)], narrowed := true }
def DatumMayUptoSaid : Prop := datumMayUptoRow.holds Tryd.pinned (OpenSpec.upto datumMaySpec)

/-- 'morainelaw03.DatumSame', WHERE WHAT IT READS IS OF BULK AT MOST 1048576: true; the input reads as it did. -/
def datumSameUptoRow : OpenClaim := { program := "ytajjhhobfjjaeaadoor", sum := "3df0d7a8cdd69abea1f42b21eca1259f406f26fac9de42b075f2ff470bc5fd06", func := "moraine/morainelaw03.DatumSame", spec := "datumSame", unfollowed := true, recurses := true, named := ["unicode/utf8.first", "unicode/utf8.acceptRanges"], loops := true, apart := false, laid := [("unicode/utf8.acceptRanges", laid_unicode_utf8_acceptRanges), ("unicode/utf8.first", laid_unicode_utf8_first)], narrowed := true }
def DatumSameUptoSaid : Prop := datumSameUptoRow.holds Tryd.pinned (OpenSpec.upto datumSameSpec)

/-- 'morainelaw03.DatumLike', WHERE WHAT IT READS IS OF BULK AT MOST 1048576: true; the input reads as it did. -/
def datumLikeUptoRow : OpenClaim := { program := "ytajjhhobfjjaeaadoor", sum := "3df0d7a8cdd69abea1f42b21eca1259f406f26fac9de42b075f2ff470bc5fd06", func := "moraine/morainelaw03.DatumLike", spec := "datumLike", unfollowed := true, recurses := true, named := ["unicode/utf8.first", "unicode/utf8.acceptRanges"], loops := true, apart := false, laid := [("unicode/utf8.acceptRanges", laid_unicode_utf8_acceptRanges), ("unicode/utf8.first", laid_unicode_utf8_first)], narrowed := true }
def DatumLikeUptoSaid : Prop := datumLikeUptoRow.holds Tryd.pinned (OpenSpec.upto datumLikeSpec)

/-- 'morainelaw03.DatumParts', WHERE WHAT IT READS IS OF BULK AT MOST 1048576: true; the input reads as it did. -/
def datumPartsUptoRow : OpenClaim := { program := "ytajjhhobfjjaeaadoor", sum := "3df0d7a8cdd69abea1f42b21eca1259f406f26fac9de42b075f2ff470bc5fd06", func := "moraine/morainelaw03.DatumParts", spec := "datumParts", unfollowed := true, recurses := true, named := ["unicode/utf8.first", "unicode/utf8.acceptRanges"], loops := true, apart := false, laid := [("unicode/utf8.acceptRanges", laid_unicode_utf8_acceptRanges), ("unicode/utf8.first", laid_unicode_utf8_first)], narrowed := true }
def DatumPartsUptoSaid : Prop := datumPartsUptoRow.holds Tryd.pinned (OpenSpec.upto datumPartsSpec)

/-- 'morainelaw03.DatumWithin', WHERE WHAT IT READS IS OF BULK AT MOST 1048576: true; the input reads as it did. -/
def datumWithinUptoRow : OpenClaim := { program := "ytajjhhobfjjaeaadoor", sum := "3df0d7a8cdd69abea1f42b21eca1259f406f26fac9de42b075f2ff470bc5fd06", func := "moraine/morainelaw03.DatumWithin", spec := "datumWithin", unfollowed := true, recurses := true, named := ["unicode/utf8.first", "unicode/utf8.acceptRanges"], loops := true, apart := false, laid := [("unicode/utf8.acceptRanges", laid_unicode_utf8_acceptRanges), ("unicode/utf8.first", laid_unicode_utf8_first)], narrowed := true }
def DatumWithinUptoSaid : Prop := datumWithinUptoRow.holds Tryd.pinned (OpenSpec.upto datumWithinSpec)

/-- 'morainelaw03.DatumMakes', WHERE WHAT IT READS IS OF BULK AT MOST 1048576: true; the input reads as it did. -/
def datumMakesUptoRow : OpenClaim := { program := "ytajjhhobfjjaeaadoor", sum := "3df0d7a8cdd69abea1f42b21eca1259f406f26fac9de42b075f2ff470bc5fd06", func := "moraine/morainelaw03.DatumMakes", spec := "datumMakes", unfollowed := true, recurses := true, named := ["unicode/utf8.first", "unicode/utf8.acceptRanges"], loops := true, apart := false, laid := [("unicode/utf8.acceptRanges", laid_unicode_utf8_acceptRanges), ("unicode/utf8.first", laid_unicode_utf8_first)], narrowed := true }
def DatumMakesUptoSaid : Prop := datumMakesUptoRow.holds Tryd.pinned (OpenSpec.upto datumMakesSpec)

end Rows
end Go.Proofs.YtajjhhobfjjaeaaDoor
