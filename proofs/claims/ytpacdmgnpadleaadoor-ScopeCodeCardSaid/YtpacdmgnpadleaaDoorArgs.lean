/-
  The arguments of a law, opened: data, rows of data, numbers, texts.
-/
import Derived.Test.YtpacdmgnpadleaaDoorRow
namespace Go.Proofs.YtpacdmgnpadleaaDoor
open Go.ChangeShapes Go.WideShapes Go.ChangeAt Go.RowKit
set_option linter.unusedSimpArgs false
set_option linter.unusedVariables false
set_option maxRecDepth 100000

theorem weights_cons {H : Type} {P : Program} {t : TypeId} {ts vs : List TypeId} {d : DataW H} {ds gs : List (DataW H)} (h : (DataW.weightsEach P ((t :: ts) ++ vs) ((d :: ds) ++ gs)).all (· ≤ reachBytes) = true) :
    (∀ k ∈ d.weights P t, k ≤ reachBytes) ∧ (DataW.weightsEach P (ts ++ vs) (ds ++ gs)).all (· ≤ reachBytes) = true := by
  simp only [List.cons_append, DataW.weightsEach, List.all_append, Bool.and_eq_true] at h
  refine ⟨fun k hk => ?_, h.2⟩
  have := List.all_eq_true.1 h.1 k hk
  simpa using this
section
variable {H : Type} {enc : TypeId × Value → H} {w : World} {base base' : Nat} {spare : Nat → Bool} {held : Bool} {v : Value} {d : DataW H} {ps : List MemPlace}
end
end Go.Proofs.YtpacdmgnpadleaaDoor
