
import Derived.Test.YtpacdmgnpadleaaDoorNum2
namespace Go.Proofs.YtpacdmgnpadleaaDoor
open Go.RowKit
set_option linter.unusedSimpArgs false
set_option linter.unusedVariables false

theorem IsMag.nil (w : World) : IsMag w [] (.slice none 0 0) := by simp only [IsMag, List.map_nil, Rd]; exact ⟨_, rfl, .inl ⟨trivial, .inl rfl⟩⟩
theorem IsDs.nil (w : World) : IsDs w [] (.slice none 0 0) := by simp only [IsDs, List.map_nil, Rd]; exact ⟨_, rfl, .inl ⟨trivial, .inl rfl⟩⟩

end Go.Proofs.YtpacdmgnpadleaaDoor
