
import Derived.Test.YtaeioidifpebdaaGreatDoorNum
namespace Go.Proofs.YtaeioidifpebdaaGreatDoor
open Go.RowKit
set_option linter.unusedSimpArgs false
set_option linter.unusedVariables false

theorem IsMag.new2 (w:World) (a b:Int) (e:TypeId):IsMag (w.alloc (.cells #[.int .u32 a,.int .u32 b] e)) [a,b] (.slice (some ⟨w.heap.size,0,none⟩) 2 2) :=
 Rd.block (es:=[.val (.int .u32 a),.val (.int .u32 b)]) (NG w [.int .u32 a,.int .u32 b] e) (by simp only [RdAll,Rd];exact⟨_,_,rfl,rfl,_,[],rfl,rfl,rfl⟩) (by simp [maxLen])
end Go.Proofs.YtaeioidifpebdaaGreatDoor
