
import Derived.Test.YtaeioidifpebdaaGreatDoorPlain
import Derived.Test.YtaeioidifpebdaaGreatDoorPhi
import Derived.Test.YtaeioidifpebdaaGreatDoorChecked
import Derived.WalkKit
import Derived.Lib.Hide
namespace Go.Proofs.YtaeioidifpebdaaGreatDoor
open Go.RowKit
theorem aG {a b:Bool} (h:a=b):Ending.returned (.bool a)=.returned (.bool b):=by rw [h]
theorem yJ {k:IntKind} {a b:Int} (h:a=b):Ending.returned (.int k a)=.returned (.int k b):=by rw [h]
end Go.Proofs.YtaeioidifpebdaaGreatDoor
