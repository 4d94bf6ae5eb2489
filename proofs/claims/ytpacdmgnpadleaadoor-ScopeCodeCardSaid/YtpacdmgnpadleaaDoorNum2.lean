
import Derived.Test.YtpacdmgnpadleaaDoorNum
namespace Go.Proofs.YtpacdmgnpadleaaDoor
open Go.RowKit
set_option linter.unusedSimpArgs false
set_option linter.unusedVariables false

end Go.Proofs.YtpacdmgnpadleaaDoor
