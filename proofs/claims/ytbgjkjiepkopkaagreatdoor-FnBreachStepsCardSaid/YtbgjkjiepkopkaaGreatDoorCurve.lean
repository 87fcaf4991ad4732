/- storage curves: the drawn ones -/
import Derived.Test.YtbgjkjiepkopkaaGreatDoorSrc2
import Derived.Test.YtbgjkjiepkopkaaGreatDoorCurveP
import Derived.Test.YtbgjkjiepkopkaaGreatDoorX2
set_option linter.unusedVariables false
set_option linter.unusedSimpArgs false
namespace Go.Proofs.YtbgjkjiepkopkaaGreatDoor
open Go.AG

end Go.Proofs.YtbgjkjiepkopkaaGreatDoor
