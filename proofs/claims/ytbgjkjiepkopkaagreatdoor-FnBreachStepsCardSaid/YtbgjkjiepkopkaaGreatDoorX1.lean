/- trial -/
import Derived.Test.YtbgjkjiepkopkaaGreatDoorAgT
set_option linter.unusedVariables false
set_option linter.unusedSimpArgs false
namespace Go.Proofs.YtbgjkjiepkopkaaGreatDoor
open Go.AG

end Go.Proofs.YtbgjkjiepkopkaaGreatDoor
