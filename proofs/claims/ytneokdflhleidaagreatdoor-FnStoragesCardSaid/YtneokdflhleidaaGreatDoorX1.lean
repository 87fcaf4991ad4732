/- trial -/
import Derived.Test.YtneokdflhleidaaGreatDoorAgT
set_option linter.unusedVariables false
set_option linter.unusedSimpArgs false
namespace Go.Proofs.YtneokdflhleidaaGreatDoor
open Go.AG

end Go.Proofs.YtneokdflhleidaaGreatDoor
