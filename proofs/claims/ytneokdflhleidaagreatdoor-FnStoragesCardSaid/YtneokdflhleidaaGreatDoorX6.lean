/- trial -/
import Derived.Test.YtneokdflhleidaaGreatDoorX5
import Derived.Test.YtneokdflhleidaaGreatDoorAgZ
set_option linter.unusedVariables false
set_option linter.unusedSimpArgs false
namespace Go.Proofs.YtneokdflhleidaaGreatDoor
open Go.AG

end Go.Proofs.YtneokdflhleidaaGreatDoor
