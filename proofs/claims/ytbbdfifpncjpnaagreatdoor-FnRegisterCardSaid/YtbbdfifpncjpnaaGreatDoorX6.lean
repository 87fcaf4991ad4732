/- trial -/
import Derived.Test.YtbbdfifpncjpnaaGreatDoorX5
import Derived.Test.YtbbdfifpncjpnaaGreatDoorAgZ
set_option linter.unusedVariables false
set_option linter.unusedSimpArgs false
namespace Go.Proofs.YtbbdfifpncjpnaaGreatDoor
open Go.AG

end Go.Proofs.YtbbdfifpncjpnaaGreatDoor
