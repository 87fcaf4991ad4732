/- trial -/
import Derived.Test.YtbbdfifpncjpnaaGreatDoorAgT
set_option linter.unusedVariables false
set_option linter.unusedSimpArgs false
namespace Go.Proofs.YtbbdfifpncjpnaaGreatDoor
open Go.AG

end Go.Proofs.YtbbdfifpncjpnaaGreatDoor
