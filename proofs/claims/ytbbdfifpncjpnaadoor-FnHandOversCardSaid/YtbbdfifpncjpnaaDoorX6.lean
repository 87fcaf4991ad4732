/- trial -/
import Derived.Test.YtbbdfifpncjpnaaDoorX5
import Derived.Test.YtbbdfifpncjpnaaDoorAgZ
set_option linter.unusedVariables false
set_option linter.unusedSimpArgs false
namespace Go.Proofs.YtbbdfifpncjpnaaDoor
open Go.AG

end Go.Proofs.YtbbdfifpncjpnaaDoor
