/- trial -/
import Derived.Test.YtbbdfifpncjpnaaDoorAgT
set_option linter.unusedVariables false
set_option linter.unusedSimpArgs false
namespace Go.Proofs.YtbbdfifpncjpnaaDoor
open Go.AG

end Go.Proofs.YtbbdfifpncjpnaaDoor
