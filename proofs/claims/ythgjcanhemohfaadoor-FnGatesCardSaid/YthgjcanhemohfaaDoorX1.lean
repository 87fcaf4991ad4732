/- trial -/
import Derived.Test.YthgjcanhemohfaaDoorAgT
set_option linter.unusedVariables false
set_option linter.unusedSimpArgs false
namespace Go.Proofs.YthgjcanhemohfaaDoor
open Go.AG

end Go.Proofs.YthgjcanhemohfaaDoor
