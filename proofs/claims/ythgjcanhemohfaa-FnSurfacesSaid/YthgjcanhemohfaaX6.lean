/- trial -/
import Derived.Test.YthgjcanhemohfaaX5
import Derived.Test.YthgjcanhemohfaaAgZ
set_option linter.unusedVariables false
set_option linter.unusedSimpArgs false
namespace Go.Proofs.Ythgjcanhemohfaa
open Go.AG

end Go.Proofs.Ythgjcanhemohfaa
