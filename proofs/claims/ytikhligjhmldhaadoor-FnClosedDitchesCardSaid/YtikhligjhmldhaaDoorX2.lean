/- trial -/
import Derived.Test.YtikhligjhmldhaaDoorAgT
set_option linter.unusedVariables false
set_option linter.unusedSimpArgs false
namespace Go.Proofs.YtikhligjhmldhaaDoor
open Go.AG

end Go.Proofs.YtikhligjhmldhaaDoor
