/- trial -/
import Derived.Test.YtilocioajpcoiaaDoorAgT
set_option linter.unusedVariables false
set_option linter.unusedSimpArgs false
namespace Go.Proofs.YtilocioajpcoiaaDoor
open Go.AG

end Go.Proofs.YtilocioajpcoiaaDoor
