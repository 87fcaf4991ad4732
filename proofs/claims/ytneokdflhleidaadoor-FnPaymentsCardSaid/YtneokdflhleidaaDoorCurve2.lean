/- storage curves: the drawn ones, bent -/
import Derived.Test.YtneokdflhleidaaDoorCurve
set_option linter.unusedVariables false
set_option linter.unusedSimpArgs false
namespace Go.Proofs.YtneokdflhleidaaDoor
open Go.AG

end Go.Proofs.YtneokdflhleidaaDoor
