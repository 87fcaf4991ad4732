/- storage curves: the drawn ones -/
import Derived.Test.YtneokdflhleidaaDoorSrc2
import Derived.Test.YtneokdflhleidaaDoorCurveP
import Derived.Test.YtneokdflhleidaaDoorX2
set_option linter.unusedVariables false
set_option linter.unusedSimpArgs false
namespace Go.Proofs.YtneokdflhleidaaDoor
open Go.AG

end Go.Proofs.YtneokdflhleidaaDoor
