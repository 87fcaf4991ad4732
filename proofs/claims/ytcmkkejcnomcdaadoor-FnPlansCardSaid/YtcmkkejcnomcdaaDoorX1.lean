/- trial -/
import Derived.Test.YtcmkkejcnomcdaaDoorAgT
set_option linter.unusedVariables false
set_option linter.unusedSimpArgs false
namespace Go.Proofs.YtcmkkejcnomcdaaDoor
open Go.AG

end Go.Proofs.YtcmkkejcnomcdaaDoor
