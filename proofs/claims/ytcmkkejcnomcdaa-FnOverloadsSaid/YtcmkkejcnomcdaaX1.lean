/- trial -/
import Derived.Test.YtcmkkejcnomcdaaAgT
set_option linter.unusedVariables false
set_option linter.unusedSimpArgs false
namespace Go.Proofs.Ytcmkkejcnomcdaa
open Go.AG

end Go.Proofs.Ytcmkkejcnomcdaa
