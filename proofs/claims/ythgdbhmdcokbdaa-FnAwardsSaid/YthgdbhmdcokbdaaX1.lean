/- trial -/
import Derived.Test.YthgdbhmdcokbdaaAgT
set_option linter.unusedVariables false
set_option linter.unusedSimpArgs false
namespace Go.Proofs.Ythgdbhmdcokbdaa
open Go.AG

end Go.Proofs.Ythgdbhmdcokbdaa
