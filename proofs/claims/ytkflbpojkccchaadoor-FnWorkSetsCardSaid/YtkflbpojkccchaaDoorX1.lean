/- trial -/
import Derived.Test.YtkflbpojkccchaaDoorAgT
set_option linter.unusedVariables false
set_option linter.unusedSimpArgs false
namespace Go.Proofs.YtkflbpojkccchaaDoor
open Go.AG

end Go.Proofs.YtkflbpojkccchaaDoor
