/- storage curves: the drawn ones, bent -/
import Derived.Test.YtnphbdcdncmojaaDoorCurve
set_option linter.unusedVariables false
set_option linter.unusedSimpArgs false
namespace Go.Proofs.YtnphbdcdncmojaaDoor
open Go.AG

end Go.Proofs.YtnphbdcdncmojaaDoor
