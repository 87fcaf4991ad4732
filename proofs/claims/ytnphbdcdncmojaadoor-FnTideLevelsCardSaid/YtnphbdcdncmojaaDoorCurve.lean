/- storage curves: the drawn ones -/
import Derived.Test.YtnphbdcdncmojaaDoorSrc2
import Derived.Test.YtnphbdcdncmojaaDoorCurveP
import Derived.Test.YtnphbdcdncmojaaDoorX2
set_option linter.unusedVariables false
set_option linter.unusedSimpArgs false
namespace Go.Proofs.YtnphbdcdncmojaaDoor
open Go.AG

end Go.Proofs.YtnphbdcdncmojaaDoor
