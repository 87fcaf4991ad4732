/- drawn lands -/
import Derived.Test.YtbbdfifpncjpnaaDoorSrc2
import Derived.Test.YtbbdfifpncjpnaaDoorLand
import Derived.Test.YtbbdfifpncjpnaaDoorX2
set_option linter.unusedVariables false
set_option linter.unusedSimpArgs false
namespace Go.Proofs.YtbbdfifpncjpnaaDoor
open Go.AG

attribute [local go_sem] beq_self_eq_true bne_self_eq_false Bool.not_true Bool.not_false
abbrev nilS : V := .sc (.slice none 0 0)
end Go.Proofs.YtbbdfifpncjpnaaDoor
