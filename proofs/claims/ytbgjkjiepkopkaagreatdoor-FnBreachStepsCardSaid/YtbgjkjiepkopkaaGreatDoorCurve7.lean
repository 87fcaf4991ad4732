/- storage curves: adding water, areas -/
import Derived.Test.YtbgjkjiepkopkaaGreatDoorCurve6
set_option linter.unusedVariables false
set_option linter.unusedSimpArgs false
namespace Go.Proofs.YtbgjkjiepkopkaaGreatDoor
open Go.AG

def awC (c : Cv) (x v : Int) : Int := if okC c = true then if inC c x ∧ (-1000000000 ≤ v ∧ v ≤ 1000000000) then if vlm c x + v < 0 then 6 else if gi c.vl (c.lv.length - 1) < vlm c x + v then 10 else 0 else 2 else 1
end Go.Proofs.YtbgjkjiepkopkaaGreatDoor
