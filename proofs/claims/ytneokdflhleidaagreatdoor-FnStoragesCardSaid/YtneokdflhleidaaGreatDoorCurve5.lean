/- storage curves: the lowest level with a volume -/
import Derived.Test.YtneokdflhleidaaGreatDoorCurve4
set_option linter.unusedVariables false
set_option linter.unusedSimpArgs false
namespace Go.Proofs.YtneokdflhleidaaGreatDoor
open Go.AG

theorem CvF.lohi {c : Cv} (f : CvF c) : lo' c ≤ hi' c ∧ -2000 ≤ lo' c ∧ hi' c ≤ 2000 := by
  have h2 := f.n2
  have := f.lr 0 (c.lv.length - 1) (by omega) (by omega)
  have := f.lb 0 (by omega)
  have := f.lb (c.lv.length - 1) (by omega)
  unfold lo' hi'
  omega
end Go.Proofs.YtneokdflhleidaaGreatDoor
