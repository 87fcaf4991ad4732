/- storage curves: the questions -/
import Derived.Test.YtneokdflhleidaaDoorCurve5
import Derived.Test.YtneokdflhleidaaDoorX9
set_option linter.unusedVariables false
set_option linter.unusedSimpArgs false
namespace Go.Proofs.YtneokdflhleidaaDoor
open Go.AG

def laC (c : Cv) (v : Int) : Int := if okC c = true then if 0 ≤ v ∧ v ≤ 1000000000 then if gi c.vl (c.lv.length - 1) < v then 10 else 0 else 2 else 1
def vaC (c : Cv) (x : Int) : Int := if okC c = true then if inC c x then 0 else 2 else 1
def vaV (c : Cv) (x : Int) : Int := if vaC c x = 0 then vlm c x else 0
theorem vaC_0 {c : Cv} {x : Int} (h : vaC c x = 0) : CvF c ∧ inC c x := by
  unfold vaC at h
  split at h
  case isFalse => omega
  rename_i hok
  split at h
  · exact ⟨okC_f hok, by assumption⟩
  · omega
def stC (c : Cv) (x y : Int) : Int := if vaC c x = 0 then vaC c y else vaC c x
def stV (c : Cv) (x y : Int) : Int := if stC c x y = 0 then vlm c y - vlm c x else 0
end Go.Proofs.YtneokdflhleidaaDoor
