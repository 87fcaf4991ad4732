/- control of pumps: the run -/
import Derived.Test.YtneokdflhleidaaDoorCtl2
import Derived.Test.YtneokdflhleidaaDoorCurve6
set_option linter.unusedVariables false
set_option linter.unusedSimpArgs false
namespace Go.Proofs.YtneokdflhleidaaDoor
open Go.AG

theorem stp_none {c : Cv} {w : Sw} {rate q : Int} {s : Cs} {b : Bool} (hb : rnW w (lvx c s.vol) s.run = b) (h : gi c.vl (c.lv.length - 1) < voN rate s.vol q b) : stpC c w rate s q = none := by
  unfold stpC; simp only [hb]; rw [if_pos h]
theorem stp_some {c : Cv} {w : Sw} {rate q : Int} {s : Cs} {b : Bool} {v : Int} (hb : rnW w (lvx c s.vol) s.run = b) (hv : voN rate s.vol q b = v) (h : ¬ gi c.vl (c.lv.length - 1) < v) : stpC c w rate s q = some ⟨v, b, s.hs ++ [⟨lvx c v, b⟩]⟩ := by
  unfold stpC; simp only [hb, hv]; rw [if_neg h]
theorem rnK_step {c : Cv} {w : Sw} {vol rate : Int} {xs : List Int} {k : Nat} {s : Cs} {t : Option Cs} (h : rnK c w vol rate xs k = some s) (h2 : stpC c w rate s (gi xs k) = t) : rnK c w vol rate xs (k + 1) = t := by
  rw [rnK, h]; exact h2
end Go.Proofs.YtneokdflhleidaaDoor
