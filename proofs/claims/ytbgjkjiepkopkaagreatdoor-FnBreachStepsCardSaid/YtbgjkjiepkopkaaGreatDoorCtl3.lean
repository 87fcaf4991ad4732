/- control of pumps: the run -/
import Derived.Test.YtbgjkjiepkopkaaGreatDoorCtl2
import Derived.Test.YtbgjkjiepkopkaaGreatDoorCurve6
set_option linter.unusedVariables false
set_option linter.unusedSimpArgs false
namespace Go.Proofs.YtbgjkjiepkopkaaGreatDoor
open Go.AG

theorem levx_ok (c : Cv) (v : Int) (f : CvF c) (hv : v ≤ gi c.vl (c.lv.length - 1)) : ACalls Tryz.prog 52 [.agg c.cells, I v] [] (fun r o => r = I (lvx c v) ∧ o = []) :=
  (level_ok c v f hv).mono fun r o ⟨x, h1, h2, h3⟩ => ⟨by rw [h2, lvx_eq f h1], h3⟩
theorem levelAtX_ok (c : Cv) (v : Int) (f : CvF c) (hok : okC c = true) (hv : 0 ≤ v ∧ v ≤ gi c.vl (c.lv.length - 1)) : ACalls Tryz.prog 11 [.agg c.cells, I v] [] (fun r o => r = .tup [I (lvx c v), I 0] ∧ o = []) := by
  have h2 := f.n2
  have h12 := f.n12
  have hvn := f.vn
  have hb := f.vb (c.lv.length - 1) (by omega)
  have e : laC c v = 0 := by rw [laC, if_pos hok, if_pos (by omega), if_neg (by omega)]
  exact (levelAtS_ok c v (by omega) (by omega)).mono fun r o ⟨x, h1, _, h3, h4⟩ => ⟨by rw [h3, lvx_eq f (h1 e), e], h4⟩
theorem stp_none {c : Cv} {w : Sw} {rate q : Int} {s : Cs} {b : Bool} (hb : rnW w (lvx c s.vol) s.run = b) (h : gi c.vl (c.lv.length - 1) < voN rate s.vol q b) : stpC c w rate s q = none := by
  unfold stpC; simp only [hb]; rw [if_pos h]
theorem stp_some {c : Cv} {w : Sw} {rate q : Int} {s : Cs} {b : Bool} {v : Int} (hb : rnW w (lvx c s.vol) s.run = b) (hv : voN rate s.vol q b = v) (h : ¬ gi c.vl (c.lv.length - 1) < v) : stpC c w rate s q = some ⟨v, b, s.hs ++ [⟨lvx c v, b⟩]⟩ := by
  unfold stpC; simp only [hb, hv]; rw [if_neg h]
theorem rnK_step {c : Cv} {w : Sw} {vol rate : Int} {xs : List Int} {k : Nat} {s : Cs} {t : Option Cs} (h : rnK c w vol rate xs k = some s) (h2 : stpC c w rate s (gi xs k) = t) : rnK c w vol rate xs (k + 1) = t := by
  rw [rnK, h]; exact h2
end Go.Proofs.YtbgjkjiepkopkaaGreatDoor
