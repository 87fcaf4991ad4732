/- tenders: the walks of their checks -/
import Derived.Test.YtbbdfifpncjpnaaGreatDoorTender
set_option linter.unusedVariables false
set_option linter.unusedSimpArgs false
namespace Go.Proofs.YtbbdfifpncjpnaaGreatDoor
open Go.AG

theorem okT_def (t : Td) (h1 : 1 ≤ t.lots ∧ t.lots ≤ 8) (h2 : 1 ≤ (t.most.length : Int) ∧ (t.most.length : Int) ≤ 6) (h3 : t.most.all (fun x => decide (0 ≤ x ∧ x ≤ 8)) = true) : okT t = allB t.bids.length (okB t) := by
  simp only [okT, decide_eq_true h1, decide_eq_true h2, h3, Bool.true_and]
theorem okT_no1 (t : Td) (h1 : ¬ (1 ≤ t.lots ∧ t.lots ≤ 8)) : okT t = false := by simp only [okT, decide_eq_false h1, Bool.false_and]
theorem okT_no2 (t : Td) (h1 : ¬ (1 ≤ (t.most.length : Int) ∧ (t.most.length : Int) ≤ 6)) : okT t = false := by simp only [okT, decide_eq_false h1, Bool.false_and, Bool.and_false]
theorem okT_no3 (t : Td) (h1 : t.most.all (fun x => decide (0 ≤ x ∧ x ≤ 8)) = false) : okT t = false := by simp only [okT, h1, Bool.false_and, Bool.and_false]

end Go.Proofs.YtbbdfifpncjpnaaGreatDoor
