/- tenders: the laws' helpers -/
import Derived.Test.YtcmkkejcnomcdaaDoorTender4
set_option linter.unusedVariables false
set_option linter.unusedSimpArgs false
namespace Go.Proofs.YtcmkkejcnomcdaaDoor
open Go.AG

def szV (n : Nat) (left : Int) : Int := if left - n < 0 then -1 else left - n
def szT (t : Td) (left : Int) : Int := if left - t.most.length < 0 then -1 else szV t.bids.length (left - t.most.length)
theorem szT_pos {t : Td} {left : Int} (h : ¬ szT t left < 0) (hl : left ≤ 1048576) : t.most.length ≤ 1048576 ∧ t.bids.length ≤ 1048576 := by
  unfold szT szV at h
  split at h
  · omega
  · split at h <;> omega

/-- the tender's own memory behind a copy -/
def tR (t : Td) : V := .agg [I t.lots, .ref 0 0 t.most.length, .ref 1 0 t.bids.length]
/-- the bids that the marks leave -/
def mkB (k0 : Int) (n : Nat) : List Bd := (List.range n).map fun (i : Nat) => ⟨k0 + 3 * i, k0 + 3 * i + 1, k0 + 3 * i + 2⟩
theorem mkB_len (k0 : Int) (n : Nat) : (mkB k0 n).length = n := by simp [mkB]
theorem mkB_succ (k0 : Int) (n : Nat) : mkB k0 (n + 1) = mkB k0 n ++ [⟨k0 + 3 * n, k0 + 3 * n + 1, k0 + 3 * n + 2⟩] := by simp [mkB, List.range_succ]
end Go.Proofs.YtcmkkejcnomcdaaDoor
