/- what the laws' arguments read as -/
import Derived.Test.YthnphcinjchloaaAgT
import Derived.Test.YthnphcinjchloaaAgW
set_option linter.unusedVariables false
set_option linter.unusedSimpArgs false
namespace Go.Proofs.Ythnphcinjchloaa
open Go.AG

theorem rd_int : Rd Try.prog 2 1 (fun xs => ∃ n, (Lit.int .i64 n).wf = true ∧ xs = [I n]) := Rd.int Try.underlying2
theorem rd_ints : Rd Try.prog 22 1 (fun xs => ∃ ys : List Int, ys.length ≤ 9223372036854775807 ∧ xs = [iS ys]) := Rd.ints Try.underlying22 Try.underlying2 (by kernel_rfl)
theorem read_int : Rdr Try.prog 2 (fun n => I n) (fun n => (Lit.int .i64 n).wf = true) := Rdr.int Try.underlying2
theorem read_ints : Rdr Try.prog 22 iS (fun ys => ys.length ≤ 9223372036854775807) := Rdr.slice Try.underlying22 rd_ints
theorem read_bytes : Rdr Try.prog 29 bS (fun ys => ys.length ≤ 9223372036854775807 ∧ bOk ys) := Rdr.slice Try.underlying29 (Rd.bytes Try.underlying29 Try.underlying5 (by kernel_rfl))
end Go.Proofs.Ythnphcinjchloaa
