/- what the laws' arguments read as -/
import Derived.Test.YtbbdfifpncjpnaaDoorAgT
import Derived.Test.YtbbdfifpncjpnaaDoorAgW
set_option linter.unusedVariables false
set_option linter.unusedSimpArgs false
namespace Go.Proofs.YtbbdfifpncjpnaaDoor
open Go.AG

theorem rd_int : Rd Tryd.prog 2 1 (fun xs => ∃ n, (Lit.int .i64 n).wf = true ∧ xs = [I n]) := Rd.int Tryd.underlying2
theorem rd_ints : Rd Tryd.prog 53 1 (fun xs => ∃ ys : List Int, ys.length ≤ 9223372036854775807 ∧ xs = [iS ys]) := Rd.ints Tryd.underlying53 Tryd.underlying2 (by kernel_rfl)
theorem read_int : Rdr Tryd.prog 2 (fun n => I n) (fun n => (Lit.int .i64 n).wf = true) := Rdr.int Tryd.underlying2
theorem read_ints : Rdr Tryd.prog 53 iS (fun ys => ys.length ≤ 9223372036854775807) := Rdr.slice Tryd.underlying53 rd_ints
theorem read_bytes : Rdr Tryd.prog 22 bS (fun ys => ys.length ≤ 9223372036854775807 ∧ bOk ys) := Rdr.slice Tryd.underlying22 (Rd.bytes Tryd.underlying22 Tryd.underlying5 (by kernel_rfl))
end Go.Proofs.YtbbdfifpncjpnaaDoor
