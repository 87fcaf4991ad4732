/- what the laws' arguments read as -/
import Derived.Test.YtjgjnedenapemaaGreatDoorAgT
import Derived.Test.YtjgjnedenapemaaGreatDoorAgW
set_option linter.unusedVariables false
set_option linter.unusedSimpArgs false
namespace Go.Proofs.YtjgjnedenapemaaGreatDoor
open Go.AG

theorem rd_int : Rd Tryz.prog 2 1 (fun xs => ∃ n, (Lit.int .i64 n).wf = true ∧ xs = [I n]) := Rd.int Tryz.underlying2
theorem rd_ints : Rd Tryz.prog 24 1 (fun xs => ∃ ys : List Int, ys.length ≤ 9223372036854775807 ∧ xs = [iS ys]) := Rd.ints Tryz.underlying24 Tryz.underlying2 (by kernel_rfl)
theorem read_int : Rdr Tryz.prog 2 (fun n => I n) (fun n => (Lit.int .i64 n).wf = true) := Rdr.int Tryz.underlying2
theorem read_ints : Rdr Tryz.prog 24 iS (fun ys => ys.length ≤ 9223372036854775807) := Rdr.slice Tryz.underlying24 rd_ints
theorem read_bytes : Rdr Tryz.prog 22 bS (fun ys => ys.length ≤ 9223372036854775807 ∧ bOk ys) := Rdr.slice Tryz.underlying22 (Rd.bytes Tryz.underlying22 Tryz.underlying5 (by kernel_rfl))
end Go.Proofs.YtjgjnedenapemaaGreatDoor
