/- what a tender reads as, as a law's argument -/
import Derived.Test.YtbgjkjiepkopkaaRead
import Derived.Test.YtbgjkjiepkopkaaTender
set_option linter.unusedVariables false
set_option linter.unusedSimpArgs false
namespace Go.Proofs.Ytbgjkjiepkopkaa
open Go.AG

theorem rd_bid : Rd Try.prog 89 3 (fun xs => ∃ d : Bd, True ∧ xs = d.cells) :=
  (Rd.struct Try.underlying89 (by kernel_rfl) (RdF.cons rd_int rfl (by kernel_rfl) (RdF.cons rd_int rfl (by kernel_rfl) (RdF.cons rd_int rfl (by kernel_rfl) (RdF.nil _))))).mono
    fun xs ⟨a, b, ⟨n1, _, h1⟩, ⟨c, d, ⟨n2, _, h2⟩, ⟨e, f, ⟨n3, _, h3⟩, h4, h5⟩, h6⟩, h7⟩ => ⟨⟨n1, n2, n3⟩, trivial, by subst h4 h5 h6 h1 h2 h3 h7; rfl⟩
theorem rd_bids : Rd Try.prog 23 1 (fun xs => ∃ ds : List Bd, ds.length ≤ 9223372036854775807 ∧ xs = [.sl ds.length (cBd ds)]) :=
  (Rd.slOf Bd.cells Try.underlying23 (by kernel_rfl) (by omega) rd_bid).mono fun xs ⟨ds, h, e⟩ => ⟨ds, h.1, e⟩
theorem rd_tender : Rd Try.prog 25 3 (fun xs => ∃ t : Td, (t.most.length ≤ 9223372036854775807 ∧ t.bids.length ≤ 9223372036854775807) ∧ xs = tC t) :=
  (Rd.struct Try.underlying25 (by kernel_rfl) (RdF.cons rd_int rfl (by kernel_rfl) (RdF.cons rd_ints rfl (by kernel_rfl) (RdF.cons rd_bids rfl (by kernel_rfl) (RdF.nil _))))).mono
    fun xs ⟨a, b, ⟨n1, _, h1⟩, ⟨c, d, ⟨n2, l2, h2⟩, ⟨e, f, ⟨n3, l3, h3⟩, h4, h5⟩, h6⟩, h7⟩ => ⟨⟨n1, n2, n3⟩, ⟨l2, l3⟩, by subst h4 h5 h6 h1 h2 h3 h7; rfl⟩
theorem read_tender : Rdr Try.prog 25 (fun t => .agg (tC t)) (fun t => t.most.length ≤ 9223372036854775807 ∧ t.bids.length ≤ 9223372036854775807) := Rdr.struct Try.underlying25 rd_tender
theorem read_bid : Rdr Try.prog 89 (fun d : Bd => .agg d.cells) (fun _ => True) := Rdr.struct Try.underlying89 rd_bid
end Go.Proofs.Ytbgjkjiepkopkaa
