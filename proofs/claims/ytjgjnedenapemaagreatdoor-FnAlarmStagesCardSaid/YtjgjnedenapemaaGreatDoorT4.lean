/- texts in walks: the rules of simp -/
import Derived.Test.YtjgjnedenapemaaGreatDoorT3
set_option linter.unusedVariables false
set_option linter.unusedSimpArgs false
namespace Go.Proofs.YtjgjnedenapemaaGreatDoor
open Go.AG Go.Lib

@[go_sem] theorem mk_tx (l : List UInt8) : ByteArray.mk (List.toArray l) = tx l := rfl
@[go_sem] theorem decS_tx (n : Int) : decS n = tx (itoa n) := rfl
attribute [go_sem] tx_app tx_size List.length_append List.length_cons List.length_nil
theorem St_txN {a b : List UInt8} (h : a = b) : St (tx a) = St (tx b) := by rw [h]
end Go.Proofs.YtjgjnedenapemaaGreatDoor
