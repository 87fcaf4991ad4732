/- sort.symMerge_func, walked -/
import Derived.Test.YthnphcinjchloaaSym6
import Derived.Test.YthnphcinjchloaaSym7
set_option linter.unusedVariables false
set_option linter.unusedSimpArgs false
namespace Go.Proofs.Ythnphcinjchloaa
open Go.AG Go.Lib Go.Sort Go.Shelf Go.RowKit Go.Proofs
variable {α : Type} [Inhabited α]

theorem symMerge_w (enc : α → Value) (lt : α → α → Bool) (g : Nat) (lb : Array Value) (sf : Nat) (sb : Array Value) (blk off : Nat) (eg : ∀ args w, (callFunc g args).run Try.prog w = .ok (.enter g args) w) (f : Nat) : SymIH enc lt g lb sf sb blk off f := by
  induction f with
  | zero => intro a m b d dk w0 W _ _ _ _ _ _ h1 h2 _ h3; omega
  | succ f ih =>
    intro a m b d dk w0 W hless hswap hH hblk hW hs ha hm hb hf hsz
    by_cases c1 : m - a = 1
    · exact symMerge_c1 enc lt g lb sf sb blk off eg f a m b d dk w0 W hless hswap hH hblk hW hs ha hm hb hf hsz c1
    · by_cases c2 : b - m = 1
      · exact symMerge_c2 enc lt g lb sf sb blk off eg f a m b d dk w0 W hless hswap hH hblk hW hs ha hm hb hf hsz c1 c2
      · by_cases c3 : (a + b) / 2 < m
        · exact symMerge_c3 enc lt g lb sf sb blk off eg f ih a m b d dk w0 W hless hswap hH hblk hW hs ha hm hb hf hsz c1 c2 c3
        · exact symMerge_c4 enc lt g lb sf sb blk off eg f ih a m b d dk w0 W hless hswap hH hblk hW hs ha hm hb hf hsz c1 c2 c3
end Go.Proofs.Ythnphcinjchloaa
