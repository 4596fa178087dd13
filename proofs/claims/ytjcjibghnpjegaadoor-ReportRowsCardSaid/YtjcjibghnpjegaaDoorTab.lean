/- The table of powers of ten that strconv reads: that it holds what the card lays, and stays where only new memory is written. No condition. -/
import Derived.Test.YtjcjibghnpjegaaDoorShelf
import Derived.Lib.SmallJoins
import Derived.Lib.AppendIntMem
import Derived.KernelRfl
import Derived.Below
import Derived.Test.YtjcjibghnpjegaaDoorWWords
namespace Go.Proofs.YtjcjibghnpjegaaDoor.Pd
open Go.RowKit Go.Proofs.YtjcjibghnpjegaaDoorW.PrintWords
def TabOk (w : World) : Prop := Lib.TabIs Tryd.prog w "internal/strconv.uint64pow10" .u64 Lib.pow10Tab
theorem tab_named : ∃ g, Tryd.prog.globalNamed "internal/strconv.uint64pow10" = some g := ⟨0, by kernel_rfl⟩
theorem tab_at {w w' : World} (h : Aside0 (TabOk w)) (hb : Below w.heap.size w w') : Aside0 (TabOk w') := by
  obtain ⟨g, hg⟩ := tab_named
  exact ⟨Joins.tab_stays hg h.out hb (Nat.le_refl _)⟩
end Go.Proofs.YtjcjibghnpjegaaDoor.Pd
