/- What the rows' condition gives: the table of powers of ten; and one world that meets the condition. The three rows list the same variables. -/
import Derived.Test.YtjcjibghnpjegaaDoorRows
import Derived.Test.YtjcjibghnpjegaaDoorTab
import Derived.Lib.LaidTab
import Derived.ProofKit
import Derived.OpenShut
import Derived.LaidMore
import Derived.LaidLaws
import Derived.Lay
import Derived.SevenTiedAt
import Derived.Stop.Joined
import Derived.MakeChecks
import Derived.Stop.LaidErr
import Derived.KernelRfl
namespace Go.Proofs.YtjcjibghnpjegaaDoor.Laid
open Go.RowKit
open Go.Proofs.YtjcjibghnpjegaaDoor.Pd
theorem own : ownKnob Tryd.prog.godebug = none := by kernel_rfl
theorem plain (w : World) : laidMetH Tryd.prog Rows.reportWordsRow.laid w = laidMet Tryd.prog Rows.reportWordsRow.laid w := MakeChecks.laidMetH_plain _ _ _ (by kernel_rfl)
theorem tab {w : World} (h : laidMetH Tryd.prog Rows.reportWordsRow.laid w) : TabOk w := by
  rw [plain] at h
  have h3 : laidMet Tryd.prog [("internal/strconv.uint64pow10", Lib.tabData .u64 Lib.pow10Tab)] w := laidMet.tail (laidMet.tail h)
  exact Lib.tabIs_of_head (g := 0) (t := 66) (by kernel_rfl) (by kernel_rfl) Tryd.underlying66 Tryd.underlying22 (by kernel_rfl) (by kernel_rfl) h3
theorem met (os : Os) (args : Array Value) : laidMetH Tryd.prog Rows.reportWordsRow.laid ((World.laidAll Tryd.prog os Rows.reportWordsRow.laid).forCall (fun _ _ => 0) ⟨#[], args, []⟩).memory := by
  rw [plain]
  exact laidMet_laidAll _ (by kernel_rfl) (by kernel_rfl)
end Go.Proofs.YtjcjibghnpjegaaDoor.Laid
