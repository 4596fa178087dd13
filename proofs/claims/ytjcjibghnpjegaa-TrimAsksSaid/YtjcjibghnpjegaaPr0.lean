-- Made by a program of this session (wip: patch_print.py, pr.sh) out of the kit's print: functions over lists and the proof that the Go code comes to them.
import Derived.Test.YtjcjibghnpjegaaProg
import Derived.Below
import Derived.Deep.Draws
import Derived.Deep.AppendLies
import Derived.Maps.AppendAt
import Derived.OwnWalk
import Derived.Laws.BytesArg
import Derived.Laws.MakeOwn
import Derived.Laws.OwnMore
import Derived.Deep.OwnRows
import Derived.Tactics
import Derived.Lib.ConvBytes
import Derived.Laws.Slices
import Derived.WalkKit
import Derived.KernelRfl
import Derived.RowKit3
import Derived.Deep.LoopGhost
import Derived.Deep.QuietTactic
import Derived.BigQuiet
import Derived.WideLaws
import Derived.Deep.DeepCutAuto
import Derived.Deep.CutBlock
import Derived.Deep.RegionHeld3
import Derived.Laws.Rows
import Derived.Lib.AppendStr
import Derived.ArgAppend
import Derived.Laws.IdiomCopy
import Derived.OrdersHeld
import Derived.Laws.BitsLemmas
import Derived.RowKit
import Derived.Lib.BufferMore
import Derived.Test.YtjcjibghnpjegaaWWords
import Derived.Test.YtjcjibghnpjegaaWLast
import Derived.Test.YtjcjibghnpjegaaWTab
import Derived.Test.YtjcjibghnpjegaaWFour
import Derived.Test.YtjcjibghnpjegaaWQPut
import Derived.Test.YtjcjibghnpjegaaWApart
import Derived.Test.YtjcjibghnpjegaaWArr
import Derived.Test.YtjcjibghnpjegaaWZeros
import Derived.Test.YtjcjibghnpjegaaWFoot
import Derived.Test.YtjcjibghnpjegaaWKept
import Derived.Test.YtjcjibghnpjegaaWShare
import Derived.Test.YtjcjibghnpjegaaWN
import Derived.Test.YtjcjibghnpjegaaWFootNe
import Derived.Test.YtjcjibghnpjegaaWAt
import Derived.Test.YtjcjibghnpjegaaWEqStruct
import Derived.Test.YtjcjibghnpjegaaWRepsOne
import Derived.Test.YtjcjibghnpjegaaWInv
import Derived.Test.YtjcjibghnpjegaaWInvWords
import Derived.Test.YtjcjibghnpjegaaWGuard
import Derived.Test.YtjcjibghnpjegaaWNEv
import Derived.Test.YtjcjibghnpjegaaWMore
namespace Go.Proofs.Ytjcjibghnpjegaa.Pr
open Go.RowKit Go.Proofs.YtjcjibghnpjegaaW.PrintWords Go.Proofs.YtjcjibghnpjegaaW.PrintLast Go.Proofs.YtjcjibghnpjegaaW.PrintMore
attribute [local go_sem] max2_int min2_int max_two min_two max_three min_three max_four min_four   -- for this text's walks alone
set_option linter.unusedVariables false
set_option linter.unusedSimpArgs false



def errW : Option Int → Value
  | none => .nilIface
  | some c => .iface 0 (.int .i64 c)
theorem errW_none : errW none = .nilIface := rfl
theorem errW_some (c : Int) : errW (some c) = .iface 0 (.int .i64 c) := rfl

theorem info2 : (Try.prog.info? 2).map (fun i => (i.zero, i.size, i.bytes)) = some (some (.int .i64 0), 1, 8) := by kernel_rfl
-- the values' own types

end Go.Proofs.Ytjcjibghnpjegaa.Pr
