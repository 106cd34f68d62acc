/- The facts on types that the functions' walks use. (Made by this session's own program out of what the kit's print wrote; no text of the print.) -/
import Derived.Test.YtpdlbiahfmidoaaProg
import Derived.Below
import Derived.Deep.Draws
import Derived.Deep.AppendLies
import Derived.Maps.AppendAt
import Derived.OwnWalk
import Derived.Laws.BytesArg
import Derived.Laws.MakeOwn
import Derived.Laws.OwnMore
import Derived.Deep.OwnRows
import Derived.Tactics
import Derived.Lib.ConvBytes
import Derived.Laws.Slices
import Derived.WalkKit
import Derived.KernelRfl
import Derived.RowKit3
import Derived.Deep.LoopGhost
import Derived.Deep.QuietTactic
import Derived.BigQuiet
import Derived.WideLaws
import Derived.Deep.DeepCutAuto
import Derived.Deep.CutBlock
import Derived.Deep.RegionHeld3
import Derived.Laws.Rows
import Derived.Lib.AppendStr
import Derived.ArgAppend
import Derived.Laws.IdiomCopy
import Derived.OrdersHeld
import Derived.Laws.BitsLemmas
import Derived.RowKit
import Derived.Test.YtpdlbiahfmidoaaWWords
import Derived.Test.YtpdlbiahfmidoaaWLast
import Derived.Test.YtpdlbiahfmidoaaWTab
import Derived.Test.YtpdlbiahfmidoaaWFour
import Derived.Test.YtpdlbiahfmidoaaWQPut
import Derived.Test.YtpdlbiahfmidoaaWApart
import Derived.Test.YtpdlbiahfmidoaaWArr
import Derived.Test.YtpdlbiahfmidoaaWZeros
import Derived.Test.YtpdlbiahfmidoaaWFoot
import Derived.Test.YtpdlbiahfmidoaaWKept
import Derived.Test.YtpdlbiahfmidoaaWShare
import Derived.Test.YtpdlbiahfmidoaaWN
import Derived.Test.YtpdlbiahfmidoaaWFootNe
import Derived.Test.YtpdlbiahfmidoaaWAt
import Derived.Test.YtpdlbiahfmidoaaWEqStruct
import Derived.Test.YtpdlbiahfmidoaaWRepsOne
import Derived.Test.YtpdlbiahfmidoaaWInv
import Derived.Test.YtpdlbiahfmidoaaWInvWords
import Derived.Test.YtpdlbiahfmidoaaWGuard
import Derived.Test.YtpdlbiahfmidoaaWNEv
import Derived.Test.YtpdlbiahfmidoaaWMore
namespace Go.Proofs.Ytpdlbiahfmidoaa.Fb
open Go.RowKit Go.Proofs.YtpdlbiahfmidoaaW.PrintWords Go.Proofs.YtpdlbiahfmidoaaW.PrintLast Go.Proofs.YtpdlbiahfmidoaaW.PrintMore
attribute [local go_sem] max2_int min2_int max_two min_two max_three min_three max_four min_four   -- for this text's walks alone
set_option linter.unusedVariables false
set_option linter.unusedSimpArgs false

def errW : Option Int → Value
  | none => .nilIface
  | some c => .iface 0 (.int .i64 c)
theorem errW_none : errW none = .nilIface := rfl
theorem errW_some (c : Int) : errW (some c) = .iface 0 (.int .i64 c) := rfl
theorem info22 : (Try.prog.info? 22).map (fun i => (i.zero, i.size, i.bytes)) = some (some (.int .u64 0), 1, 8) := by kernel_rfl

end Go.Proofs.Ytpdlbiahfmidoaa.Fb
