-- A text of this session's own program (wip/myprint.sh over a changed print tool): functions and their walks
import Derived.Test.YtkkbpjlajmpnlaaProg
import Derived.Test.YtkkbpjlajmpnlaaHCap
import Derived.Below
import Derived.Deep.Draws
import Derived.Deep.AppendLies
import Derived.Maps.AppendAt
import Derived.OwnWalk
import Derived.Laws.BytesArg
import Derived.Laws.MakeOwn
import Derived.Laws.OwnMore
import Derived.Deep.OwnRows
import Derived.Tactics
import Derived.Lib.ConvBytes
import Derived.Laws.Slices
import Derived.WalkKit
import Derived.KernelRfl
import Derived.RowKit3
import Derived.Deep.LoopGhost
import Derived.Deep.QuietTactic
import Derived.BigQuiet
import Derived.WideLaws
import Derived.Deep.DeepCutAuto
import Derived.Deep.CutBlock
import Derived.Deep.RegionHeld3
import Derived.Laws.Rows
import Derived.Lib.AppendStr
import Derived.ArgAppend
import Derived.Laws.IdiomCopy
import Derived.OrdersHeld
import Derived.Laws.BitsLemmas
import Derived.WalkMore
import Derived.RowKit
import Derived.Test.YtkkbpjlajmpnlaaWWords
import Derived.Test.YtkkbpjlajmpnlaaWLast
import Derived.Test.YtkkbpjlajmpnlaaWTab
import Derived.Test.YtkkbpjlajmpnlaaWFour
import Derived.Test.YtkkbpjlajmpnlaaWQPut
import Derived.Test.YtkkbpjlajmpnlaaWApart
import Derived.Test.YtkkbpjlajmpnlaaWArr
import Derived.Test.YtkkbpjlajmpnlaaWZeros
import Derived.Test.YtkkbpjlajmpnlaaWFoot
import Derived.Test.YtkkbpjlajmpnlaaWKept
import Derived.Test.YtkkbpjlajmpnlaaWShare
import Derived.Test.YtkkbpjlajmpnlaaWN
import Derived.Test.YtkkbpjlajmpnlaaWFootNe
import Derived.Test.YtkkbpjlajmpnlaaWAt
import Derived.Test.YtkkbpjlajmpnlaaWEqStruct
import Derived.Test.YtkkbpjlajmpnlaaWRepsOne
import Derived.Test.YtkkbpjlajmpnlaaWInv
import Derived.Test.YtkkbpjlajmpnlaaWInvWords
import Derived.Test.YtkkbpjlajmpnlaaWGuard
import Derived.Test.YtkkbpjlajmpnlaaWNEv
import Derived.Test.YtkkbpjlajmpnlaaWMore
namespace Go.Proofs.Ytkkbpjlajmpnlaa.F
open Go.RowKit Go.Proofs.YtkkbpjlajmpnlaaW.PrintWords Go.Proofs.YtkkbpjlajmpnlaaW.PrintLast Go.Proofs.YtkkbpjlajmpnlaaW.PrintMore
attribute [local go_sem] max2_int min2_int max_two min_two max_three min_three max_four min_four   -- for this text's walks alone
set_option linter.unusedVariables false
set_option linter.unusedSimpArgs false



def errW : Option Int → Value
  | none => .nilIface
  | some c => .iface 0 (.int .i64 c)
theorem errW_none : errW none = .nilIface := rfl
theorem errW_some (c : Int) : errW (some c) = .iface 0 (.int .i64 c) := rfl

theorem info9 : (Try.prog.info? 9).map (fun i => (i.zero, i.size, i.bytes)) = some (some (.string ⟨#[]⟩), 1, 16) := by kernel_rfl
-- the values' own types

end Go.Proofs.Ytkkbpjlajmpnlaa.F
