import Derived.Test.YtccllhpdhhdnnaaProg
import Derived.Below
import Derived.Deep.Draws
import Derived.Deep.AppendLies
import Derived.Maps.AppendAt
import Derived.OwnWalk
import Derived.Laws.BytesArg
import Derived.Laws.MakeOwn
import Derived.Laws.OwnMore
import Derived.Deep.OwnRows
import Derived.Tactics
import Derived.Lib.ConvBytes
import Derived.Laws.Slices
import Derived.WalkKit
import Derived.KernelRfl
import Derived.RowKit3
import Derived.Deep.LoopGhost
import Derived.Deep.QuietTactic
import Derived.BigQuiet
import Derived.WideLaws
import Derived.Deep.DeepCutAuto
import Derived.Deep.CutBlock
import Derived.Deep.RegionHeld3
import Derived.Laws.Rows
import Derived.Lib.AppendStr
import Derived.ArgAppend
import Derived.Laws.IdiomCopy
import Derived.OrdersHeld
import Derived.Laws.BitsLemmas
import Derived.RowKit
import Derived.Test.YtccllhpdhhdnnaaWWords
import Derived.Test.YtccllhpdhhdnnaaWLast
import Derived.Test.YtccllhpdhhdnnaaWTab
import Derived.Test.YtccllhpdhhdnnaaWFour
import Derived.Test.YtccllhpdhhdnnaaWQPut
import Derived.Test.YtccllhpdhhdnnaaWApart
import Derived.Test.YtccllhpdhhdnnaaWArr
import Derived.Test.YtccllhpdhhdnnaaWZeros
import Derived.Test.YtccllhpdhhdnnaaWFoot
import Derived.Test.YtccllhpdhhdnnaaWKept
import Derived.Test.YtccllhpdhhdnnaaWShare
import Derived.Test.YtccllhpdhhdnnaaWN
import Derived.Test.YtccllhpdhhdnnaaWFootNe
import Derived.Test.YtccllhpdhhdnnaaWAt
import Derived.Test.YtccllhpdhhdnnaaWEqStruct
import Derived.Test.YtccllhpdhhdnnaaWRepsOne
import Derived.Test.YtccllhpdhhdnnaaWInv
import Derived.Test.YtccllhpdhhdnnaaWInvWords
import Derived.Test.YtccllhpdhhdnnaaWGuard
import Derived.Test.YtccllhpdhhdnnaaWNEv
import Derived.Test.YtccllhpdhhdnnaaWMore
namespace Go.Proofs.Ytccllhpdhhdnnaa.PFnExactMsgOk
open Go.RowKit Go.Proofs.YtccllhpdhhdnnaaW.PrintWords Go.Proofs.YtccllhpdhhdnnaaW.PrintLast Go.Proofs.YtccllhpdhhdnnaaW.PrintMore
attribute [local go_sem] max2_int min2_int max_two min_two max_three min_three max_four min_four   -- for this text's walks alone
set_option linter.unusedVariables false
set_option linter.unusedSimpArgs false



def errW : Option Int → Value
  | none => .nilIface
  | some c => .iface 0 (.int .i64 c)
theorem errW_none : errW none = .nilIface := rfl
theorem errW_some (c : Int) : errW (some c) = .iface 0 (.int .i64 c) := rfl

-- the values' own types

end Go.Proofs.Ytccllhpdhhdnnaa.PFnExactMsgOk
