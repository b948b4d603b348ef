-- PRINTED by print.py (a twelfth state) out of the translation. Not trusted: Lean checks it.
import Derived.Test.YtpjmpmgomealmaaProg
import Derived.Below
import Derived.Deep.Draws
import Derived.Deep.AppendLies
import Derived.Maps.AppendAt
import Derived.OwnWalk
import Derived.Laws.BytesArg
import Derived.Laws.MakeOwn
import Derived.Laws.OwnMore
import Derived.Deep.OwnRows
import Derived.Tactics
import Derived.Lib.ConvBytes
import Derived.Laws.Slices
import Derived.WalkKit
import Derived.KernelRfl
import Derived.RowKit3
import Derived.Deep.LoopGhost
import Derived.Deep.QuietTactic
import Derived.BigQuiet
import Derived.WideLaws
import Derived.Deep.DeepCutAuto
import Derived.Deep.CutBlock
import Derived.Deep.RegionHeld3
import Derived.Laws.Rows
import Derived.Lib.AppendStr
import Derived.ArgAppend
import Derived.Laws.IdiomCopy
import Derived.OrdersHeld
import Derived.Laws.BitsLemmas
import Derived.RowKit
import Derived.Test.YtpjmpmgomealmaaWWords
import Derived.Test.YtpjmpmgomealmaaWLast
import Derived.Test.YtpjmpmgomealmaaWTab
import Derived.Test.YtpjmpmgomealmaaWFour
import Derived.Test.YtpjmpmgomealmaaWQPut
import Derived.Test.YtpjmpmgomealmaaWApart
import Derived.Test.YtpjmpmgomealmaaWArr
import Derived.Test.YtpjmpmgomealmaaWZeros
import Derived.Test.YtpjmpmgomealmaaWFoot
import Derived.Test.YtpjmpmgomealmaaWKept
import Derived.Test.YtpjmpmgomealmaaWShare
import Derived.Test.YtpjmpmgomealmaaWN
import Derived.Test.YtpjmpmgomealmaaWFootNe
import Derived.Test.YtpjmpmgomealmaaWAt
import Derived.Test.YtpjmpmgomealmaaWEqStruct
import Derived.Test.YtpjmpmgomealmaaWRepsOne
import Derived.Test.YtpjmpmgomealmaaWInv
import Derived.Test.YtpjmpmgomealmaaWInvWords
import Derived.Test.YtpjmpmgomealmaaWGuard
import Derived.Test.YtpjmpmgomealmaaWNEv
import Derived.Test.YtpjmpmgomealmaaWMore
namespace Go.Proofs.Ytpjmpmgomealmaa.Ra
open Go.RowKit Go.Proofs.YtpjmpmgomealmaaW.PrintWords Go.Proofs.YtpjmpmgomealmaaW.PrintLast Go.Proofs.YtpjmpmgomealmaaW.PrintMore
attribute [local go_sem] max2_int min2_int max_two min_two max_three min_three max_four min_four   -- for this text's walks alone
set_option linter.unusedVariables false
set_option linter.unusedSimpArgs false



def errW : Option Int → Value
  | none => .nilIface
  | some c => .iface 0 (.int .i64 c)
theorem errW_none : errW none = .nilIface := rfl
theorem errW_some (c : Int) : errW (some c) = .iface 0 (.int .i64 c) := rfl

-- the values' own types

end Go.Proofs.Ytpjmpmgomealmaa.Ra
