-- printed by a program of this session's (xprint.py) out of the translation; Lean checks it
import Derived.Test.YtdgejkiackeieaaDoorProg
import Derived.Test.YtdgejkiackeieaaDoorXc
import Derived.Below
import Derived.Deep.Draws
import Derived.Deep.AppendLies
import Derived.Maps.AppendAt
import Derived.OwnWalk
import Derived.Laws.BytesArg
import Derived.Laws.MakeOwn
import Derived.Laws.OwnMore
import Derived.Deep.OwnRows
import Derived.Tactics
import Derived.Lib.ConvBytes
import Derived.Laws.Slices
import Derived.WalkKit
import Derived.KernelRfl
import Derived.RowKit3
import Derived.Deep.LoopGhost
import Derived.Deep.QuietTactic
import Derived.BigQuiet
import Derived.WideLaws
import Derived.Deep.DeepCutAuto
import Derived.Deep.CutBlock
import Derived.Deep.RegionHeld3
import Derived.Laws.Rows
import Derived.Lib.AppendStr
import Derived.ArgAppend
import Derived.Laws.IdiomCopy
import Derived.OrdersHeld
import Derived.Laws.BitsLemmas
import Derived.RowKit
import Derived.Test.YtdgejkiackeieaaDoorWWords
import Derived.Test.YtdgejkiackeieaaDoorWLast
import Derived.Test.YtdgejkiackeieaaDoorWTab
import Derived.Test.YtdgejkiackeieaaDoorWFour
import Derived.Test.YtdgejkiackeieaaDoorWQPut
import Derived.Test.YtdgejkiackeieaaDoorWApart
import Derived.Test.YtdgejkiackeieaaDoorWArr
import Derived.Test.YtdgejkiackeieaaDoorWZeros
import Derived.Test.YtdgejkiackeieaaDoorWFoot
import Derived.Test.YtdgejkiackeieaaDoorWKept
import Derived.Test.YtdgejkiackeieaaDoorWShare
import Derived.Test.YtdgejkiackeieaaDoorWN
import Derived.Test.YtdgejkiackeieaaDoorWFootNe
import Derived.Test.YtdgejkiackeieaaDoorWAt
import Derived.Test.YtdgejkiackeieaaDoorWEqStruct
import Derived.Test.YtdgejkiackeieaaDoorWRepsOne
import Derived.Test.YtdgejkiackeieaaDoorWInv
import Derived.Test.YtdgejkiackeieaaDoorWInvWords
import Derived.Test.YtdgejkiackeieaaDoorWGuard
import Derived.Test.YtdgejkiackeieaaDoorWNEv
import Derived.Test.YtdgejkiackeieaaDoorWMore
namespace Go.Proofs.YtdgejkiackeieaaDoor.PDigestShorts
open Go.RowKit Go.Proofs.YtdgejkiackeieaaDoorW.PrintWords Go.Proofs.YtdgejkiackeieaaDoorW.PrintLast Go.Proofs.YtdgejkiackeieaaDoorW.PrintMore
attribute [local go_sem] max2_int min2_int max_two min_two max_three min_three max_four min_four   -- for this text's walks alone
set_option linter.unusedVariables false
set_option linter.unusedSimpArgs false



def errW : Option Int → Value
  | none => .nilIface
  | some c => .iface 0 (.int .i64 c)
theorem errW_none : errW none = .nilIface := rfl
theorem errW_some (c : Int) : errW (some c) = .iface 0 (.int .i64 c) := rfl

-- the values' own types

end Go.Proofs.YtdgejkiackeieaaDoor.PDigestShorts
