/- The kinds of values of this seat's functions, as the kit's printer lays them; no claim yet. -/
import Derived.Test.YtipcnefiadnlmaaProg
import Derived.Below
import Derived.Deep.Draws
import Derived.Deep.AppendLies
import Derived.Maps.AppendAt
import Derived.OwnWalk
import Derived.Laws.BytesArg
import Derived.Laws.MakeOwn
import Derived.Laws.OwnMore
import Derived.Deep.OwnRows
import Derived.Tactics
import Derived.Lib.ConvBytes
import Derived.Laws.Slices
import Derived.WalkKit
import Derived.KernelRfl
import Derived.RowKit3
import Derived.Deep.LoopGhost
import Derived.Deep.QuietTactic
import Derived.BigQuiet
import Derived.WideLaws
import Derived.Deep.DeepCutAuto
import Derived.Deep.CutBlock
import Derived.Deep.RegionHeld3
import Derived.Laws.Rows
import Derived.Lib.AppendStr
import Derived.ArgAppend
import Derived.Laws.IdiomCopy
import Derived.OrdersHeld
import Derived.Laws.BitsLemmas
import Derived.RowKit
import Derived.Test.YtipcnefiadnlmaaWWords
import Derived.Test.YtipcnefiadnlmaaWLast
import Derived.Test.YtipcnefiadnlmaaWTab
import Derived.Test.YtipcnefiadnlmaaWFour
import Derived.Test.YtipcnefiadnlmaaWQPut
import Derived.Test.YtipcnefiadnlmaaWApart
import Derived.Test.YtipcnefiadnlmaaWArr
import Derived.Test.YtipcnefiadnlmaaWZeros
import Derived.Test.YtipcnefiadnlmaaWFoot
import Derived.Test.YtipcnefiadnlmaaWKept
import Derived.Test.YtipcnefiadnlmaaWShare
import Derived.Test.YtipcnefiadnlmaaWN
import Derived.Test.YtipcnefiadnlmaaWFootNe
import Derived.Test.YtipcnefiadnlmaaWAt
import Derived.Test.YtipcnefiadnlmaaWEqStruct
import Derived.Test.YtipcnefiadnlmaaWRepsOne
import Derived.Test.YtipcnefiadnlmaaWInv
import Derived.Test.YtipcnefiadnlmaaWInvWords
import Derived.Test.YtipcnefiadnlmaaWGuard
import Derived.Test.YtipcnefiadnlmaaWNEv
import Derived.Test.YtipcnefiadnlmaaWMore
namespace Go.Proofs.Ytipcnefiadnlmaa.PAll
open Go.RowKit Go.Proofs.YtipcnefiadnlmaaW.PrintWords Go.Proofs.YtipcnefiadnlmaaW.PrintLast Go.Proofs.YtipcnefiadnlmaaW.PrintMore
attribute [local go_sem] max2_int min2_int max_two min_two max_three min_three max_four min_four   -- for this text's walks alone
set_option linter.unusedVariables false
set_option linter.unusedSimpArgs false



def errW : Option Int → Value
  | none => .nilIface
  | some c => .iface 0 (.int .i64 c)
theorem errW_none : errW none = .nilIface := rfl
theorem errW_some (c : Int) : errW (some c) = .iface 0 (.int .i64 c) := rfl

-- the values' own types

end Go.Proofs.Ytipcnefiadnlmaa.PAll
