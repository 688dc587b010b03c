/- The kinds of values of this seat's functions, as the kit's printer lays them; no claim yet. -/
import Derived.Test.YtjinijaegfolbaaProg
import Derived.Below
import Derived.Deep.Draws
import Derived.Deep.AppendLies
import Derived.Maps.AppendAt
import Derived.OwnWalk
import Derived.Laws.BytesArg
import Derived.Laws.MakeOwn
import Derived.Laws.OwnMore
import Derived.Deep.OwnRows
import Derived.Tactics
import Derived.Lib.ConvBytes
import Derived.Laws.Slices
import Derived.WalkKit
import Derived.KernelRfl
import Derived.RowKit3
import Derived.Deep.LoopGhost
import Derived.Deep.QuietTactic
import Derived.BigQuiet
import Derived.WideLaws
import Derived.Deep.DeepCutAuto
import Derived.Deep.CutBlock
import Derived.Deep.RegionHeld3
import Derived.Laws.Rows
import Derived.Lib.AppendStr
import Derived.ArgAppend
import Derived.Laws.IdiomCopy
import Derived.OrdersHeld
import Derived.Laws.BitsLemmas
import Derived.RowKit
import Derived.Test.YtjinijaegfolbaaWWords
import Derived.Test.YtjinijaegfolbaaWLast
import Derived.Test.YtjinijaegfolbaaWTab
import Derived.Test.YtjinijaegfolbaaWFour
import Derived.Test.YtjinijaegfolbaaWQPut
import Derived.Test.YtjinijaegfolbaaWApart
import Derived.Test.YtjinijaegfolbaaWArr
import Derived.Test.YtjinijaegfolbaaWZeros
import Derived.Test.YtjinijaegfolbaaWFoot
import Derived.Test.YtjinijaegfolbaaWKept
import Derived.Test.YtjinijaegfolbaaWShare
import Derived.Test.YtjinijaegfolbaaWN
import Derived.Test.YtjinijaegfolbaaWFootNe
import Derived.Test.YtjinijaegfolbaaWAt
import Derived.Test.YtjinijaegfolbaaWEqStruct
import Derived.Test.YtjinijaegfolbaaWRepsOne
import Derived.Test.YtjinijaegfolbaaWInv
import Derived.Test.YtjinijaegfolbaaWInvWords
import Derived.Test.YtjinijaegfolbaaWGuard
import Derived.Test.YtjinijaegfolbaaWNEv
import Derived.Test.YtjinijaegfolbaaWMore
namespace Go.Proofs.Ytjinijaegfolbaa.PAll
open Go.RowKit Go.Proofs.YtjinijaegfolbaaW.PrintWords Go.Proofs.YtjinijaegfolbaaW.PrintLast Go.Proofs.YtjinijaegfolbaaW.PrintMore
attribute [local go_sem] max2_int min2_int max_two min_two max_three min_three max_four min_four   -- for this text's walks alone
set_option linter.unusedVariables false
set_option linter.unusedSimpArgs false



def errW : Option Int → Value
  | none => .nilIface
  | some c => .iface 0 (.int .i64 c)
theorem errW_none : errW none = .nilIface := rfl
theorem errW_some (c : Int) : errW (some c) = .iface 0 (.int .i64 c) := rfl

theorem info3 : (Try.prog.info? 3).map (fun i => (i.zero, i.size, i.bytes)) = some (some (.int .i64 0), 1, 8) := by kernel_rfl
theorem info5 : (Try.prog.info? 5).map (fun i => (i.zero, i.size, i.bytes)) = some (some (.int .u8 0), 1, 1) := by kernel_rfl
theorem info24 : (Try.prog.info? 24).map (fun i => (i.zero, i.size, i.bytes)) = some (some (.int .u16 0), 1, 2) := by kernel_rfl
-- the values' own types

end Go.Proofs.Ytjinijaegfolbaa.PAll
