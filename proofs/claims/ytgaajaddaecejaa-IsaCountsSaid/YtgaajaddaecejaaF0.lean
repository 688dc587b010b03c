/- The kinds of values of this seat's functions, as the kit's printer lays them; no claim yet. -/
import Derived.Test.YtgaajaddaecejaaProg
import Derived.Below
import Derived.Deep.Draws
import Derived.Deep.AppendLies
import Derived.Maps.AppendAt
import Derived.OwnWalk
import Derived.Laws.BytesArg
import Derived.Laws.MakeOwn
import Derived.Laws.OwnMore
import Derived.Deep.OwnRows
import Derived.Tactics
import Derived.Lib.ConvBytes
import Derived.Laws.Slices
import Derived.WalkKit
import Derived.KernelRfl
import Derived.RowKit3
import Derived.Deep.LoopGhost
import Derived.Deep.QuietTactic
import Derived.BigQuiet
import Derived.WideLaws
import Derived.Deep.DeepCutAuto
import Derived.Deep.CutBlock
import Derived.Deep.RegionHeld3
import Derived.Laws.Rows
import Derived.Lib.AppendStr
import Derived.ArgAppend
import Derived.Laws.IdiomCopy
import Derived.OrdersHeld
import Derived.Laws.BitsLemmas
import Derived.RowKit
import Derived.Test.YtgaajaddaecejaaWWords
import Derived.Test.YtgaajaddaecejaaWLast
import Derived.Test.YtgaajaddaecejaaWTab
import Derived.Test.YtgaajaddaecejaaWFour
import Derived.Test.YtgaajaddaecejaaWQPut
import Derived.Test.YtgaajaddaecejaaWApart
import Derived.Test.YtgaajaddaecejaaWArr
import Derived.Test.YtgaajaddaecejaaWZeros
import Derived.Test.YtgaajaddaecejaaWFoot
import Derived.Test.YtgaajaddaecejaaWKept
import Derived.Test.YtgaajaddaecejaaWShare
import Derived.Test.YtgaajaddaecejaaWN
import Derived.Test.YtgaajaddaecejaaWFootNe
import Derived.Test.YtgaajaddaecejaaWAt
import Derived.Test.YtgaajaddaecejaaWEqStruct
import Derived.Test.YtgaajaddaecejaaWRepsOne
import Derived.Test.YtgaajaddaecejaaWInv
import Derived.Test.YtgaajaddaecejaaWInvWords
import Derived.Test.YtgaajaddaecejaaWGuard
import Derived.Test.YtgaajaddaecejaaWNEv
import Derived.Test.YtgaajaddaecejaaWMore
namespace Go.Proofs.Ytgaajaddaecejaa.PAll
open Go.RowKit Go.Proofs.YtgaajaddaecejaaW.PrintWords Go.Proofs.YtgaajaddaecejaaW.PrintLast Go.Proofs.YtgaajaddaecejaaW.PrintMore
attribute [local go_sem] max2_int min2_int max_two min_two max_three min_three max_four min_four   -- for this text's walks alone
set_option linter.unusedVariables false
set_option linter.unusedSimpArgs false



def errW : Option Int → Value
  | none => .nilIface
  | some c => .iface 0 (.int .i64 c)
theorem errW_none : errW none = .nilIface := rfl
theorem errW_some (c : Int) : errW (some c) = .iface 0 (.int .i64 c) := rfl

theorem info3 : (Try.prog.info? 3).map (fun i => (i.zero, i.size, i.bytes)) = some (some (.int .i64 0), 1, 8) := by kernel_rfl
theorem info9 : (Try.prog.info? 9).map (fun i => (i.zero, i.size, i.bytes)) = some (some (.string ⟨#[]⟩), 1, 16) := by kernel_rfl
theorem info23 : (Try.prog.info? 23).map (fun i => (i.zero, i.size, i.bytes)) = some (some (.int .u8 0), 1, 1) := by kernel_rfl
-- the values' own types

end Go.Proofs.Ytgaajaddaecejaa.PAll
