/-
  No cell of these rows narrows 'for every input' (looked for: loops, veiled, ifaces, maps, wideKeys, modest, calm, conditions, laid).
  DERIVED. THE GIVEN ROWS OF THIS SEAT. 11 by the template 'for every input the law returns true; each argument reads behind the call as it read before'; 0 by the template 'total and deterministic' (their statements: YtgbmaajfbbilhaaGreatTotals.lean).
  GIVEN WITH THE SEED: the statements are not yours to turn. If you find one false, say at which input.
  Laid BY PROGRAM, IN A SANDBOX (cutbox-rows.mjs): the forced cells as the released guide's own fill.sh prints them over the translation b1fd4d1039b70327… (all of the seat's roots in one cut). By AI agents, Wed Nov 11 2026. No macro, syntax, notation, axiom, sorry.
-/
import Derived.Test.YtgbmaajfbbilhaaGreatChecked
import GoSem.Claim
import GoSem.ClaimJoined
import GoSem.ClaimMapViews
import Derived.JoinedTies
import Derived.KernelRfl
namespace Go.Proofs.YtgbmaajfbbilhaaGreat
/- THE CELL 'sum', in the pinned program and in every row, IS THE sha256 OF THE DUMP (.gsa) THAT YtgbmaajfbbilhaaGreatProg.lean LOADS. Nothing in Lean hashes anything: it is a label: what it is worth is what the hold of that sum in a sandbox is worth. -/
noncomputable def Tryz.pinned : Pinned := { name := "ytgbmaajfbbilhaagreat", sum := "b1fd4d1039b7032776331f968f2917d183896165bc0bd24908dbaf70609223a5", checked := Tryz.checked }
namespace Rows
def none {H : Type} : Left H := { results := [], args := [] }

/-- 'perilunelaw05.CpuSteps': WHATEVER THE INPUT: true; the input reads as it did. -/
def cpuStepsSpec : ChangeSpec := { name := "cpuSteps", fn := fun _ => fun
  | [d1, d2] => { results := [.lit (.bool true)], args := [d1, d2] }
  | _ => none }
def cpuStepsRow : OpenClaim := { program := "ytgbmaajfbbilhaagreat", sum := "b1fd4d1039b7032776331f968f2917d183896165bc0bd24908dbaf70609223a5", func := "perilune/perilunelaw05.CpuSteps", spec := "cpuSteps", unfollowed := true, recurses := true, apart := false }
def CpuStepsSaid : Prop := cpuStepsRow.holds Tryz.pinned (OpenSpec.ofChange cpuStepsSpec)

/-- ITS FALSE NEIGHBOUR: 'it returns false'. Refute it at one input. -/
def cpuStepsWrong : ChangeSpec := { name := "cpuSteps", fn := fun _ => fun
  | [d1, d2] => { results := [.lit (.bool false)], args := [d1, d2] }
  | _ => none }
def CpuStepsWrongFalsely : Prop := cpuStepsRow.holds Tryz.pinned (OpenSpec.ofChange cpuStepsWrong)

/-- 'perilunelaw05.CpuRuns': WHATEVER THE INPUT: true; the input reads as it did. -/
def cpuRunsSpec : ChangeSpec := { name := "cpuRuns", fn := fun _ => fun
  | [d1, d2, d3] => { results := [.lit (.bool true)], args := [d1, d2, d3] }
  | _ => none }
def cpuRunsRow : OpenClaim := { program := "ytgbmaajfbbilhaagreat", sum := "b1fd4d1039b7032776331f968f2917d183896165bc0bd24908dbaf70609223a5", func := "perilune/perilunelaw05.CpuRuns", spec := "cpuRuns", unfollowed := true, recurses := true, apart := false }
def CpuRunsSaid : Prop := cpuRunsRow.holds Tryz.pinned (OpenSpec.ofChange cpuRunsSpec)

/-- ITS FALSE NEIGHBOUR: 'it returns false'. Refute it at one input. -/
def cpuRunsWrong : ChangeSpec := { name := "cpuRuns", fn := fun _ => fun
  | [d1, d2, d3] => { results := [.lit (.bool false)], args := [d1, d2, d3] }
  | _ => none }
def CpuRunsWrongFalsely : Prop := cpuRunsRow.holds Tryz.pinned (OpenSpec.ofChange cpuRunsWrong)

/-- 'perilunelaw05.CpuKnown': WHATEVER THE INPUT: true; the input reads as it did. -/
def cpuKnownSpec : ChangeSpec := { name := "cpuKnown", fn := fun _ => fun
  | [] => { results := [.lit (.bool true)], args := [] }
  | _ => none }
def cpuKnownRow : OpenClaim := { program := "ytgbmaajfbbilhaagreat", sum := "b1fd4d1039b7032776331f968f2917d183896165bc0bd24908dbaf70609223a5", func := "perilune/perilunelaw05.CpuKnown", spec := "cpuKnown", unfollowed := true, recurses := true, apart := false }
def CpuKnownSaid : Prop := cpuKnownRow.holds Tryz.pinned (OpenSpec.ofChange cpuKnownSpec)

/-- ITS FALSE NEIGHBOUR: 'it returns false'. Refute it at one input. -/
def cpuKnownWrong : ChangeSpec := { name := "cpuKnown", fn := fun _ => fun
  | [] => { results := [.lit (.bool false)], args := [] }
  | _ => none }
def CpuKnownWrongFalsely : Prop := cpuKnownRow.holds Tryz.pinned (OpenSpec.ofChange cpuKnownWrong)

/-- 'perilunelaw08.MachinePlays': WHATEVER THE INPUT: true; the input reads as it did. -/
def machinePlaysSpec : ChangeSpec := { name := "machinePlays", fn := fun _ => fun
  | [d1, d2, d3] => { results := [.lit (.bool true)], args := [d1, d2, d3] }
  | _ => none }
def machinePlaysRow : OpenClaim := { program := "ytgbmaajfbbilhaagreat", sum := "b1fd4d1039b7032776331f968f2917d183896165bc0bd24908dbaf70609223a5", func := "perilune/perilunelaw08.MachinePlays", spec := "machinePlays", unfollowed := true, recurses := true, apart := false }
def MachinePlaysSaid : Prop := machinePlaysRow.holds Tryz.pinned (OpenSpec.ofChange machinePlaysSpec)

/-- ITS FALSE NEIGHBOUR: 'it returns false'. Refute it at one input. -/
def machinePlaysWrong : ChangeSpec := { name := "machinePlays", fn := fun _ => fun
  | [d1, d2, d3] => { results := [.lit (.bool false)], args := [d1, d2, d3] }
  | _ => none }
def MachinePlaysWrongFalsely : Prop := machinePlaysRow.holds Tryz.pinned (OpenSpec.ofChange machinePlaysWrong)

/-- 'perilunelaw08.MachineNil': WHATEVER THE INPUT: true; the input reads as it did. -/
def machineNilSpec : ChangeSpec := { name := "machineNil", fn := fun _ => fun
  | [d1, d2, d3] => { results := [.lit (.bool true)], args := [d1, d2, d3] }
  | _ => none }
def machineNilRow : OpenClaim := { program := "ytgbmaajfbbilhaagreat", sum := "b1fd4d1039b7032776331f968f2917d183896165bc0bd24908dbaf70609223a5", func := "perilune/perilunelaw08.MachineNil", spec := "machineNil", unfollowed := true, recurses := true, apart := false }
def MachineNilSaid : Prop := machineNilRow.holds Tryz.pinned (OpenSpec.ofChange machineNilSpec)

/-- ITS FALSE NEIGHBOUR: 'it returns false'. Refute it at one input. -/
def machineNilWrong : ChangeSpec := { name := "machineNil", fn := fun _ => fun
  | [d1, d2, d3] => { results := [.lit (.bool false)], args := [d1, d2, d3] }
  | _ => none }
def MachineNilWrongFalsely : Prop := machineNilRow.holds Tryz.pinned (OpenSpec.ofChange machineNilWrong)

/-- 'perilunelaw08.MachineRupts': WHATEVER THE INPUT: true; the input reads as it did. -/
def machineRuptsSpec : ChangeSpec := { name := "machineRupts", fn := fun _ => fun
  | [d1, d2, d3] => { results := [.lit (.bool true)], args := [d1, d2, d3] }
  | _ => none }
def machineRuptsRow : OpenClaim := { program := "ytgbmaajfbbilhaagreat", sum := "b1fd4d1039b7032776331f968f2917d183896165bc0bd24908dbaf70609223a5", func := "perilune/perilunelaw08.MachineRupts", spec := "machineRupts", unfollowed := true, recurses := true, apart := false }
def MachineRuptsSaid : Prop := machineRuptsRow.holds Tryz.pinned (OpenSpec.ofChange machineRuptsSpec)

/-- ITS FALSE NEIGHBOUR: 'it returns false'. Refute it at one input. -/
def machineRuptsWrong : ChangeSpec := { name := "machineRupts", fn := fun _ => fun
  | [d1, d2, d3] => { results := [.lit (.bool false)], args := [d1, d2, d3] }
  | _ => none }
def MachineRuptsWrongFalsely : Prop := machineRuptsRow.holds Tryz.pinned (OpenSpec.ofChange machineRuptsWrong)

/-- 'perilunelaw08.MachineParity': WHATEVER THE INPUT: true; the input reads as it did. -/
def machineParitySpec : ChangeSpec := { name := "machineParity", fn := fun _ => fun
  | [d1, d2, d3] => { results := [.lit (.bool true)], args := [d1, d2, d3] }
  | _ => none }
def machineParityRow : OpenClaim := { program := "ytgbmaajfbbilhaagreat", sum := "b1fd4d1039b7032776331f968f2917d183896165bc0bd24908dbaf70609223a5", func := "perilune/perilunelaw08.MachineParity", spec := "machineParity", unfollowed := true, recurses := true, apart := false }
def MachineParitySaid : Prop := machineParityRow.holds Tryz.pinned (OpenSpec.ofChange machineParitySpec)

/-- ITS FALSE NEIGHBOUR: 'it returns false'. Refute it at one input. -/
def machineParityWrong : ChangeSpec := { name := "machineParity", fn := fun _ => fun
  | [d1, d2, d3] => { results := [.lit (.bool false)], args := [d1, d2, d3] }
  | _ => none }
def MachineParityWrongFalsely : Prop := machineParityRow.holds Tryz.pinned (OpenSpec.ofChange machineParityWrong)

/-- 'perilunelaw08.MachineCounts': WHATEVER THE INPUT: true; the input reads as it did. -/
def machineCountsSpec : ChangeSpec := { name := "machineCounts", fn := fun _ => fun
  | [d1, d2] => { results := [.lit (.bool true)], args := [d1, d2] }
  | _ => none }
def machineCountsRow : OpenClaim := { program := "ytgbmaajfbbilhaagreat", sum := "b1fd4d1039b7032776331f968f2917d183896165bc0bd24908dbaf70609223a5", func := "perilune/perilunelaw08.MachineCounts", spec := "machineCounts", unfollowed := true, recurses := true, apart := false }
def MachineCountsSaid : Prop := machineCountsRow.holds Tryz.pinned (OpenSpec.ofChange machineCountsSpec)

/-- ITS FALSE NEIGHBOUR: 'it returns false'. Refute it at one input. -/
def machineCountsWrong : ChangeSpec := { name := "machineCounts", fn := fun _ => fun
  | [d1, d2] => { results := [.lit (.bool false)], args := [d1, d2] }
  | _ => none }
def MachineCountsWrongFalsely : Prop := machineCountsRow.holds Tryz.pinned (OpenSpec.ofChange machineCountsWrong)

/-- 'perilunelaw08.MachineSteps': WHATEVER THE INPUT: true; the input reads as it did. -/
def machineStepsSpec : ChangeSpec := { name := "machineSteps", fn := fun _ => fun
  | [d1, d2, d3] => { results := [.lit (.bool true)], args := [d1, d2, d3] }
  | _ => none }
def machineStepsRow : OpenClaim := { program := "ytgbmaajfbbilhaagreat", sum := "b1fd4d1039b7032776331f968f2917d183896165bc0bd24908dbaf70609223a5", func := "perilune/perilunelaw08.MachineSteps", spec := "machineSteps", unfollowed := true, recurses := true, apart := false }
def MachineStepsSaid : Prop := machineStepsRow.holds Tryz.pinned (OpenSpec.ofChange machineStepsSpec)

/-- ITS FALSE NEIGHBOUR: 'it returns false'. Refute it at one input. -/
def machineStepsWrong : ChangeSpec := { name := "machineSteps", fn := fun _ => fun
  | [d1, d2, d3] => { results := [.lit (.bool false)], args := [d1, d2, d3] }
  | _ => none }
def MachineStepsWrongFalsely : Prop := machineStepsRow.holds Tryz.pinned (OpenSpec.ofChange machineStepsWrong)

/-- 'perilunelaw08.MachineAlarms': WHATEVER THE INPUT: true; the input reads as it did. -/
def machineAlarmsSpec : ChangeSpec := { name := "machineAlarms", fn := fun _ => fun
  | [] => { results := [.lit (.bool true)], args := [] }
  | _ => none }
def machineAlarmsRow : OpenClaim := { program := "ytgbmaajfbbilhaagreat", sum := "b1fd4d1039b7032776331f968f2917d183896165bc0bd24908dbaf70609223a5", func := "perilune/perilunelaw08.MachineAlarms", spec := "machineAlarms", unfollowed := true, recurses := true, apart := false }
def MachineAlarmsSaid : Prop := machineAlarmsRow.holds Tryz.pinned (OpenSpec.ofChange machineAlarmsSpec)

/-- ITS FALSE NEIGHBOUR: 'it returns false'. Refute it at one input. -/
def machineAlarmsWrong : ChangeSpec := { name := "machineAlarms", fn := fun _ => fun
  | [] => { results := [.lit (.bool false)], args := [] }
  | _ => none }
def MachineAlarmsWrongFalsely : Prop := machineAlarmsRow.holds Tryz.pinned (OpenSpec.ofChange machineAlarmsWrong)

/-- 'perilunelaw08.MachineKnown': WHATEVER THE INPUT: true; the input reads as it did. -/
def machineKnownSpec : ChangeSpec := { name := "machineKnown", fn := fun _ => fun
  | [] => { results := [.lit (.bool true)], args := [] }
  | _ => none }
def machineKnownRow : OpenClaim := { program := "ytgbmaajfbbilhaagreat", sum := "b1fd4d1039b7032776331f968f2917d183896165bc0bd24908dbaf70609223a5", func := "perilune/perilunelaw08.MachineKnown", spec := "machineKnown", unfollowed := true, recurses := true, apart := false }
def MachineKnownSaid : Prop := machineKnownRow.holds Tryz.pinned (OpenSpec.ofChange machineKnownSpec)

/-- ITS FALSE NEIGHBOUR: 'it returns false'. Refute it at one input. -/
def machineKnownWrong : ChangeSpec := { name := "machineKnown", fn := fun _ => fun
  | [] => { results := [.lit (.bool false)], args := [] }
  | _ => none }
def MachineKnownWrongFalsely : Prop := machineKnownRow.holds Tryz.pinned (OpenSpec.ofChange machineKnownWrong)

/- THE SECOND FORM. 'bulk': how many values and letters a reading holds, each counted each time it is reached (what is shared counts as often as it is met; a slice's spare places count too). A statement '..UptoSaid' is the law's where the arguments, and the package variables that the reading takes, are together of bulk at most 1048576: NARROWER than '..Said'. Prove '..Said' where nothing that the law and all that it calls make is longer than what came in: it says more and counts as full. Else prove '..UptoSaid'. A law counts once. -/
mutual
def uptoBulk {H : Type} : DataW H → Nat
  | .lit (.string bytes) => bytes.length + 1
  | .lit _ => 1
  | .nil => 1
  | .ptr d => uptoBulk d + 1
  | .slice elems spare => uptoBulkAll elems + uptoBulkAll spare + 1
  | .agg parts => uptoBulkAll parts + 1
  | .iface _ d => uptoBulk d + 1
  | .map entries => uptoBulkEntries entries + 1
  | .held _ => 1
def uptoBulkAll {H : Type} : List (DataW H) → Nat
  | [] => 0
  | d :: r => uptoBulk d + uptoBulkAll r
def uptoBulkEntries {H : Type} : List (Lit × DataW H) → Nat
  | [] => 0
  | x :: r => uptoBulkEntry x + uptoBulkEntries r
def uptoBulkEntry {H : Type} : Lit × DataW H → Nat
  | (.string bytes, d) => bytes.length + uptoBulk d + 1
  | (_, d) => uptoBulk d + 1
 end
def uptoSmall : (H : Type) → List (DataW H) → Bool := fun _ ds => decide (uptoBulkAll ds ≤ 1048576)
def OpenSpec.upto (s : _root_.Go.ChangeSpec) : _root_.Go.OpenSpec := { _root_.Go.OpenSpec.ofChange s with cond := some uptoSmall }

/-- 'perilunelaw05.CpuSteps', WHERE WHAT IT READS IS OF BULK AT MOST 1048576: true; the input reads as it did. -/
def cpuStepsUptoRow : OpenClaim := { program := "ytgbmaajfbbilhaagreat", sum := "b1fd4d1039b7032776331f968f2917d183896165bc0bd24908dbaf70609223a5", func := "perilune/perilunelaw05.CpuSteps", spec := "cpuSteps", unfollowed := true, recurses := true, apart := false, narrowed := true }
def CpuStepsUptoSaid : Prop := cpuStepsUptoRow.holds Tryz.pinned (OpenSpec.upto cpuStepsSpec)

/-- 'perilunelaw05.CpuRuns', WHERE WHAT IT READS IS OF BULK AT MOST 1048576: true; the input reads as it did. -/
def cpuRunsUptoRow : OpenClaim := { program := "ytgbmaajfbbilhaagreat", sum := "b1fd4d1039b7032776331f968f2917d183896165bc0bd24908dbaf70609223a5", func := "perilune/perilunelaw05.CpuRuns", spec := "cpuRuns", unfollowed := true, recurses := true, apart := false, narrowed := true }
def CpuRunsUptoSaid : Prop := cpuRunsUptoRow.holds Tryz.pinned (OpenSpec.upto cpuRunsSpec)

/-- 'perilunelaw05.CpuKnown', WHERE WHAT IT READS IS OF BULK AT MOST 1048576: true; the input reads as it did. -/
def cpuKnownUptoRow : OpenClaim := { program := "ytgbmaajfbbilhaagreat", sum := "b1fd4d1039b7032776331f968f2917d183896165bc0bd24908dbaf70609223a5", func := "perilune/perilunelaw05.CpuKnown", spec := "cpuKnown", unfollowed := true, recurses := true, apart := false, narrowed := true }
def CpuKnownUptoSaid : Prop := cpuKnownUptoRow.holds Tryz.pinned (OpenSpec.upto cpuKnownSpec)

/-- 'perilunelaw08.MachinePlays', WHERE WHAT IT READS IS OF BULK AT MOST 1048576: true; the input reads as it did. -/
def machinePlaysUptoRow : OpenClaim := { program := "ytgbmaajfbbilhaagreat", sum := "b1fd4d1039b7032776331f968f2917d183896165bc0bd24908dbaf70609223a5", func := "perilune/perilunelaw08.MachinePlays", spec := "machinePlays", unfollowed := true, recurses := true, apart := false, narrowed := true }
def MachinePlaysUptoSaid : Prop := machinePlaysUptoRow.holds Tryz.pinned (OpenSpec.upto machinePlaysSpec)

/-- 'perilunelaw08.MachineNil', WHERE WHAT IT READS IS OF BULK AT MOST 1048576: true; the input reads as it did. -/
def machineNilUptoRow : OpenClaim := { program := "ytgbmaajfbbilhaagreat", sum := "b1fd4d1039b7032776331f968f2917d183896165bc0bd24908dbaf70609223a5", func := "perilune/perilunelaw08.MachineNil", spec := "machineNil", unfollowed := true, recurses := true, apart := false, narrowed := true }
def MachineNilUptoSaid : Prop := machineNilUptoRow.holds Tryz.pinned (OpenSpec.upto machineNilSpec)

/-- 'perilunelaw08.MachineRupts', WHERE WHAT IT READS IS OF BULK AT MOST 1048576: true; the input reads as it did. -/
def machineRuptsUptoRow : OpenClaim := { program := "ytgbmaajfbbilhaagreat", sum := "b1fd4d1039b7032776331f968f2917d183896165bc0bd24908dbaf70609223a5", func := "perilune/perilunelaw08.MachineRupts", spec := "machineRupts", unfollowed := true, recurses := true, apart := false, narrowed := true }
def MachineRuptsUptoSaid : Prop := machineRuptsUptoRow.holds Tryz.pinned (OpenSpec.upto machineRuptsSpec)

/-- 'perilunelaw08.MachineParity', WHERE WHAT IT READS IS OF BULK AT MOST 1048576: true; the input reads as it did. -/
def machineParityUptoRow : OpenClaim := { program := "ytgbmaajfbbilhaagreat", sum := "b1fd4d1039b7032776331f968f2917d183896165bc0bd24908dbaf70609223a5", func := "perilune/perilunelaw08.MachineParity", spec := "machineParity", unfollowed := true, recurses := true, apart := false, narrowed := true }
def MachineParityUptoSaid : Prop := machineParityUptoRow.holds Tryz.pinned (OpenSpec.upto machineParitySpec)

/-- 'perilunelaw08.MachineCounts', WHERE WHAT IT READS IS OF BULK AT MOST 1048576: true; the input reads as it did. -/
def machineCountsUptoRow : OpenClaim := { program := "ytgbmaajfbbilhaagreat", sum := "b1fd4d1039b7032776331f968f2917d183896165bc0bd24908dbaf70609223a5", func := "perilune/perilunelaw08.MachineCounts", spec := "machineCounts", unfollowed := true, recurses := true, apart := false, narrowed := true }
def MachineCountsUptoSaid : Prop := machineCountsUptoRow.holds Tryz.pinned (OpenSpec.upto machineCountsSpec)

/-- 'perilunelaw08.MachineSteps', WHERE WHAT IT READS IS OF BULK AT MOST 1048576: true; the input reads as it did. -/
def machineStepsUptoRow : OpenClaim := { program := "ytgbmaajfbbilhaagreat", sum := "b1fd4d1039b7032776331f968f2917d183896165bc0bd24908dbaf70609223a5", func := "perilune/perilunelaw08.MachineSteps", spec := "machineSteps", unfollowed := true, recurses := true, apart := false, narrowed := true }
def MachineStepsUptoSaid : Prop := machineStepsUptoRow.holds Tryz.pinned (OpenSpec.upto machineStepsSpec)

/-- 'perilunelaw08.MachineAlarms', WHERE WHAT IT READS IS OF BULK AT MOST 1048576: true; the input reads as it did. -/
def machineAlarmsUptoRow : OpenClaim := { program := "ytgbmaajfbbilhaagreat", sum := "b1fd4d1039b7032776331f968f2917d183896165bc0bd24908dbaf70609223a5", func := "perilune/perilunelaw08.MachineAlarms", spec := "machineAlarms", unfollowed := true, recurses := true, apart := false, narrowed := true }
def MachineAlarmsUptoSaid : Prop := machineAlarmsUptoRow.holds Tryz.pinned (OpenSpec.upto machineAlarmsSpec)

/-- 'perilunelaw08.MachineKnown', WHERE WHAT IT READS IS OF BULK AT MOST 1048576: true; the input reads as it did. -/
def machineKnownUptoRow : OpenClaim := { program := "ytgbmaajfbbilhaagreat", sum := "b1fd4d1039b7032776331f968f2917d183896165bc0bd24908dbaf70609223a5", func := "perilune/perilunelaw08.MachineKnown", spec := "machineKnown", unfollowed := true, recurses := true, apart := false, narrowed := true }
def MachineKnownUptoSaid : Prop := machineKnownUptoRow.holds Tryz.pinned (OpenSpec.upto machineKnownSpec)

end Rows
end Go.Proofs.YtgbmaajfbbilhaaGreat
