/-
  No cell of these rows narrows 'for every input' (looked for: loops, veiled, ifaces, maps, wideKeys, modest, calm, conditions, laid).
  DERIVED. THE GIVEN ROWS OF THIS SEAT. 10 by the template 'for every input the law returns true; each argument reads behind the call as it read before'; 0 by the template 'total and deterministic' (their statements: YthfobpkdloejfaaGreatTotals.lean).
  GIVEN WITH THE SEED: the statements are not yours to turn. If you find one false, say at which input.
  Laid BY PROGRAM, IN A SANDBOX (cutbox-rows.mjs): the forced cells as the released guide's own fill.sh prints them over the translation cb2f865efd9166e2… (all of the seat's roots in one cut). By AI agents, Wed Nov 11 2026. No macro, syntax, notation, axiom, sorry.
-/
import Derived.Test.YthfobpkdloejfaaGreatChecked
import GoSem.Claim
import GoSem.ClaimJoined
import GoSem.ClaimMapViews
import Derived.JoinedTies
import Derived.KernelRfl
namespace Go.Proofs.YthfobpkdloejfaaGreat
/- THE CELL 'sum', in the pinned program and in every row, IS THE sha256 OF THE DUMP (.gsa) THAT YthfobpkdloejfaaGreatProg.lean LOADS. Nothing in Lean hashes anything: it is a label: what it is worth is what the hold of that sum in a sandbox is worth. -/
noncomputable def Tryz.pinned : Pinned := { name := "ythfobpkdloejfaagreat", sum := "cb2f865efd9166e2dcf45084471bb0f6773eb9a1e68ef27f903111216284cb7c", checked := Tryz.checked }
namespace Rows
def none {H : Type} : Left H := { results := [], args := [] }

/-- 'perilunelaw05.CpuLoads': WHATEVER THE INPUT: true; the input reads as it did. -/
def cpuLoadsSpec : ChangeSpec := { name := "cpuLoads", fn := fun _ => fun
  | [d1, d2, d3] => { results := [.lit (.bool true)], args := [d1, d2, d3] }
  | _ => none }
def cpuLoadsRow : OpenClaim := { program := "ythfobpkdloejfaagreat", sum := "cb2f865efd9166e2dcf45084471bb0f6773eb9a1e68ef27f903111216284cb7c", func := "perilune/perilunelaw05.CpuLoads", spec := "cpuLoads", unfollowed := true, recurses := true, apart := false }
def CpuLoadsSaid : Prop := cpuLoadsRow.holds Tryz.pinned (OpenSpec.ofChange cpuLoadsSpec)

/-- ITS FALSE NEIGHBOUR: 'it returns false'. Refute it at one input. -/
def cpuLoadsWrong : ChangeSpec := { name := "cpuLoads", fn := fun _ => fun
  | [d1, d2, d3] => { results := [.lit (.bool false)], args := [d1, d2, d3] }
  | _ => none }
def CpuLoadsWrongFalsely : Prop := cpuLoadsRow.holds Tryz.pinned (OpenSpec.ofChange cpuLoadsWrong)

/-- 'perilunelaw05.CpuSteps': WHATEVER THE INPUT: true; the input reads as it did. -/
def cpuStepsSpec : ChangeSpec := { name := "cpuSteps", fn := fun _ => fun
  | [d1, d2] => { results := [.lit (.bool true)], args := [d1, d2] }
  | _ => none }
def cpuStepsRow : OpenClaim := { program := "ythfobpkdloejfaagreat", sum := "cb2f865efd9166e2dcf45084471bb0f6773eb9a1e68ef27f903111216284cb7c", func := "perilune/perilunelaw05.CpuSteps", spec := "cpuSteps", unfollowed := true, recurses := true, apart := false }
def CpuStepsSaid : Prop := cpuStepsRow.holds Tryz.pinned (OpenSpec.ofChange cpuStepsSpec)

/-- ITS FALSE NEIGHBOUR: 'it returns false'. Refute it at one input. -/
def cpuStepsWrong : ChangeSpec := { name := "cpuSteps", fn := fun _ => fun
  | [d1, d2] => { results := [.lit (.bool false)], args := [d1, d2] }
  | _ => none }
def CpuStepsWrongFalsely : Prop := cpuStepsRow.holds Tryz.pinned (OpenSpec.ofChange cpuStepsWrong)

/-- 'perilunelaw05.CpuArith': WHATEVER THE INPUT: true; the input reads as it did. -/
def cpuArithSpec : ChangeSpec := { name := "cpuArith", fn := fun _ => fun
  | [d1, d2, d3] => { results := [.lit (.bool true)], args := [d1, d2, d3] }
  | _ => none }
def cpuArithRow : OpenClaim := { program := "ythfobpkdloejfaagreat", sum := "cb2f865efd9166e2dcf45084471bb0f6773eb9a1e68ef27f903111216284cb7c", func := "perilune/perilunelaw05.CpuArith", spec := "cpuArith", unfollowed := true, recurses := true, apart := false }
def CpuArithSaid : Prop := cpuArithRow.holds Tryz.pinned (OpenSpec.ofChange cpuArithSpec)

/-- ITS FALSE NEIGHBOUR: 'it returns false'. Refute it at one input. -/
def cpuArithWrong : ChangeSpec := { name := "cpuArith", fn := fun _ => fun
  | [d1, d2, d3] => { results := [.lit (.bool false)], args := [d1, d2, d3] }
  | _ => none }
def CpuArithWrongFalsely : Prop := cpuArithRow.holds Tryz.pinned (OpenSpec.ofChange cpuArithWrong)

/-- 'perilunelaw05.CpuRuns': WHATEVER THE INPUT: true; the input reads as it did. -/
def cpuRunsSpec : ChangeSpec := { name := "cpuRuns", fn := fun _ => fun
  | [d1, d2, d3] => { results := [.lit (.bool true)], args := [d1, d2, d3] }
  | _ => none }
def cpuRunsRow : OpenClaim := { program := "ythfobpkdloejfaagreat", sum := "cb2f865efd9166e2dcf45084471bb0f6773eb9a1e68ef27f903111216284cb7c", func := "perilune/perilunelaw05.CpuRuns", spec := "cpuRuns", unfollowed := true, recurses := true, apart := false }
def CpuRunsSaid : Prop := cpuRunsRow.holds Tryz.pinned (OpenSpec.ofChange cpuRunsSpec)

/-- ITS FALSE NEIGHBOUR: 'it returns false'. Refute it at one input. -/
def cpuRunsWrong : ChangeSpec := { name := "cpuRuns", fn := fun _ => fun
  | [d1, d2, d3] => { results := [.lit (.bool false)], args := [d1, d2, d3] }
  | _ => none }
def CpuRunsWrongFalsely : Prop := cpuRunsRow.holds Tryz.pinned (OpenSpec.ofChange cpuRunsWrong)

/-- 'perilunelaw05.CpuProducts': WHATEVER THE INPUT: true; the input reads as it did. -/
def cpuProductsSpec : ChangeSpec := { name := "cpuProducts", fn := fun _ => fun
  | [d1, d2, d3] => { results := [.lit (.bool true)], args := [d1, d2, d3] }
  | _ => none }
def cpuProductsRow : OpenClaim := { program := "ythfobpkdloejfaagreat", sum := "cb2f865efd9166e2dcf45084471bb0f6773eb9a1e68ef27f903111216284cb7c", func := "perilune/perilunelaw05.CpuProducts", spec := "cpuProducts", unfollowed := true, recurses := true, apart := false }
def CpuProductsSaid : Prop := cpuProductsRow.holds Tryz.pinned (OpenSpec.ofChange cpuProductsSpec)

/-- ITS FALSE NEIGHBOUR: 'it returns false'. Refute it at one input. -/
def cpuProductsWrong : ChangeSpec := { name := "cpuProducts", fn := fun _ => fun
  | [d1, d2, d3] => { results := [.lit (.bool false)], args := [d1, d2, d3] }
  | _ => none }
def CpuProductsWrongFalsely : Prop := cpuProductsRow.holds Tryz.pinned (OpenSpec.ofChange cpuProductsWrong)

/-- 'perilunelaw05.CpuLocal': WHATEVER THE INPUT: true; the input reads as it did. -/
def cpuLocalSpec : ChangeSpec := { name := "cpuLocal", fn := fun _ => fun
  | [d1, d2, d3] => { results := [.lit (.bool true)], args := [d1, d2, d3] }
  | _ => none }
def cpuLocalRow : OpenClaim := { program := "ythfobpkdloejfaagreat", sum := "cb2f865efd9166e2dcf45084471bb0f6773eb9a1e68ef27f903111216284cb7c", func := "perilune/perilunelaw05.CpuLocal", spec := "cpuLocal", unfollowed := true, recurses := true, apart := false }
def CpuLocalSaid : Prop := cpuLocalRow.holds Tryz.pinned (OpenSpec.ofChange cpuLocalSpec)

/-- ITS FALSE NEIGHBOUR: 'it returns false'. Refute it at one input. -/
def cpuLocalWrong : ChangeSpec := { name := "cpuLocal", fn := fun _ => fun
  | [d1, d2, d3] => { results := [.lit (.bool false)], args := [d1, d2, d3] }
  | _ => none }
def CpuLocalWrongFalsely : Prop := cpuLocalRow.holds Tryz.pinned (OpenSpec.ofChange cpuLocalWrong)

/-- 'perilunelaw05.CpuCalls': WHATEVER THE INPUT: true; the input reads as it did. -/
def cpuCallsSpec : ChangeSpec := { name := "cpuCalls", fn := fun _ => fun
  | [d1, d2] => { results := [.lit (.bool true)], args := [d1, d2] }
  | _ => none }
def cpuCallsRow : OpenClaim := { program := "ythfobpkdloejfaagreat", sum := "cb2f865efd9166e2dcf45084471bb0f6773eb9a1e68ef27f903111216284cb7c", func := "perilune/perilunelaw05.CpuCalls", spec := "cpuCalls", unfollowed := true, recurses := true, apart := false }
def CpuCallsSaid : Prop := cpuCallsRow.holds Tryz.pinned (OpenSpec.ofChange cpuCallsSpec)

/-- ITS FALSE NEIGHBOUR: 'it returns false'. Refute it at one input. -/
def cpuCallsWrong : ChangeSpec := { name := "cpuCalls", fn := fun _ => fun
  | [d1, d2] => { results := [.lit (.bool false)], args := [d1, d2] }
  | _ => none }
def CpuCallsWrongFalsely : Prop := cpuCallsRow.holds Tryz.pinned (OpenSpec.ofChange cpuCallsWrong)

/-- 'perilunelaw05.CpuDoubles': WHATEVER THE INPUT: true; the input reads as it did. -/
def cpuDoublesSpec : ChangeSpec := { name := "cpuDoubles", fn := fun _ => fun
  | [d] => { results := [.lit (.bool true)], args := [d] }
  | _ => none }
def cpuDoublesRow : OpenClaim := { program := "ythfobpkdloejfaagreat", sum := "cb2f865efd9166e2dcf45084471bb0f6773eb9a1e68ef27f903111216284cb7c", func := "perilune/perilunelaw05.CpuDoubles", spec := "cpuDoubles", unfollowed := true, recurses := true, apart := false }
def CpuDoublesSaid : Prop := cpuDoublesRow.holds Tryz.pinned (OpenSpec.ofChange cpuDoublesSpec)

/-- ITS FALSE NEIGHBOUR: 'it returns false'. Refute it at one input. -/
def cpuDoublesWrong : ChangeSpec := { name := "cpuDoubles", fn := fun _ => fun
  | [d] => { results := [.lit (.bool false)], args := [d] }
  | _ => none }
def CpuDoublesWrongFalsely : Prop := cpuDoublesRow.holds Tryz.pinned (OpenSpec.ofChange cpuDoublesWrong)

/-- 'perilunelaw05.CpuKnown': WHATEVER THE INPUT: true; the input reads as it did. -/
def cpuKnownSpec : ChangeSpec := { name := "cpuKnown", fn := fun _ => fun
  | [] => { results := [.lit (.bool true)], args := [] }
  | _ => none }
def cpuKnownRow : OpenClaim := { program := "ythfobpkdloejfaagreat", sum := "cb2f865efd9166e2dcf45084471bb0f6773eb9a1e68ef27f903111216284cb7c", func := "perilune/perilunelaw05.CpuKnown", spec := "cpuKnown", unfollowed := true, recurses := true, apart := false }
def CpuKnownSaid : Prop := cpuKnownRow.holds Tryz.pinned (OpenSpec.ofChange cpuKnownSpec)

/-- ITS FALSE NEIGHBOUR: 'it returns false'. Refute it at one input. -/
def cpuKnownWrong : ChangeSpec := { name := "cpuKnown", fn := fun _ => fun
  | [] => { results := [.lit (.bool false)], args := [] }
  | _ => none }
def CpuKnownWrongFalsely : Prop := cpuKnownRow.holds Tryz.pinned (OpenSpec.ofChange cpuKnownWrong)

/-- 'perilunelaw07.InterruptReturns': WHATEVER THE INPUT: true; the input reads as it did. -/
def interruptReturnsSpec : ChangeSpec := { name := "interruptReturns", fn := fun _ => fun
  | [d1, d2, d3] => { results := [.lit (.bool true)], args := [d1, d2, d3] }
  | _ => none }
def interruptReturnsRow : OpenClaim := { program := "ythfobpkdloejfaagreat", sum := "cb2f865efd9166e2dcf45084471bb0f6773eb9a1e68ef27f903111216284cb7c", func := "perilune/perilunelaw07.InterruptReturns", spec := "interruptReturns", unfollowed := true, recurses := true, apart := false }
def InterruptReturnsSaid : Prop := interruptReturnsRow.holds Tryz.pinned (OpenSpec.ofChange interruptReturnsSpec)

/-- ITS FALSE NEIGHBOUR: 'it returns false'. Refute it at one input. -/
def interruptReturnsWrong : ChangeSpec := { name := "interruptReturns", fn := fun _ => fun
  | [d1, d2, d3] => { results := [.lit (.bool false)], args := [d1, d2, d3] }
  | _ => none }
def InterruptReturnsWrongFalsely : Prop := interruptReturnsRow.holds Tryz.pinned (OpenSpec.ofChange interruptReturnsWrong)

/- THE SECOND FORM. 'bulk': how many values and letters a reading holds, each counted each time it is reached (what is shared counts as often as it is met; a slice's spare places count too). A statement '..UptoSaid' is the law's where the arguments, and the package variables that the reading takes, are together of bulk at most 1048576: NARROWER than '..Said'. Prove '..Said' where nothing that the law and all that it calls make is longer than what came in: it says more and counts as full. Else prove '..UptoSaid'. A law counts once. -/
mutual
def uptoBulk {H : Type} : DataW H → Nat
  | .lit (.string bytes) => bytes.length + 1
  | .lit _ => 1
  | .nil => 1
  | .ptr d => uptoBulk d + 1
  | .slice elems spare => uptoBulkAll elems + uptoBulkAll spare + 1
  | .agg parts => uptoBulkAll parts + 1
  | .iface _ d => uptoBulk d + 1
  | .map entries => uptoBulkEntries entries + 1
  | .held _ => 1
def uptoBulkAll {H : Type} : List (DataW H) → Nat
  | [] => 0
  | d :: r => uptoBulk d + uptoBulkAll r
def uptoBulkEntries {H : Type} : List (Lit × DataW H) → Nat
  | [] => 0
  | x :: r => uptoBulkEntry x + uptoBulkEntries r
def uptoBulkEntry {H : Type} : Lit × DataW H → Nat
  | (.string bytes, d) => bytes.length + uptoBulk d + 1
  | (_, d) => uptoBulk d + 1
 end
def uptoSmall : (H : Type) → List (DataW H) → Bool := fun _ ds => decide (uptoBulkAll ds ≤ 1048576)
def OpenSpec.upto (s : _root_.Go.ChangeSpec) : _root_.Go.OpenSpec := { _root_.Go.OpenSpec.ofChange s with cond := some uptoSmall }

/-- 'perilunelaw05.CpuLoads', WHERE WHAT IT READS IS OF BULK AT MOST 1048576: true; the input reads as it did. -/
def cpuLoadsUptoRow : OpenClaim := { program := "ythfobpkdloejfaagreat", sum := "cb2f865efd9166e2dcf45084471bb0f6773eb9a1e68ef27f903111216284cb7c", func := "perilune/perilunelaw05.CpuLoads", spec := "cpuLoads", unfollowed := true, recurses := true, apart := false, narrowed := true }
def CpuLoadsUptoSaid : Prop := cpuLoadsUptoRow.holds Tryz.pinned (OpenSpec.upto cpuLoadsSpec)

/-- 'perilunelaw05.CpuSteps', WHERE WHAT IT READS IS OF BULK AT MOST 1048576: true; the input reads as it did. -/
def cpuStepsUptoRow : OpenClaim := { program := "ythfobpkdloejfaagreat", sum := "cb2f865efd9166e2dcf45084471bb0f6773eb9a1e68ef27f903111216284cb7c", func := "perilune/perilunelaw05.CpuSteps", spec := "cpuSteps", unfollowed := true, recurses := true, apart := false, narrowed := true }
def CpuStepsUptoSaid : Prop := cpuStepsUptoRow.holds Tryz.pinned (OpenSpec.upto cpuStepsSpec)

/-- 'perilunelaw05.CpuArith', WHERE WHAT IT READS IS OF BULK AT MOST 1048576: true; the input reads as it did. -/
def cpuArithUptoRow : OpenClaim := { program := "ythfobpkdloejfaagreat", sum := "cb2f865efd9166e2dcf45084471bb0f6773eb9a1e68ef27f903111216284cb7c", func := "perilune/perilunelaw05.CpuArith", spec := "cpuArith", unfollowed := true, recurses := true, apart := false, narrowed := true }
def CpuArithUptoSaid : Prop := cpuArithUptoRow.holds Tryz.pinned (OpenSpec.upto cpuArithSpec)

/-- 'perilunelaw05.CpuRuns', WHERE WHAT IT READS IS OF BULK AT MOST 1048576: true; the input reads as it did. -/
def cpuRunsUptoRow : OpenClaim := { program := "ythfobpkdloejfaagreat", sum := "cb2f865efd9166e2dcf45084471bb0f6773eb9a1e68ef27f903111216284cb7c", func := "perilune/perilunelaw05.CpuRuns", spec := "cpuRuns", unfollowed := true, recurses := true, apart := false, narrowed := true }
def CpuRunsUptoSaid : Prop := cpuRunsUptoRow.holds Tryz.pinned (OpenSpec.upto cpuRunsSpec)

/-- 'perilunelaw05.CpuProducts', WHERE WHAT IT READS IS OF BULK AT MOST 1048576: true; the input reads as it did. -/
def cpuProductsUptoRow : OpenClaim := { program := "ythfobpkdloejfaagreat", sum := "cb2f865efd9166e2dcf45084471bb0f6773eb9a1e68ef27f903111216284cb7c", func := "perilune/perilunelaw05.CpuProducts", spec := "cpuProducts", unfollowed := true, recurses := true, apart := false, narrowed := true }
def CpuProductsUptoSaid : Prop := cpuProductsUptoRow.holds Tryz.pinned (OpenSpec.upto cpuProductsSpec)

/-- 'perilunelaw05.CpuLocal', WHERE WHAT IT READS IS OF BULK AT MOST 1048576: true; the input reads as it did. -/
def cpuLocalUptoRow : OpenClaim := { program := "ythfobpkdloejfaagreat", sum := "cb2f865efd9166e2dcf45084471bb0f6773eb9a1e68ef27f903111216284cb7c", func := "perilune/perilunelaw05.CpuLocal", spec := "cpuLocal", unfollowed := true, recurses := true, apart := false, narrowed := true }
def CpuLocalUptoSaid : Prop := cpuLocalUptoRow.holds Tryz.pinned (OpenSpec.upto cpuLocalSpec)

/-- 'perilunelaw05.CpuCalls', WHERE WHAT IT READS IS OF BULK AT MOST 1048576: true; the input reads as it did. -/
def cpuCallsUptoRow : OpenClaim := { program := "ythfobpkdloejfaagreat", sum := "cb2f865efd9166e2dcf45084471bb0f6773eb9a1e68ef27f903111216284cb7c", func := "perilune/perilunelaw05.CpuCalls", spec := "cpuCalls", unfollowed := true, recurses := true, apart := false, narrowed := true }
def CpuCallsUptoSaid : Prop := cpuCallsUptoRow.holds Tryz.pinned (OpenSpec.upto cpuCallsSpec)

/-- 'perilunelaw05.CpuDoubles', WHERE WHAT IT READS IS OF BULK AT MOST 1048576: true; the input reads as it did. -/
def cpuDoublesUptoRow : OpenClaim := { program := "ythfobpkdloejfaagreat", sum := "cb2f865efd9166e2dcf45084471bb0f6773eb9a1e68ef27f903111216284cb7c", func := "perilune/perilunelaw05.CpuDoubles", spec := "cpuDoubles", unfollowed := true, recurses := true, apart := false, narrowed := true }
def CpuDoublesUptoSaid : Prop := cpuDoublesUptoRow.holds Tryz.pinned (OpenSpec.upto cpuDoublesSpec)

/-- 'perilunelaw05.CpuKnown', WHERE WHAT IT READS IS OF BULK AT MOST 1048576: true; the input reads as it did. -/
def cpuKnownUptoRow : OpenClaim := { program := "ythfobpkdloejfaagreat", sum := "cb2f865efd9166e2dcf45084471bb0f6773eb9a1e68ef27f903111216284cb7c", func := "perilune/perilunelaw05.CpuKnown", spec := "cpuKnown", unfollowed := true, recurses := true, apart := false, narrowed := true }
def CpuKnownUptoSaid : Prop := cpuKnownUptoRow.holds Tryz.pinned (OpenSpec.upto cpuKnownSpec)

/-- 'perilunelaw07.InterruptReturns', WHERE WHAT IT READS IS OF BULK AT MOST 1048576: true; the input reads as it did. -/
def interruptReturnsUptoRow : OpenClaim := { program := "ythfobpkdloejfaagreat", sum := "cb2f865efd9166e2dcf45084471bb0f6773eb9a1e68ef27f903111216284cb7c", func := "perilune/perilunelaw07.InterruptReturns", spec := "interruptReturns", unfollowed := true, recurses := true, apart := false, narrowed := true }
def InterruptReturnsUptoSaid : Prop := interruptReturnsUptoRow.holds Tryz.pinned (OpenSpec.upto interruptReturnsSpec)

end Rows
end Go.Proofs.YthfobpkdloejfaaGreat
