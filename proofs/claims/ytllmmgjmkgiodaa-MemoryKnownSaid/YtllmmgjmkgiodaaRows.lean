/-
  No cell of these rows narrows 'for every input' (looked for: loops, veiled, ifaces, maps, wideKeys, modest, calm, conditions, laid).
  DERIVED. THE GIVEN ROWS OF THIS SEAT. 7 by the template 'for every input the law returns true; each argument reads behind the call as it read before'; 0 by the template 'total and deterministic' (their statements: YtllmmgjmkgiodaaTotals.lean).
  GIVEN WITH THE SEED: the statements are not yours to turn. If you find one false, say at which input.
  Laid BY PROGRAM, IN A SANDBOX (cutbox-rows.mjs): the forced cells as the released guide's own fill.sh prints them over the translation 9fdefe9eced891f8… (all of the seat's roots in one cut). By AI agents, Wed Nov 11 2026. No macro, syntax, notation, axiom, sorry.
-/
import Derived.Test.YtllmmgjmkgiodaaChecked
import GoSem.Claim
import GoSem.ClaimJoined
import GoSem.ClaimMapViews
import Derived.JoinedTies
import Derived.KernelRfl
namespace Go.Proofs.Ytllmmgjmkgiodaa
/- THE CELL 'sum', in the pinned program and in every row, IS THE sha256 OF THE DUMP (.gsa) THAT YtllmmgjmkgiodaaProg.lean LOADS. Nothing in Lean hashes anything: it is a label: what it is worth is what the hold of that sum in a sandbox is worth. -/
noncomputable def Try.pinned : Pinned := { name := "ytllmmgjmkgiodaa", sum := "9fdefe9eced891f8d97523cf79f81326d95e52f0bc0b99d9a7e74f5271a02193", checked := Try.checked }
namespace Rows
def none {H : Type} : Left H := { results := [], args := [] }

/-- 'perilunelaw03.MemoryAddresses': WHATEVER THE INPUT: true; the input reads as it did. -/
def memoryAddressesSpec : ChangeSpec := { name := "memoryAddresses", fn := fun _ => fun
  | [d1, d2] => { results := [.lit (.bool true)], args := [d1, d2] }
  | _ => none }
def memoryAddressesRow : OpenClaim := { program := "ytllmmgjmkgiodaa", sum := "9fdefe9eced891f8d97523cf79f81326d95e52f0bc0b99d9a7e74f5271a02193", func := "perilune/perilunelaw03.MemoryAddresses", spec := "memoryAddresses", apart := false }
def MemoryAddressesSaid : Prop := memoryAddressesRow.holds Try.pinned (OpenSpec.ofChange memoryAddressesSpec)

/-- ITS FALSE NEIGHBOUR: 'it returns false'. Refute it at one input. -/
def memoryAddressesWrong : ChangeSpec := { name := "memoryAddresses", fn := fun _ => fun
  | [d1, d2] => { results := [.lit (.bool false)], args := [d1, d2] }
  | _ => none }
def MemoryAddressesWrongFalsely : Prop := memoryAddressesRow.holds Try.pinned (OpenSpec.ofChange memoryAddressesWrong)

/-- 'perilunelaw03.MemoryReaches': WHATEVER THE INPUT: true; the input reads as it did. -/
def memoryReachesSpec : ChangeSpec := { name := "memoryReaches", fn := fun _ => fun
  | [d1, d2, d3] => { results := [.lit (.bool true)], args := [d1, d2, d3] }
  | _ => none }
def memoryReachesRow : OpenClaim := { program := "ytllmmgjmkgiodaa", sum := "9fdefe9eced891f8d97523cf79f81326d95e52f0bc0b99d9a7e74f5271a02193", func := "perilune/perilunelaw03.MemoryReaches", spec := "memoryReaches", apart := false }
def MemoryReachesSaid : Prop := memoryReachesRow.holds Try.pinned (OpenSpec.ofChange memoryReachesSpec)

/-- ITS FALSE NEIGHBOUR: 'it returns false'. Refute it at one input. -/
def memoryReachesWrong : ChangeSpec := { name := "memoryReaches", fn := fun _ => fun
  | [d1, d2, d3] => { results := [.lit (.bool false)], args := [d1, d2, d3] }
  | _ => none }
def MemoryReachesWrongFalsely : Prop := memoryReachesRow.holds Try.pinned (OpenSpec.ofChange memoryReachesWrong)

/-- 'perilunelaw03.MemoryOperands': WHATEVER THE INPUT: true; the input reads as it did. -/
def memoryOperandsSpec : ChangeSpec := { name := "memoryOperands", fn := fun _ => fun
  | [d1, d2] => { results := [.lit (.bool true)], args := [d1, d2] }
  | _ => none }
def memoryOperandsRow : OpenClaim := { program := "ytllmmgjmkgiodaa", sum := "9fdefe9eced891f8d97523cf79f81326d95e52f0bc0b99d9a7e74f5271a02193", func := "perilune/perilunelaw03.MemoryOperands", spec := "memoryOperands", apart := false }
def MemoryOperandsSaid : Prop := memoryOperandsRow.holds Try.pinned (OpenSpec.ofChange memoryOperandsSpec)

/-- ITS FALSE NEIGHBOUR: 'it returns false'. Refute it at one input. -/
def memoryOperandsWrong : ChangeSpec := { name := "memoryOperands", fn := fun _ => fun
  | [d1, d2] => { results := [.lit (.bool false)], args := [d1, d2] }
  | _ => none }
def MemoryOperandsWrongFalsely : Prop := memoryOperandsRow.holds Try.pinned (OpenSpec.ofChange memoryOperandsWrong)

/-- 'perilunelaw03.MemoryWords': WHATEVER THE INPUT: true; the input reads as it did. -/
def memoryWordsSpec : ChangeSpec := { name := "memoryWords", fn := fun _ => fun
  | [d1, d2, d3] => { results := [.lit (.bool true)], args := [d1, d2, d3] }
  | _ => none }
def memoryWordsRow : OpenClaim := { program := "ytllmmgjmkgiodaa", sum := "9fdefe9eced891f8d97523cf79f81326d95e52f0bc0b99d9a7e74f5271a02193", func := "perilune/perilunelaw03.MemoryWords", spec := "memoryWords", apart := false }
def MemoryWordsSaid : Prop := memoryWordsRow.holds Try.pinned (OpenSpec.ofChange memoryWordsSpec)

/-- ITS FALSE NEIGHBOUR: 'it returns false'. Refute it at one input. -/
def memoryWordsWrong : ChangeSpec := { name := "memoryWords", fn := fun _ => fun
  | [d1, d2, d3] => { results := [.lit (.bool false)], args := [d1, d2, d3] }
  | _ => none }
def MemoryWordsWrongFalsely : Prop := memoryWordsRow.holds Try.pinned (OpenSpec.ofChange memoryWordsWrong)

/-- 'perilunelaw03.MemoryKeeps': WHATEVER THE INPUT: true; the input reads as it did. -/
def memoryKeepsSpec : ChangeSpec := { name := "memoryKeeps", fn := fun _ => fun
  | [d1, d2, d3] => { results := [.lit (.bool true)], args := [d1, d2, d3] }
  | _ => none }
def memoryKeepsRow : OpenClaim := { program := "ytllmmgjmkgiodaa", sum := "9fdefe9eced891f8d97523cf79f81326d95e52f0bc0b99d9a7e74f5271a02193", func := "perilune/perilunelaw03.MemoryKeeps", spec := "memoryKeeps", apart := false }
def MemoryKeepsSaid : Prop := memoryKeepsRow.holds Try.pinned (OpenSpec.ofChange memoryKeepsSpec)

/-- ITS FALSE NEIGHBOUR: 'it returns false'. Refute it at one input. -/
def memoryKeepsWrong : ChangeSpec := { name := "memoryKeeps", fn := fun _ => fun
  | [d1, d2, d3] => { results := [.lit (.bool false)], args := [d1, d2, d3] }
  | _ => none }
def MemoryKeepsWrongFalsely : Prop := memoryKeepsRow.holds Try.pinned (OpenSpec.ofChange memoryKeepsWrong)

/-- 'perilunelaw03.MemoryFixed': WHATEVER THE INPUT: true; the input reads as it did. -/
def memoryFixedSpec : ChangeSpec := { name := "memoryFixed", fn := fun _ => fun
  | [d] => { results := [.lit (.bool true)], args := [d] }
  | _ => none }
def memoryFixedRow : OpenClaim := { program := "ytllmmgjmkgiodaa", sum := "9fdefe9eced891f8d97523cf79f81326d95e52f0bc0b99d9a7e74f5271a02193", func := "perilune/perilunelaw03.MemoryFixed", spec := "memoryFixed", apart := false }
def MemoryFixedSaid : Prop := memoryFixedRow.holds Try.pinned (OpenSpec.ofChange memoryFixedSpec)

/-- ITS FALSE NEIGHBOUR: 'it returns false'. Refute it at one input. -/
def memoryFixedWrong : ChangeSpec := { name := "memoryFixed", fn := fun _ => fun
  | [d] => { results := [.lit (.bool false)], args := [d] }
  | _ => none }
def MemoryFixedWrongFalsely : Prop := memoryFixedRow.holds Try.pinned (OpenSpec.ofChange memoryFixedWrong)

/-- 'perilunelaw03.MemoryKnown': WHATEVER THE INPUT: true; the input reads as it did. -/
def memoryKnownSpec : ChangeSpec := { name := "memoryKnown", fn := fun _ => fun
  | [] => { results := [.lit (.bool true)], args := [] }
  | _ => none }
def memoryKnownRow : OpenClaim := { program := "ytllmmgjmkgiodaa", sum := "9fdefe9eced891f8d97523cf79f81326d95e52f0bc0b99d9a7e74f5271a02193", func := "perilune/perilunelaw03.MemoryKnown", spec := "memoryKnown", apart := false }
def MemoryKnownSaid : Prop := memoryKnownRow.holds Try.pinned (OpenSpec.ofChange memoryKnownSpec)

/-- ITS FALSE NEIGHBOUR: 'it returns false'. Refute it at one input. -/
def memoryKnownWrong : ChangeSpec := { name := "memoryKnown", fn := fun _ => fun
  | [] => { results := [.lit (.bool false)], args := [] }
  | _ => none }
def MemoryKnownWrongFalsely : Prop := memoryKnownRow.holds Try.pinned (OpenSpec.ofChange memoryKnownWrong)

/- THE SECOND FORM. 'bulk': how many values and letters a reading holds, each counted each time it is reached (what is shared counts as often as it is met; a slice's spare places count too). A statement '..UptoSaid' is the law's where the arguments, and the package variables that the reading takes, are together of bulk at most 1048576: NARROWER than '..Said'. Prove '..Said' where nothing that the law and all that it calls make is longer than what came in: it says more and counts as full. Else prove '..UptoSaid'. A law counts once. -/
mutual
def uptoBulk {H : Type} : DataW H → Nat
  | .lit (.string bytes) => bytes.length + 1
  | .lit _ => 1
  | .nil => 1
  | .ptr d => uptoBulk d + 1
  | .slice elems spare => uptoBulkAll elems + uptoBulkAll spare + 1
  | .agg parts => uptoBulkAll parts + 1
  | .iface _ d => uptoBulk d + 1
  | .map entries => uptoBulkEntries entries + 1
  | .held _ => 1
def uptoBulkAll {H : Type} : List (DataW H) → Nat
  | [] => 0
  | d :: r => uptoBulk d + uptoBulkAll r
def uptoBulkEntries {H : Type} : List (Lit × DataW H) → Nat
  | [] => 0
  | x :: r => uptoBulkEntry x + uptoBulkEntries r
def uptoBulkEntry {H : Type} : Lit × DataW H → Nat
  | (.string bytes, d) => bytes.length + uptoBulk d + 1
  | (_, d) => uptoBulk d + 1
 end
def uptoSmall : (H : Type) → List (DataW H) → Bool := fun _ ds => decide (uptoBulkAll ds ≤ 1048576)
def OpenSpec.upto (s : _root_.Go.ChangeSpec) : _root_.Go.OpenSpec := { _root_.Go.OpenSpec.ofChange s with cond := some uptoSmall }

/-- 'perilunelaw03.MemoryAddresses', WHERE WHAT IT READS IS OF BULK AT MOST 1048576: true; the input reads as it did. -/
def memoryAddressesUptoRow : OpenClaim := { program := "ytllmmgjmkgiodaa", sum := "9fdefe9eced891f8d97523cf79f81326d95e52f0bc0b99d9a7e74f5271a02193", func := "perilune/perilunelaw03.MemoryAddresses", spec := "memoryAddresses", apart := false, narrowed := true }
def MemoryAddressesUptoSaid : Prop := memoryAddressesUptoRow.holds Try.pinned (OpenSpec.upto memoryAddressesSpec)

/-- 'perilunelaw03.MemoryReaches', WHERE WHAT IT READS IS OF BULK AT MOST 1048576: true; the input reads as it did. -/
def memoryReachesUptoRow : OpenClaim := { program := "ytllmmgjmkgiodaa", sum := "9fdefe9eced891f8d97523cf79f81326d95e52f0bc0b99d9a7e74f5271a02193", func := "perilune/perilunelaw03.MemoryReaches", spec := "memoryReaches", apart := false, narrowed := true }
def MemoryReachesUptoSaid : Prop := memoryReachesUptoRow.holds Try.pinned (OpenSpec.upto memoryReachesSpec)

/-- 'perilunelaw03.MemoryOperands', WHERE WHAT IT READS IS OF BULK AT MOST 1048576: true; the input reads as it did. -/
def memoryOperandsUptoRow : OpenClaim := { program := "ytllmmgjmkgiodaa", sum := "9fdefe9eced891f8d97523cf79f81326d95e52f0bc0b99d9a7e74f5271a02193", func := "perilune/perilunelaw03.MemoryOperands", spec := "memoryOperands", apart := false, narrowed := true }
def MemoryOperandsUptoSaid : Prop := memoryOperandsUptoRow.holds Try.pinned (OpenSpec.upto memoryOperandsSpec)

/-- 'perilunelaw03.MemoryWords', WHERE WHAT IT READS IS OF BULK AT MOST 1048576: true; the input reads as it did. -/
def memoryWordsUptoRow : OpenClaim := { program := "ytllmmgjmkgiodaa", sum := "9fdefe9eced891f8d97523cf79f81326d95e52f0bc0b99d9a7e74f5271a02193", func := "perilune/perilunelaw03.MemoryWords", spec := "memoryWords", apart := false, narrowed := true }
def MemoryWordsUptoSaid : Prop := memoryWordsUptoRow.holds Try.pinned (OpenSpec.upto memoryWordsSpec)

/-- 'perilunelaw03.MemoryKeeps', WHERE WHAT IT READS IS OF BULK AT MOST 1048576: true; the input reads as it did. -/
def memoryKeepsUptoRow : OpenClaim := { program := "ytllmmgjmkgiodaa", sum := "9fdefe9eced891f8d97523cf79f81326d95e52f0bc0b99d9a7e74f5271a02193", func := "perilune/perilunelaw03.MemoryKeeps", spec := "memoryKeeps", apart := false, narrowed := true }
def MemoryKeepsUptoSaid : Prop := memoryKeepsUptoRow.holds Try.pinned (OpenSpec.upto memoryKeepsSpec)

/-- 'perilunelaw03.MemoryFixed', WHERE WHAT IT READS IS OF BULK AT MOST 1048576: true; the input reads as it did. -/
def memoryFixedUptoRow : OpenClaim := { program := "ytllmmgjmkgiodaa", sum := "9fdefe9eced891f8d97523cf79f81326d95e52f0bc0b99d9a7e74f5271a02193", func := "perilune/perilunelaw03.MemoryFixed", spec := "memoryFixed", apart := false, narrowed := true }
def MemoryFixedUptoSaid : Prop := memoryFixedUptoRow.holds Try.pinned (OpenSpec.upto memoryFixedSpec)

/-- 'perilunelaw03.MemoryKnown', WHERE WHAT IT READS IS OF BULK AT MOST 1048576: true; the input reads as it did. -/
def memoryKnownUptoRow : OpenClaim := { program := "ytllmmgjmkgiodaa", sum := "9fdefe9eced891f8d97523cf79f81326d95e52f0bc0b99d9a7e74f5271a02193", func := "perilune/perilunelaw03.MemoryKnown", spec := "memoryKnown", apart := false, narrowed := true }
def MemoryKnownUptoSaid : Prop := memoryKnownUptoRow.holds Try.pinned (OpenSpec.upto memoryKnownSpec)

end Rows
end Go.Proofs.Ytllmmgjmkgiodaa
