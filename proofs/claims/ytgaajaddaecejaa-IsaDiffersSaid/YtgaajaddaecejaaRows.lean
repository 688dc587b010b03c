/-
  No cell of these rows narrows 'for every input' (looked for: loops, veiled, ifaces, maps, wideKeys, modest, calm, conditions, laid).
  DERIVED. THE GIVEN ROWS OF THIS SEAT. 8 by the template 'for every input the law returns true; each argument reads behind the call as it read before'; 0 by the template 'total and deterministic' (their statements: YtgaajaddaecejaaTotals.lean).
  GIVEN WITH THE SEED: the statements are not yours to turn. If you find one false, say at which input.
  Laid BY PROGRAM, IN A SANDBOX (cutbox-rows.mjs): the forced cells as the released guide's own fill.sh prints them over the translation 6bb4df6a8283faa6… (all of the seat's roots in one cut). By AI agents, Wed Nov 11 2026. No macro, syntax, notation, axiom, sorry.
-/
import Derived.Test.YtgaajaddaecejaaChecked
import GoSem.Claim
import GoSem.ClaimJoined
import GoSem.ClaimMapViews
import Derived.JoinedTies
import Derived.KernelRfl
namespace Go.Proofs.Ytgaajaddaecejaa
/- THE CELL 'sum', in the pinned program and in every row, IS THE sha256 OF THE DUMP (.gsa) THAT YtgaajaddaecejaaProg.lean LOADS. Nothing in Lean hashes anything: it is a label: what it is worth is what the hold of that sum in a sandbox is worth. -/
noncomputable def Try.pinned : Pinned := { name := "ytgaajaddaecejaa", sum := "6bb4df6a8283faa68c2f994e8946fb5bd2c788faa344f0132ed6150b8ba17913", checked := Try.checked }
namespace Rows
def none {H : Type} : Left H := { results := [], args := [] }

/-- 'perilunelaw04.IsaNames': WHATEVER THE INPUT: true; the input reads as it did. -/
def isaNamesSpec : ChangeSpec := { name := "isaNames", fn := fun _ => fun
  | [d1, d2, d3] => { results := [.lit (.bool true)], args := [d1, d2, d3] }
  | _ => none }
def isaNamesRow : OpenClaim := { program := "ytgaajaddaecejaa", sum := "6bb4df6a8283faa68c2f994e8946fb5bd2c788faa344f0132ed6150b8ba17913", func := "perilune/perilunelaw04.IsaNames", spec := "isaNames", apart := false }
def IsaNamesSaid : Prop := isaNamesRow.holds Try.pinned (OpenSpec.ofChange isaNamesSpec)

/-- ITS FALSE NEIGHBOUR: 'it returns false'. Refute it at one input. -/
def isaNamesWrong : ChangeSpec := { name := "isaNames", fn := fun _ => fun
  | [d1, d2, d3] => { results := [.lit (.bool false)], args := [d1, d2, d3] }
  | _ => none }
def IsaNamesWrongFalsely : Prop := isaNamesRow.holds Try.pinned (OpenSpec.ofChange isaNamesWrong)

/-- 'perilunelaw04.IsaEncodes': WHATEVER THE INPUT: true; the input reads as it did. -/
def isaEncodesSpec : ChangeSpec := { name := "isaEncodes", fn := fun _ => fun
  | [d1, d2] => { results := [.lit (.bool true)], args := [d1, d2] }
  | _ => none }
def isaEncodesRow : OpenClaim := { program := "ytgaajaddaecejaa", sum := "6bb4df6a8283faa68c2f994e8946fb5bd2c788faa344f0132ed6150b8ba17913", func := "perilune/perilunelaw04.IsaEncodes", spec := "isaEncodes", apart := false }
def IsaEncodesSaid : Prop := isaEncodesRow.holds Try.pinned (OpenSpec.ofChange isaEncodesSpec)

/-- ITS FALSE NEIGHBOUR: 'it returns false'. Refute it at one input. -/
def isaEncodesWrong : ChangeSpec := { name := "isaEncodes", fn := fun _ => fun
  | [d1, d2] => { results := [.lit (.bool false)], args := [d1, d2] }
  | _ => none }
def IsaEncodesWrongFalsely : Prop := isaEncodesRow.holds Try.pinned (OpenSpec.ofChange isaEncodesWrong)

/-- 'perilunelaw04.IsaDecodes': WHATEVER THE INPUT: true; the input reads as it did. -/
def isaDecodesSpec : ChangeSpec := { name := "isaDecodes", fn := fun _ => fun
  | [d1, d2] => { results := [.lit (.bool true)], args := [d1, d2] }
  | _ => none }
def isaDecodesRow : OpenClaim := { program := "ytgaajaddaecejaa", sum := "6bb4df6a8283faa68c2f994e8946fb5bd2c788faa344f0132ed6150b8ba17913", func := "perilune/perilunelaw04.IsaDecodes", spec := "isaDecodes", apart := false }
def IsaDecodesSaid : Prop := isaDecodesRow.holds Try.pinned (OpenSpec.ofChange isaDecodesSpec)

/-- ITS FALSE NEIGHBOUR: 'it returns false'. Refute it at one input. -/
def isaDecodesWrong : ChangeSpec := { name := "isaDecodes", fn := fun _ => fun
  | [d1, d2] => { results := [.lit (.bool false)], args := [d1, d2] }
  | _ => none }
def IsaDecodesWrongFalsely : Prop := isaDecodesRow.holds Try.pinned (OpenSpec.ofChange isaDecodesWrong)

/-- 'perilunelaw04.IsaRound': WHATEVER THE INPUT: true; the input reads as it did. -/
def isaRoundSpec : ChangeSpec := { name := "isaRound", fn := fun _ => fun
  | [d] => { results := [.lit (.bool true)], args := [d] }
  | _ => none }
def isaRoundRow : OpenClaim := { program := "ytgaajaddaecejaa", sum := "6bb4df6a8283faa68c2f994e8946fb5bd2c788faa344f0132ed6150b8ba17913", func := "perilune/perilunelaw04.IsaRound", spec := "isaRound", apart := false }
def IsaRoundSaid : Prop := isaRoundRow.holds Try.pinned (OpenSpec.ofChange isaRoundSpec)

/-- ITS FALSE NEIGHBOUR: 'it returns false'. Refute it at one input. -/
def isaRoundWrong : ChangeSpec := { name := "isaRound", fn := fun _ => fun
  | [d] => { results := [.lit (.bool false)], args := [d] }
  | _ => none }
def IsaRoundWrongFalsely : Prop := isaRoundRow.holds Try.pinned (OpenSpec.ofChange isaRoundWrong)

/-- 'perilunelaw04.IsaBack': WHATEVER THE INPUT: true; the input reads as it did. -/
def isaBackSpec : ChangeSpec := { name := "isaBack", fn := fun _ => fun
  | [d1, d2, d3] => { results := [.lit (.bool true)], args := [d1, d2, d3] }
  | _ => none }
def isaBackRow : OpenClaim := { program := "ytgaajaddaecejaa", sum := "6bb4df6a8283faa68c2f994e8946fb5bd2c788faa344f0132ed6150b8ba17913", func := "perilune/perilunelaw04.IsaBack", spec := "isaBack", apart := false }
def IsaBackSaid : Prop := isaBackRow.holds Try.pinned (OpenSpec.ofChange isaBackSpec)

/-- ITS FALSE NEIGHBOUR: 'it returns false'. Refute it at one input. -/
def isaBackWrong : ChangeSpec := { name := "isaBack", fn := fun _ => fun
  | [d1, d2, d3] => { results := [.lit (.bool false)], args := [d1, d2, d3] }
  | _ => none }
def IsaBackWrongFalsely : Prop := isaBackRow.holds Try.pinned (OpenSpec.ofChange isaBackWrong)

/-- 'perilunelaw04.IsaDiffers': WHATEVER THE INPUT: true; the input reads as it did. -/
def isaDiffersSpec : ChangeSpec := { name := "isaDiffers", fn := fun _ => fun
  | [d1, d2] => { results := [.lit (.bool true)], args := [d1, d2] }
  | _ => none }
def isaDiffersRow : OpenClaim := { program := "ytgaajaddaecejaa", sum := "6bb4df6a8283faa68c2f994e8946fb5bd2c788faa344f0132ed6150b8ba17913", func := "perilune/perilunelaw04.IsaDiffers", spec := "isaDiffers", apart := false }
def IsaDiffersSaid : Prop := isaDiffersRow.holds Try.pinned (OpenSpec.ofChange isaDiffersSpec)

/-- ITS FALSE NEIGHBOUR: 'it returns false'. Refute it at one input. -/
def isaDiffersWrong : ChangeSpec := { name := "isaDiffers", fn := fun _ => fun
  | [d1, d2] => { results := [.lit (.bool false)], args := [d1, d2] }
  | _ => none }
def IsaDiffersWrongFalsely : Prop := isaDiffersRow.holds Try.pinned (OpenSpec.ofChange isaDiffersWrong)

/-- 'perilunelaw04.IsaCounts': WHATEVER THE INPUT: true; the input reads as it did. -/
def isaCountsSpec : ChangeSpec := { name := "isaCounts", fn := fun _ => fun
  | [] => { results := [.lit (.bool true)], args := [] }
  | _ => none }
def isaCountsRow : OpenClaim := { program := "ytgaajaddaecejaa", sum := "6bb4df6a8283faa68c2f994e8946fb5bd2c788faa344f0132ed6150b8ba17913", func := "perilune/perilunelaw04.IsaCounts", spec := "isaCounts", apart := false }
def IsaCountsSaid : Prop := isaCountsRow.holds Try.pinned (OpenSpec.ofChange isaCountsSpec)

/-- ITS FALSE NEIGHBOUR: 'it returns false'. Refute it at one input. -/
def isaCountsWrong : ChangeSpec := { name := "isaCounts", fn := fun _ => fun
  | [] => { results := [.lit (.bool false)], args := [] }
  | _ => none }
def IsaCountsWrongFalsely : Prop := isaCountsRow.holds Try.pinned (OpenSpec.ofChange isaCountsWrong)

/-- 'perilunelaw04.IsaKnown': WHATEVER THE INPUT: true; the input reads as it did. -/
def isaKnownSpec : ChangeSpec := { name := "isaKnown", fn := fun _ => fun
  | [] => { results := [.lit (.bool true)], args := [] }
  | _ => none }
def isaKnownRow : OpenClaim := { program := "ytgaajaddaecejaa", sum := "6bb4df6a8283faa68c2f994e8946fb5bd2c788faa344f0132ed6150b8ba17913", func := "perilune/perilunelaw04.IsaKnown", spec := "isaKnown", apart := false }
def IsaKnownSaid : Prop := isaKnownRow.holds Try.pinned (OpenSpec.ofChange isaKnownSpec)

/-- ITS FALSE NEIGHBOUR: 'it returns false'. Refute it at one input. -/
def isaKnownWrong : ChangeSpec := { name := "isaKnown", fn := fun _ => fun
  | [] => { results := [.lit (.bool false)], args := [] }
  | _ => none }
def IsaKnownWrongFalsely : Prop := isaKnownRow.holds Try.pinned (OpenSpec.ofChange isaKnownWrong)

/- THE SECOND FORM. 'bulk': how many values and letters a reading holds, each counted each time it is reached (what is shared counts as often as it is met; a slice's spare places count too). A statement '..UptoSaid' is the law's where the arguments, and the package variables that the reading takes, are together of bulk at most 1048576: NARROWER than '..Said'. Prove '..Said' where nothing that the law and all that it calls make is longer than what came in: it says more and counts as full. Else prove '..UptoSaid'. A law counts once. -/
mutual
def uptoBulk {H : Type} : DataW H → Nat
  | .lit (.string bytes) => bytes.length + 1
  | .lit _ => 1
  | .nil => 1
  | .ptr d => uptoBulk d + 1
  | .slice elems spare => uptoBulkAll elems + uptoBulkAll spare + 1
  | .agg parts => uptoBulkAll parts + 1
  | .iface _ d => uptoBulk d + 1
  | .map entries => uptoBulkEntries entries + 1
  | .held _ => 1
def uptoBulkAll {H : Type} : List (DataW H) → Nat
  | [] => 0
  | d :: r => uptoBulk d + uptoBulkAll r
def uptoBulkEntries {H : Type} : List (Lit × DataW H) → Nat
  | [] => 0
  | x :: r => uptoBulkEntry x + uptoBulkEntries r
def uptoBulkEntry {H : Type} : Lit × DataW H → Nat
  | (.string bytes, d) => bytes.length + uptoBulk d + 1
  | (_, d) => uptoBulk d + 1
 end
def uptoSmall : (H : Type) → List (DataW H) → Bool := fun _ ds => decide (uptoBulkAll ds ≤ 1048576)
def OpenSpec.upto (s : _root_.Go.ChangeSpec) : _root_.Go.OpenSpec := { _root_.Go.OpenSpec.ofChange s with cond := some uptoSmall }

/-- 'perilunelaw04.IsaNames', WHERE WHAT IT READS IS OF BULK AT MOST 1048576: true; the input reads as it did. -/
def isaNamesUptoRow : OpenClaim := { program := "ytgaajaddaecejaa", sum := "6bb4df6a8283faa68c2f994e8946fb5bd2c788faa344f0132ed6150b8ba17913", func := "perilune/perilunelaw04.IsaNames", spec := "isaNames", apart := false, narrowed := true }
def IsaNamesUptoSaid : Prop := isaNamesUptoRow.holds Try.pinned (OpenSpec.upto isaNamesSpec)

/-- 'perilunelaw04.IsaEncodes', WHERE WHAT IT READS IS OF BULK AT MOST 1048576: true; the input reads as it did. -/
def isaEncodesUptoRow : OpenClaim := { program := "ytgaajaddaecejaa", sum := "6bb4df6a8283faa68c2f994e8946fb5bd2c788faa344f0132ed6150b8ba17913", func := "perilune/perilunelaw04.IsaEncodes", spec := "isaEncodes", apart := false, narrowed := true }
def IsaEncodesUptoSaid : Prop := isaEncodesUptoRow.holds Try.pinned (OpenSpec.upto isaEncodesSpec)

/-- 'perilunelaw04.IsaDecodes', WHERE WHAT IT READS IS OF BULK AT MOST 1048576: true; the input reads as it did. -/
def isaDecodesUptoRow : OpenClaim := { program := "ytgaajaddaecejaa", sum := "6bb4df6a8283faa68c2f994e8946fb5bd2c788faa344f0132ed6150b8ba17913", func := "perilune/perilunelaw04.IsaDecodes", spec := "isaDecodes", apart := false, narrowed := true }
def IsaDecodesUptoSaid : Prop := isaDecodesUptoRow.holds Try.pinned (OpenSpec.upto isaDecodesSpec)

/-- 'perilunelaw04.IsaRound', WHERE WHAT IT READS IS OF BULK AT MOST 1048576: true; the input reads as it did. -/
def isaRoundUptoRow : OpenClaim := { program := "ytgaajaddaecejaa", sum := "6bb4df6a8283faa68c2f994e8946fb5bd2c788faa344f0132ed6150b8ba17913", func := "perilune/perilunelaw04.IsaRound", spec := "isaRound", apart := false, narrowed := true }
def IsaRoundUptoSaid : Prop := isaRoundUptoRow.holds Try.pinned (OpenSpec.upto isaRoundSpec)

/-- 'perilunelaw04.IsaBack', WHERE WHAT IT READS IS OF BULK AT MOST 1048576: true; the input reads as it did. -/
def isaBackUptoRow : OpenClaim := { program := "ytgaajaddaecejaa", sum := "6bb4df6a8283faa68c2f994e8946fb5bd2c788faa344f0132ed6150b8ba17913", func := "perilune/perilunelaw04.IsaBack", spec := "isaBack", apart := false, narrowed := true }
def IsaBackUptoSaid : Prop := isaBackUptoRow.holds Try.pinned (OpenSpec.upto isaBackSpec)

/-- 'perilunelaw04.IsaDiffers', WHERE WHAT IT READS IS OF BULK AT MOST 1048576: true; the input reads as it did. -/
def isaDiffersUptoRow : OpenClaim := { program := "ytgaajaddaecejaa", sum := "6bb4df6a8283faa68c2f994e8946fb5bd2c788faa344f0132ed6150b8ba17913", func := "perilune/perilunelaw04.IsaDiffers", spec := "isaDiffers", apart := false, narrowed := true }
def IsaDiffersUptoSaid : Prop := isaDiffersUptoRow.holds Try.pinned (OpenSpec.upto isaDiffersSpec)

/-- 'perilunelaw04.IsaCounts', WHERE WHAT IT READS IS OF BULK AT MOST 1048576: true; the input reads as it did. -/
def isaCountsUptoRow : OpenClaim := { program := "ytgaajaddaecejaa", sum := "6bb4df6a8283faa68c2f994e8946fb5bd2c788faa344f0132ed6150b8ba17913", func := "perilune/perilunelaw04.IsaCounts", spec := "isaCounts", apart := false, narrowed := true }
def IsaCountsUptoSaid : Prop := isaCountsUptoRow.holds Try.pinned (OpenSpec.upto isaCountsSpec)

/-- 'perilunelaw04.IsaKnown', WHERE WHAT IT READS IS OF BULK AT MOST 1048576: true; the input reads as it did. -/
def isaKnownUptoRow : OpenClaim := { program := "ytgaajaddaecejaa", sum := "6bb4df6a8283faa68c2f994e8946fb5bd2c788faa344f0132ed6150b8ba17913", func := "perilune/perilunelaw04.IsaKnown", spec := "isaKnown", apart := false, narrowed := true }
def IsaKnownUptoSaid : Prop := isaKnownUptoRow.holds Try.pinned (OpenSpec.upto isaKnownSpec)

end Rows
end Go.Proofs.Ytgaajaddaecejaa
