/-
  No cell of these rows narrows 'for every input' (looked for: loops, veiled, ifaces, maps, wideKeys, modest, calm, conditions, laid).
  DERIVED. THE GIVEN ROWS OF THIS SEAT. 6 by the template 'for every input the law returns true; each argument reads behind the call as it read before'; 0 by the template 'total and deterministic' (their statements: YtjinijaegfolbaaTotals.lean).
  GIVEN WITH THE SEED: the statements are not yours to turn. If you find one false, say at which input.
  Laid BY PROGRAM, IN A SANDBOX (cutbox-rows.mjs): the forced cells as the released guide's own fill.sh prints them over the translation 6e3dc97b3504f46f… (all of the seat's roots in one cut). By AI agents, Wed Nov 11 2026. No macro, syntax, notation, axiom, sorry.
-/
import Derived.Test.YtjinijaegfolbaaChecked
import GoSem.Claim
import GoSem.ClaimJoined
import GoSem.ClaimMapViews
import Derived.JoinedTies
import Derived.KernelRfl
namespace Go.Proofs.Ytjinijaegfolbaa
/- THE CELL 'sum', in the pinned program and in every row, IS THE sha256 OF THE DUMP (.gsa) THAT YtjinijaegfolbaaProg.lean LOADS. Nothing in Lean hashes anything: it is a label: what it is worth is what the hold of that sum in a sandbox is worth. -/
noncomputable def Try.pinned : Pinned := { name := "ytjinijaegfolbaa", sum := "6e3dc97b3504f46fcc21945a578df185edb915953e88916add84649cbb27512e", checked := Try.checked }
namespace Rows
def none {H : Type} : Left H := { results := [], args := [] }

/-- 'perilunelaw02.ParityTells': WHATEVER THE INPUT: true; the input reads as it did. -/
def parityTellsSpec : ChangeSpec := { name := "parityTells", fn := fun _ => fun
  | [d1, d2, d3] => { results := [.lit (.bool true)], args := [d1, d2, d3] }
  | _ => none }
def parityTellsRow : OpenClaim := { program := "ytjinijaegfolbaa", sum := "6e3dc97b3504f46fcc21945a578df185edb915953e88916add84649cbb27512e", func := "perilune/perilunelaw02.ParityTells", spec := "parityTells", apart := false }
def ParityTellsSaid : Prop := parityTellsRow.holds Try.pinned (OpenSpec.ofChange parityTellsSpec)

/-- ITS FALSE NEIGHBOUR: 'it returns false'. Refute it at one input. -/
def parityTellsWrong : ChangeSpec := { name := "parityTells", fn := fun _ => fun
  | [d1, d2, d3] => { results := [.lit (.bool false)], args := [d1, d2, d3] }
  | _ => none }
def ParityTellsWrongFalsely : Prop := parityTellsRow.holds Try.pinned (OpenSpec.ofChange parityTellsWrong)

/-- 'perilunelaw02.ParityFlips': WHATEVER THE INPUT: true; the input reads as it did. -/
def parityFlipsSpec : ChangeSpec := { name := "parityFlips", fn := fun _ => fun
  | [d1, d2] => { results := [.lit (.bool true)], args := [d1, d2] }
  | _ => none }
def parityFlipsRow : OpenClaim := { program := "ytjinijaegfolbaa", sum := "6e3dc97b3504f46fcc21945a578df185edb915953e88916add84649cbb27512e", func := "perilune/perilunelaw02.ParityFlips", spec := "parityFlips", apart := false }
def ParityFlipsSaid : Prop := parityFlipsRow.holds Try.pinned (OpenSpec.ofChange parityFlipsSpec)

/-- ITS FALSE NEIGHBOUR: 'it returns false'. Refute it at one input. -/
def parityFlipsWrong : ChangeSpec := { name := "parityFlips", fn := fun _ => fun
  | [d1, d2] => { results := [.lit (.bool false)], args := [d1, d2] }
  | _ => none }
def ParityFlipsWrongFalsely : Prop := parityFlipsRow.holds Try.pinned (OpenSpec.ofChange parityFlipsWrong)

/-- 'perilunelaw02.ParityHalf': WHATEVER THE INPUT: true; the input reads as it did. -/
def parityHalfSpec : ChangeSpec := { name := "parityHalf", fn := fun _ => fun
  | [] => { results := [.lit (.bool true)], args := [] }
  | _ => none }
def parityHalfRow : OpenClaim := { program := "ytjinijaegfolbaa", sum := "6e3dc97b3504f46fcc21945a578df185edb915953e88916add84649cbb27512e", func := "perilune/perilunelaw02.ParityHalf", spec := "parityHalf", apart := false }
def ParityHalfSaid : Prop := parityHalfRow.holds Try.pinned (OpenSpec.ofChange parityHalfSpec)

/-- ITS FALSE NEIGHBOUR: 'it returns false'. Refute it at one input. -/
def parityHalfWrong : ChangeSpec := { name := "parityHalf", fn := fun _ => fun
  | [] => { results := [.lit (.bool false)], args := [] }
  | _ => none }
def ParityHalfWrongFalsely : Prop := parityHalfRow.holds Try.pinned (OpenSpec.ofChange parityHalfWrong)

/-- 'perilunelaw02.ParityLists': WHATEVER THE INPUT: true; the input reads as it did. -/
def parityListsSpec : ChangeSpec := { name := "parityLists", fn := fun _ => fun
  | [d1, d2] => { results := [.lit (.bool true)], args := [d1, d2] }
  | _ => none }
def parityListsRow : OpenClaim := { program := "ytjinijaegfolbaa", sum := "6e3dc97b3504f46fcc21945a578df185edb915953e88916add84649cbb27512e", func := "perilune/perilunelaw02.ParityLists", spec := "parityLists", unfollowed := true, recurses := true, apart := false }
def ParityListsSaid : Prop := parityListsRow.holds Try.pinned (OpenSpec.ofChange parityListsSpec)

/-- ITS FALSE NEIGHBOUR: 'it returns false'. Refute it at one input. -/
def parityListsWrong : ChangeSpec := { name := "parityLists", fn := fun _ => fun
  | [d1, d2] => { results := [.lit (.bool false)], args := [d1, d2] }
  | _ => none }
def ParityListsWrongFalsely : Prop := parityListsRow.holds Try.pinned (OpenSpec.ofChange parityListsWrong)

/-- 'perilunelaw02.ParityBad': WHATEVER THE INPUT: true; the input reads as it did. -/
def parityBadSpec : ChangeSpec := { name := "parityBad", fn := fun _ => fun
  | [d1, d2] => { results := [.lit (.bool true)], args := [d1, d2] }
  | _ => none }
def parityBadRow : OpenClaim := { program := "ytjinijaegfolbaa", sum := "6e3dc97b3504f46fcc21945a578df185edb915953e88916add84649cbb27512e", func := "perilune/perilunelaw02.ParityBad", spec := "parityBad", unfollowed := true, recurses := true, apart := false }
def ParityBadSaid : Prop := parityBadRow.holds Try.pinned (OpenSpec.ofChange parityBadSpec)

/-- ITS FALSE NEIGHBOUR: 'it returns false'. Refute it at one input. -/
def parityBadWrong : ChangeSpec := { name := "parityBad", fn := fun _ => fun
  | [d1, d2] => { results := [.lit (.bool false)], args := [d1, d2] }
  | _ => none }
def ParityBadWrongFalsely : Prop := parityBadRow.holds Try.pinned (OpenSpec.ofChange parityBadWrong)

/-- 'perilunelaw02.ParityKnown': WHATEVER THE INPUT: true; the input reads as it did. -/
def parityKnownSpec : ChangeSpec := { name := "parityKnown", fn := fun _ => fun
  | [] => { results := [.lit (.bool true)], args := [] }
  | _ => none }
def parityKnownRow : OpenClaim := { program := "ytjinijaegfolbaa", sum := "6e3dc97b3504f46fcc21945a578df185edb915953e88916add84649cbb27512e", func := "perilune/perilunelaw02.ParityKnown", spec := "parityKnown", unfollowed := true, recurses := true, apart := false }
def ParityKnownSaid : Prop := parityKnownRow.holds Try.pinned (OpenSpec.ofChange parityKnownSpec)

/-- ITS FALSE NEIGHBOUR: 'it returns false'. Refute it at one input. -/
def parityKnownWrong : ChangeSpec := { name := "parityKnown", fn := fun _ => fun
  | [] => { results := [.lit (.bool false)], args := [] }
  | _ => none }
def ParityKnownWrongFalsely : Prop := parityKnownRow.holds Try.pinned (OpenSpec.ofChange parityKnownWrong)

/- THE SECOND FORM. 'bulk': how many values and letters a reading holds, each counted each time it is reached (what is shared counts as often as it is met; a slice's spare places count too). A statement '..UptoSaid' is the law's where the arguments, and the package variables that the reading takes, are together of bulk at most 1048576: NARROWER than '..Said'. Prove '..Said' where nothing that the law and all that it calls make is longer than what came in: it says more and counts as full. Else prove '..UptoSaid'. A law counts once. -/
mutual
def uptoBulk {H : Type} : DataW H → Nat
  | .lit (.string bytes) => bytes.length + 1
  | .lit _ => 1
  | .nil => 1
  | .ptr d => uptoBulk d + 1
  | .slice elems spare => uptoBulkAll elems + uptoBulkAll spare + 1
  | .agg parts => uptoBulkAll parts + 1
  | .iface _ d => uptoBulk d + 1
  | .map entries => uptoBulkEntries entries + 1
  | .held _ => 1
def uptoBulkAll {H : Type} : List (DataW H) → Nat
  | [] => 0
  | d :: r => uptoBulk d + uptoBulkAll r
def uptoBulkEntries {H : Type} : List (Lit × DataW H) → Nat
  | [] => 0
  | x :: r => uptoBulkEntry x + uptoBulkEntries r
def uptoBulkEntry {H : Type} : Lit × DataW H → Nat
  | (.string bytes, d) => bytes.length + uptoBulk d + 1
  | (_, d) => uptoBulk d + 1
 end
def uptoSmall : (H : Type) → List (DataW H) → Bool := fun _ ds => decide (uptoBulkAll ds ≤ 1048576)
def OpenSpec.upto (s : _root_.Go.ChangeSpec) : _root_.Go.OpenSpec := { _root_.Go.OpenSpec.ofChange s with cond := some uptoSmall }

/-- 'perilunelaw02.ParityTells', WHERE WHAT IT READS IS OF BULK AT MOST 1048576: true; the input reads as it did. -/
def parityTellsUptoRow : OpenClaim := { program := "ytjinijaegfolbaa", sum := "6e3dc97b3504f46fcc21945a578df185edb915953e88916add84649cbb27512e", func := "perilune/perilunelaw02.ParityTells", spec := "parityTells", apart := false, narrowed := true }
def ParityTellsUptoSaid : Prop := parityTellsUptoRow.holds Try.pinned (OpenSpec.upto parityTellsSpec)

/-- 'perilunelaw02.ParityFlips', WHERE WHAT IT READS IS OF BULK AT MOST 1048576: true; the input reads as it did. -/
def parityFlipsUptoRow : OpenClaim := { program := "ytjinijaegfolbaa", sum := "6e3dc97b3504f46fcc21945a578df185edb915953e88916add84649cbb27512e", func := "perilune/perilunelaw02.ParityFlips", spec := "parityFlips", apart := false, narrowed := true }
def ParityFlipsUptoSaid : Prop := parityFlipsUptoRow.holds Try.pinned (OpenSpec.upto parityFlipsSpec)

/-- 'perilunelaw02.ParityHalf', WHERE WHAT IT READS IS OF BULK AT MOST 1048576: true; the input reads as it did. -/
def parityHalfUptoRow : OpenClaim := { program := "ytjinijaegfolbaa", sum := "6e3dc97b3504f46fcc21945a578df185edb915953e88916add84649cbb27512e", func := "perilune/perilunelaw02.ParityHalf", spec := "parityHalf", apart := false, narrowed := true }
def ParityHalfUptoSaid : Prop := parityHalfUptoRow.holds Try.pinned (OpenSpec.upto parityHalfSpec)

/-- 'perilunelaw02.ParityLists', WHERE WHAT IT READS IS OF BULK AT MOST 1048576: true; the input reads as it did. -/
def parityListsUptoRow : OpenClaim := { program := "ytjinijaegfolbaa", sum := "6e3dc97b3504f46fcc21945a578df185edb915953e88916add84649cbb27512e", func := "perilune/perilunelaw02.ParityLists", spec := "parityLists", unfollowed := true, recurses := true, apart := false, narrowed := true }
def ParityListsUptoSaid : Prop := parityListsUptoRow.holds Try.pinned (OpenSpec.upto parityListsSpec)

/-- 'perilunelaw02.ParityBad', WHERE WHAT IT READS IS OF BULK AT MOST 1048576: true; the input reads as it did. -/
def parityBadUptoRow : OpenClaim := { program := "ytjinijaegfolbaa", sum := "6e3dc97b3504f46fcc21945a578df185edb915953e88916add84649cbb27512e", func := "perilune/perilunelaw02.ParityBad", spec := "parityBad", unfollowed := true, recurses := true, apart := false, narrowed := true }
def ParityBadUptoSaid : Prop := parityBadUptoRow.holds Try.pinned (OpenSpec.upto parityBadSpec)

/-- 'perilunelaw02.ParityKnown', WHERE WHAT IT READS IS OF BULK AT MOST 1048576: true; the input reads as it did. -/
def parityKnownUptoRow : OpenClaim := { program := "ytjinijaegfolbaa", sum := "6e3dc97b3504f46fcc21945a578df185edb915953e88916add84649cbb27512e", func := "perilune/perilunelaw02.ParityKnown", spec := "parityKnown", unfollowed := true, recurses := true, apart := false, narrowed := true }
def ParityKnownUptoSaid : Prop := parityKnownUptoRow.holds Try.pinned (OpenSpec.upto parityKnownSpec)

end Rows
end Go.Proofs.Ytjinijaegfolbaa
