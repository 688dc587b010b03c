/-
  No cell of these rows narrows 'for every input' (looked for: loops, veiled, ifaces, maps, wideKeys, modest, calm, conditions, laid).
  DERIVED. THE GIVEN ROWS OF THIS SEAT. 8 by the template 'for every input the law returns true; each argument reads behind the call as it read before'; 0 by the template 'total and deterministic' (their statements: YtipcnefiadnlmaaTotals.lean).
  GIVEN WITH THE SEED: the statements are not yours to turn. If you find one false, say at which input.
  Laid BY PROGRAM, IN A SANDBOX (cutbox-rows.mjs): the forced cells as the released guide's own fill.sh prints them over the translation 6462e2ddf32a6c1f… (all of the seat's roots in one cut). By AI agents, Wed Nov 11 2026. No macro, syntax, notation, axiom, sorry.
-/
import Derived.Test.YtipcnefiadnlmaaChecked
import GoSem.Claim
import GoSem.ClaimJoined
import GoSem.ClaimMapViews
import Derived.JoinedTies
import Derived.KernelRfl
namespace Go.Proofs.Ytipcnefiadnlmaa
/- THE CELL 'sum', in the pinned program and in every row, IS THE sha256 OF THE DUMP (.gsa) THAT YtipcnefiadnlmaaProg.lean LOADS. Nothing in Lean hashes anything: it is a label: what it is worth is what the hold of that sum in a sandbox is worth. -/
noncomputable def Try.pinned : Pinned := { name := "ytipcnefiadnlmaa", sum := "6462e2ddf32a6c1f6d5857689bb183c7774e0b49900dd0e49ba2e688efa8d758", checked := Try.checked }
namespace Rows
def none {H : Type} : Left H := { results := [], args := [] }

/-- 'perilunelaw01.OnescompEdits': WHATEVER THE INPUT: true; the input reads as it did. -/
def onescompEditsSpec : ChangeSpec := { name := "onescompEdits", fn := fun _ => fun
  | [d1, d2, d3] => { results := [.lit (.bool true)], args := [d1, d2, d3] }
  | _ => none }
def onescompEditsRow : OpenClaim := { program := "ytipcnefiadnlmaa", sum := "6462e2ddf32a6c1f6d5857689bb183c7774e0b49900dd0e49ba2e688efa8d758", func := "perilune/perilunelaw01.OnescompEdits", spec := "onescompEdits", unfollowed := true, recurses := true, apart := false }
def OnescompEditsSaid : Prop := onescompEditsRow.holds Try.pinned (OpenSpec.ofChange onescompEditsSpec)

/-- ITS FALSE NEIGHBOUR: 'it returns false'. Refute it at one input. -/
def onescompEditsWrong : ChangeSpec := { name := "onescompEdits", fn := fun _ => fun
  | [d1, d2, d3] => { results := [.lit (.bool false)], args := [d1, d2, d3] }
  | _ => none }
def OnescompEditsWrongFalsely : Prop := onescompEditsRow.holds Try.pinned (OpenSpec.ofChange onescompEditsWrong)

/-- 'perilunelaw01.OnescompWords': WHATEVER THE INPUT: true; the input reads as it did. -/
def onescompWordsSpec : ChangeSpec := { name := "onescompWords", fn := fun _ => fun
  | [d1, d2, d3] => { results := [.lit (.bool true)], args := [d1, d2, d3] }
  | _ => none }
def onescompWordsRow : OpenClaim := { program := "ytipcnefiadnlmaa", sum := "6462e2ddf32a6c1f6d5857689bb183c7774e0b49900dd0e49ba2e688efa8d758", func := "perilune/perilunelaw01.OnescompWords", spec := "onescompWords", unfollowed := true, recurses := true, apart := false }
def OnescompWordsSaid : Prop := onescompWordsRow.holds Try.pinned (OpenSpec.ofChange onescompWordsSpec)

/-- ITS FALSE NEIGHBOUR: 'it returns false'. Refute it at one input. -/
def onescompWordsWrong : ChangeSpec := { name := "onescompWords", fn := fun _ => fun
  | [d1, d2, d3] => { results := [.lit (.bool false)], args := [d1, d2, d3] }
  | _ => none }
def OnescompWordsWrongFalsely : Prop := onescompWordsRow.holds Try.pinned (OpenSpec.ofChange onescompWordsWrong)

/-- 'perilunelaw01.OnescompAccs': WHATEVER THE INPUT: true; the input reads as it did. -/
def onescompAccsSpec : ChangeSpec := { name := "onescompAccs", fn := fun _ => fun
  | [d1, d2, d3] => { results := [.lit (.bool true)], args := [d1, d2, d3] }
  | _ => none }
def onescompAccsRow : OpenClaim := { program := "ytipcnefiadnlmaa", sum := "6462e2ddf32a6c1f6d5857689bb183c7774e0b49900dd0e49ba2e688efa8d758", func := "perilune/perilunelaw01.OnescompAccs", spec := "onescompAccs", unfollowed := true, recurses := true, apart := false }
def OnescompAccsSaid : Prop := onescompAccsRow.holds Try.pinned (OpenSpec.ofChange onescompAccsSpec)

/-- ITS FALSE NEIGHBOUR: 'it returns false'. Refute it at one input. -/
def onescompAccsWrong : ChangeSpec := { name := "onescompAccs", fn := fun _ => fun
  | [d1, d2, d3] => { results := [.lit (.bool false)], args := [d1, d2, d3] }
  | _ => none }
def OnescompAccsWrongFalsely : Prop := onescompAccsRow.holds Try.pinned (OpenSpec.ofChange onescompAccsWrong)

/-- 'perilunelaw01.OnescompBack': WHATEVER THE INPUT: true; the input reads as it did. -/
def onescompBackSpec : ChangeSpec := { name := "onescompBack", fn := fun _ => fun
  | [d] => { results := [.lit (.bool true)], args := [d] }
  | _ => none }
def onescompBackRow : OpenClaim := { program := "ytipcnefiadnlmaa", sum := "6462e2ddf32a6c1f6d5857689bb183c7774e0b49900dd0e49ba2e688efa8d758", func := "perilune/perilunelaw01.OnescompBack", spec := "onescompBack", unfollowed := true, recurses := true, apart := false }
def OnescompBackSaid : Prop := onescompBackRow.holds Try.pinned (OpenSpec.ofChange onescompBackSpec)

/-- ITS FALSE NEIGHBOUR: 'it returns false'. Refute it at one input. -/
def onescompBackWrong : ChangeSpec := { name := "onescompBack", fn := fun _ => fun
  | [d] => { results := [.lit (.bool false)], args := [d] }
  | _ => none }
def OnescompBackWrongFalsely : Prop := onescompBackRow.holds Try.pinned (OpenSpec.ofChange onescompBackWrong)

/-- 'perilunelaw01.OnescompAngles': WHATEVER THE INPUT: true; the input reads as it did. -/
def onescompAnglesSpec : ChangeSpec := { name := "onescompAngles", fn := fun _ => fun
  | [d1, d2] => { results := [.lit (.bool true)], args := [d1, d2] }
  | _ => none }
def onescompAnglesRow : OpenClaim := { program := "ytipcnefiadnlmaa", sum := "6462e2ddf32a6c1f6d5857689bb183c7774e0b49900dd0e49ba2e688efa8d758", func := "perilune/perilunelaw01.OnescompAngles", spec := "onescompAngles", unfollowed := true, recurses := true, apart := false }
def OnescompAnglesSaid : Prop := onescompAnglesRow.holds Try.pinned (OpenSpec.ofChange onescompAnglesSpec)

/-- ITS FALSE NEIGHBOUR: 'it returns false'. Refute it at one input. -/
def onescompAnglesWrong : ChangeSpec := { name := "onescompAngles", fn := fun _ => fun
  | [d1, d2] => { results := [.lit (.bool false)], args := [d1, d2] }
  | _ => none }
def OnescompAnglesWrongFalsely : Prop := onescompAnglesRow.holds Try.pinned (OpenSpec.ofChange onescompAnglesWrong)

/-- 'perilunelaw01.OnescompSums': WHATEVER THE INPUT: true; the input reads as it did. -/
def onescompSumsSpec : ChangeSpec := { name := "onescompSums", fn := fun _ => fun
  | [d1, d2] => { results := [.lit (.bool true)], args := [d1, d2] }
  | _ => none }
def onescompSumsRow : OpenClaim := { program := "ytipcnefiadnlmaa", sum := "6462e2ddf32a6c1f6d5857689bb183c7774e0b49900dd0e49ba2e688efa8d758", func := "perilune/perilunelaw01.OnescompSums", spec := "onescompSums", unfollowed := true, recurses := true, apart := false }
def OnescompSumsSaid : Prop := onescompSumsRow.holds Try.pinned (OpenSpec.ofChange onescompSumsSpec)

/-- ITS FALSE NEIGHBOUR: 'it returns false'. Refute it at one input. -/
def onescompSumsWrong : ChangeSpec := { name := "onescompSums", fn := fun _ => fun
  | [d1, d2] => { results := [.lit (.bool false)], args := [d1, d2] }
  | _ => none }
def OnescompSumsWrongFalsely : Prop := onescompSumsRow.holds Try.pinned (OpenSpec.ofChange onescompSumsWrong)

/-- 'perilunelaw01.OnescompHalves': WHATEVER THE INPUT: true; the input reads as it did. -/
def onescompHalvesSpec : ChangeSpec := { name := "onescompHalves", fn := fun _ => fun
  | [d] => { results := [.lit (.bool true)], args := [d] }
  | _ => none }
def onescompHalvesRow : OpenClaim := { program := "ytipcnefiadnlmaa", sum := "6462e2ddf32a6c1f6d5857689bb183c7774e0b49900dd0e49ba2e688efa8d758", func := "perilune/perilunelaw01.OnescompHalves", spec := "onescompHalves", unfollowed := true, recurses := true, apart := false }
def OnescompHalvesSaid : Prop := onescompHalvesRow.holds Try.pinned (OpenSpec.ofChange onescompHalvesSpec)

/-- ITS FALSE NEIGHBOUR: 'it returns false'. Refute it at one input. -/
def onescompHalvesWrong : ChangeSpec := { name := "onescompHalves", fn := fun _ => fun
  | [d] => { results := [.lit (.bool false)], args := [d] }
  | _ => none }
def OnescompHalvesWrongFalsely : Prop := onescompHalvesRow.holds Try.pinned (OpenSpec.ofChange onescompHalvesWrong)

/-- 'perilunelaw01.OnescompKnown': WHATEVER THE INPUT: true; the input reads as it did. -/
def onescompKnownSpec : ChangeSpec := { name := "onescompKnown", fn := fun _ => fun
  | [] => { results := [.lit (.bool true)], args := [] }
  | _ => none }
def onescompKnownRow : OpenClaim := { program := "ytipcnefiadnlmaa", sum := "6462e2ddf32a6c1f6d5857689bb183c7774e0b49900dd0e49ba2e688efa8d758", func := "perilune/perilunelaw01.OnescompKnown", spec := "onescompKnown", unfollowed := true, recurses := true, apart := false }
def OnescompKnownSaid : Prop := onescompKnownRow.holds Try.pinned (OpenSpec.ofChange onescompKnownSpec)

/-- ITS FALSE NEIGHBOUR: 'it returns false'. Refute it at one input. -/
def onescompKnownWrong : ChangeSpec := { name := "onescompKnown", fn := fun _ => fun
  | [] => { results := [.lit (.bool false)], args := [] }
  | _ => none }
def OnescompKnownWrongFalsely : Prop := onescompKnownRow.holds Try.pinned (OpenSpec.ofChange onescompKnownWrong)

/- THE SECOND FORM. 'bulk': how many values and letters a reading holds, each counted each time it is reached (what is shared counts as often as it is met; a slice's spare places count too). A statement '..UptoSaid' is the law's where the arguments, and the package variables that the reading takes, are together of bulk at most 1048576: NARROWER than '..Said'. Prove '..Said' where nothing that the law and all that it calls make is longer than what came in: it says more and counts as full. Else prove '..UptoSaid'. A law counts once. -/
mutual
def uptoBulk {H : Type} : DataW H → Nat
  | .lit (.string bytes) => bytes.length + 1
  | .lit _ => 1
  | .nil => 1
  | .ptr d => uptoBulk d + 1
  | .slice elems spare => uptoBulkAll elems + uptoBulkAll spare + 1
  | .agg parts => uptoBulkAll parts + 1
  | .iface _ d => uptoBulk d + 1
  | .map entries => uptoBulkEntries entries + 1
  | .held _ => 1
def uptoBulkAll {H : Type} : List (DataW H) → Nat
  | [] => 0
  | d :: r => uptoBulk d + uptoBulkAll r
def uptoBulkEntries {H : Type} : List (Lit × DataW H) → Nat
  | [] => 0
  | x :: r => uptoBulkEntry x + uptoBulkEntries r
def uptoBulkEntry {H : Type} : Lit × DataW H → Nat
  | (.string bytes, d) => bytes.length + uptoBulk d + 1
  | (_, d) => uptoBulk d + 1
 end
def uptoSmall : (H : Type) → List (DataW H) → Bool := fun _ ds => decide (uptoBulkAll ds ≤ 1048576)
def OpenSpec.upto (s : _root_.Go.ChangeSpec) : _root_.Go.OpenSpec := { _root_.Go.OpenSpec.ofChange s with cond := some uptoSmall }

/-- 'perilunelaw01.OnescompEdits', WHERE WHAT IT READS IS OF BULK AT MOST 1048576: true; the input reads as it did. -/
def onescompEditsUptoRow : OpenClaim := { program := "ytipcnefiadnlmaa", sum := "6462e2ddf32a6c1f6d5857689bb183c7774e0b49900dd0e49ba2e688efa8d758", func := "perilune/perilunelaw01.OnescompEdits", spec := "onescompEdits", unfollowed := true, recurses := true, apart := false, narrowed := true }
def OnescompEditsUptoSaid : Prop := onescompEditsUptoRow.holds Try.pinned (OpenSpec.upto onescompEditsSpec)

/-- 'perilunelaw01.OnescompWords', WHERE WHAT IT READS IS OF BULK AT MOST 1048576: true; the input reads as it did. -/
def onescompWordsUptoRow : OpenClaim := { program := "ytipcnefiadnlmaa", sum := "6462e2ddf32a6c1f6d5857689bb183c7774e0b49900dd0e49ba2e688efa8d758", func := "perilune/perilunelaw01.OnescompWords", spec := "onescompWords", unfollowed := true, recurses := true, apart := false, narrowed := true }
def OnescompWordsUptoSaid : Prop := onescompWordsUptoRow.holds Try.pinned (OpenSpec.upto onescompWordsSpec)

/-- 'perilunelaw01.OnescompAccs', WHERE WHAT IT READS IS OF BULK AT MOST 1048576: true; the input reads as it did. -/
def onescompAccsUptoRow : OpenClaim := { program := "ytipcnefiadnlmaa", sum := "6462e2ddf32a6c1f6d5857689bb183c7774e0b49900dd0e49ba2e688efa8d758", func := "perilune/perilunelaw01.OnescompAccs", spec := "onescompAccs", unfollowed := true, recurses := true, apart := false, narrowed := true }
def OnescompAccsUptoSaid : Prop := onescompAccsUptoRow.holds Try.pinned (OpenSpec.upto onescompAccsSpec)

/-- 'perilunelaw01.OnescompBack', WHERE WHAT IT READS IS OF BULK AT MOST 1048576: true; the input reads as it did. -/
def onescompBackUptoRow : OpenClaim := { program := "ytipcnefiadnlmaa", sum := "6462e2ddf32a6c1f6d5857689bb183c7774e0b49900dd0e49ba2e688efa8d758", func := "perilune/perilunelaw01.OnescompBack", spec := "onescompBack", unfollowed := true, recurses := true, apart := false, narrowed := true }
def OnescompBackUptoSaid : Prop := onescompBackUptoRow.holds Try.pinned (OpenSpec.upto onescompBackSpec)

/-- 'perilunelaw01.OnescompAngles', WHERE WHAT IT READS IS OF BULK AT MOST 1048576: true; the input reads as it did. -/
def onescompAnglesUptoRow : OpenClaim := { program := "ytipcnefiadnlmaa", sum := "6462e2ddf32a6c1f6d5857689bb183c7774e0b49900dd0e49ba2e688efa8d758", func := "perilune/perilunelaw01.OnescompAngles", spec := "onescompAngles", unfollowed := true, recurses := true, apart := false, narrowed := true }
def OnescompAnglesUptoSaid : Prop := onescompAnglesUptoRow.holds Try.pinned (OpenSpec.upto onescompAnglesSpec)

/-- 'perilunelaw01.OnescompSums', WHERE WHAT IT READS IS OF BULK AT MOST 1048576: true; the input reads as it did. -/
def onescompSumsUptoRow : OpenClaim := { program := "ytipcnefiadnlmaa", sum := "6462e2ddf32a6c1f6d5857689bb183c7774e0b49900dd0e49ba2e688efa8d758", func := "perilune/perilunelaw01.OnescompSums", spec := "onescompSums", unfollowed := true, recurses := true, apart := false, narrowed := true }
def OnescompSumsUptoSaid : Prop := onescompSumsUptoRow.holds Try.pinned (OpenSpec.upto onescompSumsSpec)

/-- 'perilunelaw01.OnescompHalves', WHERE WHAT IT READS IS OF BULK AT MOST 1048576: true; the input reads as it did. -/
def onescompHalvesUptoRow : OpenClaim := { program := "ytipcnefiadnlmaa", sum := "6462e2ddf32a6c1f6d5857689bb183c7774e0b49900dd0e49ba2e688efa8d758", func := "perilune/perilunelaw01.OnescompHalves", spec := "onescompHalves", unfollowed := true, recurses := true, apart := false, narrowed := true }
def OnescompHalvesUptoSaid : Prop := onescompHalvesUptoRow.holds Try.pinned (OpenSpec.upto onescompHalvesSpec)

/-- 'perilunelaw01.OnescompKnown', WHERE WHAT IT READS IS OF BULK AT MOST 1048576: true; the input reads as it did. -/
def onescompKnownUptoRow : OpenClaim := { program := "ytipcnefiadnlmaa", sum := "6462e2ddf32a6c1f6d5857689bb183c7774e0b49900dd0e49ba2e688efa8d758", func := "perilune/perilunelaw01.OnescompKnown", spec := "onescompKnown", unfollowed := true, recurses := true, apart := false, narrowed := true }
def OnescompKnownUptoSaid : Prop := onescompKnownUptoRow.holds Try.pinned (OpenSpec.upto onescompKnownSpec)

end Rows
end Go.Proofs.Ytipcnefiadnlmaa
