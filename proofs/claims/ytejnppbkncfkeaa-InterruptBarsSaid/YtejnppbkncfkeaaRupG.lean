/- The chapter's examples in the printer's form. -/
import Derived.Test.YtejnppbkncfkeaaRup6
namespace Go.Proofs.Ytejnppbkncfkeaa.PAll
open Go.RowKit
def perilunelaw07_works.f : Option Bool := some true
theorem perilunelaw07_works.calls (r : Bool) (w : World) (h : perilunelaw07_works.f = some r) : Calls Try.prog 13 #[] w fun e w' => e = .returned (.bool r) ∧ Below w.heap.size w w' := by
  cases h; exact Rup.works_c w
end Go.Proofs.Ytejnppbkncfkeaa.PAll
