/- Chapter 4, IsaEncodes: the law in the row's form; no condition. -/
import Derived.Test.YtgaajaddaecejaaIsaE
import Derived.Test.YtgaajaddaecejaaIsaS
namespace Go.Proofs.Ytgaajaddaecejaa.Isa
open Go.RowKit Go.Proofs.Ytgaajaddaecejaa.PAll
set_option linter.unusedVariables false
theorem encodes_law (z0 : S27) (a1 : Int) (w : World) (b0 : (Lit.int .u8 z0.f0).wf = true ∧ z0.f1.size ≤ maxLen ∧ True ∧ (Lit.int .u8 z0.f3).wf = true ∧ (Lit.int .i64 z0.f4).wf = true ∧ (Lit.int .i64 z0.f5).wf = true) (w1 : (Lit.int .i64 a1).wf = true) :
    Calls Try.prog 4 #[.agg #[.int .u8 z0.f0, .string z0.f1, .bool z0.f2, .int .u8 z0.f3, .int .i64 z0.f4, .int .i64 z0.f5], .int .i64 a1] w fun e w' => e = .returned (.bool true) ∧ Below w.heap.size w w' := by
  have h : 0 ≤ z0.f0 ∧ z0.f0 < 256 := by
    have := b0.1
    simp [Lit.wf, IntKind.min, IntKind.max, IntKind.signed, IntKind.bits] at this; omega
  exact encodes_walk z0.f0 z0.f1 z0.f2 z0.f3 z0.f4 z0.f5 a1 h.1 h.2 w
end Go.Proofs.Ytgaajaddaecejaa.Isa
