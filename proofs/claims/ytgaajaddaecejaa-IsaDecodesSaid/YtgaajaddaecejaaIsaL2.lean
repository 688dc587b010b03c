/- Chapter 4, IsaDecodes: for every word the printed law answers true; no condition. -/
import Derived.Test.YtgaajaddaecejaaGB
import Derived.Test.YtgaajaddaecejaaIsaP
namespace Go.Proofs.Ytgaajaddaecejaa.Isa
open Go.RowKit Go.Proofs.Ytgaajaddaecejaa.PAll Go.Proofs.YtgaajaddaecejaaW.PrintWords Go.Proofs.YtgaajaddaecejaaW.PrintLast Go.Proofs.YtgaajaddaecejaaW.PrintMore
set_option linter.unusedVariables false
set_option linter.unusedSimpArgs false
theorem works_g : perilunelaw04_works.f 100 = some true := by kernel_rfl
theorem decodes_pure (a0 : Int) (a1 : Bool) (h0 : 0 ≤ a0) : perilunelaw04_IsaDecodes.f 100 a0 a1 = some true := by
  unfold perilunelaw04_IsaDecodes.f
  by_cases h : a0 > 32767
  · obtain ⟨e1, e2⟩ := dec_bad a0 a1 h 100
    rw [e1, e2]
    simp only [Option.bind_some, works_g]
    simp
  · rw [dec_prog a0 a1 h0 (by omega) 60, dec_ref a0 a1 h0 (by omega) 50]
    simp only [Option.bind_some, works_g]
    simp
theorem decodes_law (a0 : Int) (a1 : Bool) (w : World) (w0 : (Lit.int .u16 a0).wf = true) :
    Calls Try.prog 5 #[.int .u16 a0, .bool a1] w fun e w' => e = .returned (.bool true) ∧ Below w.heap.size w w' := by
  have h0 : 0 ≤ a0 := by simp [Lit.wf, IntKind.min, IntKind.max, IntKind.signed, IntKind.bits] at w0; omega
  exact perilunelaw04_IsaDecodes.calls 100 a0 a1 true w (decodes_pure a0 a1 h0)
end Go.Proofs.Ytgaajaddaecejaa.Isa
