/- A region that draws its order: what its loads need may be told anew in the midst of the walk (after a call has made memory); no program in sight. -/
import Derived.Test.YtgaajaddaecejaaWTab
namespace Go.Proofs.Ytgaajaddaecejaa.Swap
open Go.Proofs.YtgaajaddaecejaaW.PrintLast
theorem swap_ {P : Program} {ops : Array Oper} {Q : Exit → Act → World → Prop} {md : Region.Mode} {S S2 : World → Prop} (hS : ∀ w, S2 w → S w) :
    ∀ (fuel : Nat) (l : Array Bool) (a : Act) (w : World), S2 w → wpAnyLast P md ops Q S2 [] fuel l a w → wpAnyLast P md ops Q S [] fuel l a w
  | 0, _, _, _, _, h => h
  | fuel + 1, _, _, _, h2, h => ⟨h.1, fun i hi => wpOp_mono (fun a' w' h' => ⟨fun _ _ => hS _ (h'.1 (by simp) h2), swap_ hS fuel _ a' w' (h'.1 (by simp) h2) h'.2⟩) (h.2 i hi)⟩
end Go.Proofs.Ytgaajaddaecejaa.Swap
