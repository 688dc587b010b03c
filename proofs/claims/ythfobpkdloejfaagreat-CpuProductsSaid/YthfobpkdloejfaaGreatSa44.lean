/- Chapter 5: a part of its proof (cut by program out of CpuZ); no condition. -/
import Derived.Test.YthfobpkdloejfaaGreatSa42
import Derived.Test.YthfobpkdloejfaaGreatSa43
section
namespace Go.Proofs.YthfobpkdloejfaaGreat.PAll
open Go.RowKit Go.Proofs.YthfobpkdloejfaaGreat.One Go.Proofs.YthfobpkdloejfaaGreat.Mem Go.Proofs.YthfobpkdloejfaaGreat.Row Go.Proofs.YthfobpkdloejfaaGreatW.PrintWords Go.Proofs.YthfobpkdloejfaaGreatW.PrintLast Go.Proofs.YthfobpkdloejfaaGreatW.PrintMore Go.Proofs.YthfobpkdloejfaaGreat.Plain
set_option linter.unusedVariables false
set_option linter.unusedSimpArgs false
def cpu_Multiply.f (a b : Int) : Option (Int × Int) := if (0 ≤ a ∧ a < 65536) ∧ 0 ≤ b ∧ b < 65536 then some (Cpu.mulH a b, Cpu.mulL a b) else none
theorem cpu_Multiply.calls (a b r1 r2 : Int) (w : World) (h : cpu_Multiply.f a b = some (r1, r2)) : Calls Tryz.prog 24 #[.int .u16 a, .int .u16 b] w fun e w' => e = .returned (.tuple #[.int .u16 r1, .int .u16 r2]) ∧ Below w.heap.size w w' := by
  unfold cpu_Multiply.f at h
  split at h
  · rename_i c
    cases h
    exact (Cpu.mult_c a b c.1.1 c.1.2 c.2.1 c.2.2 w).mono (fun e w' h => ⟨h.1, Cpu.drawn_below h.2⟩)
  · cases h
def cpu_Divide.f (k : Nat) (a b d : Int) : Option (Int × Int) := if (0 ≤ a ∧ a < 65536) ∧ (0 ≤ b ∧ b < 65536) ∧ 0 ≤ d ∧ d < 65536 then some (Cpu.divQ a b d, Cpu.divR a b d) else none
theorem cpu_Divide.calls (k : Nat) (a b d r1 r2 : Int) (w : World) (h : cpu_Divide.f k a b d = some (r1, r2)) : Calls Tryz.prog 26 #[.int .u16 a, .int .u16 b, .int .u16 d] w fun e w' => e = .returned (.tuple #[.int .u16 r1, .int .u16 r2]) ∧ Below w.heap.size w w' := by
  unfold cpu_Divide.f at h
  split at h
  · rename_i c
    cases h
    exact (Cpu.div_c a b d c.1.1 c.1.2 c.2.1.1 c.2.1.2 c.2.2.1 c.2.2.2 w).mono (fun e w' h => ⟨h.1, Cpu.drawn_below h.2⟩)
  · cases h
def perilunelaw05_works.f : Option Bool := some true
theorem perilunelaw05_works.calls (r : Bool) (w : World) (h : perilunelaw05_works.f = some r) : Calls Tryz.prog 20 #[] w fun e w' => e = .returned (.bool r) ∧ Below w.heap.size w w' := by
  cases h
  exact Cpu.works_c w
end Go.Proofs.YthfobpkdloejfaaGreat.PAll
end
