/- Chapter 5: a part of its proof (cut by program out of CpuPr); no condition. -/
import Derived.Test.YthfobpkdloejfaaGreatDb19
section
namespace Go.Proofs.YthfobpkdloejfaaGreat.Cpu
open Go.RowKit Go.Proofs.YthfobpkdloejfaaGreat.PAll Go.Proofs.YthfobpkdloejfaaGreat.One Go.Proofs.YthfobpkdloejfaaGreat.Mem Go.Proofs.YthfobpkdloejfaaGreatW.PrintWords Go.Proofs.YthfobpkdloejfaaGreatW.PrintLast Go.Proofs.YthfobpkdloejfaaGreatW.PrintMore Go.Proofs.YthfobpkdloejfaaGreat.Plain
set_option linter.unusedVariables false
set_option linter.unusedSimpArgs false
theorem val_lo (x : Int) : -16383 ≤ valI x ∧ valI x ≤ 16383 := by unfold valI; split <;> omega
section
variable {hi lo d : Int} (h : absI (16384 * valI hi + valI lo) < 16384 * absI (valI d))
include h
end
end Go.Proofs.YthfobpkdloejfaaGreat.Cpu
end
