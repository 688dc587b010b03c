/- Chapter 5: a part of its proof (cut by program out of CpuPr); no condition. -/
import Derived.Test.YthfobpkdloejfaaGreatLo22
set_option linter.unusedVariables false
set_option linter.unusedSimpArgs false
set_option linter.unusedSectionVars false
set_option maxRecDepth 100000
set_option maxHeartbeats 8000000
section
namespace Go.Proofs.YthfobpkdloejfaaGreat.Cpu
open Go.RowKit Go.Proofs.YthfobpkdloejfaaGreat.PAll Go.Proofs.YthfobpkdloejfaaGreat.One Go.Proofs.YthfobpkdloejfaaGreat.Mem Go.Proofs.YthfobpkdloejfaaGreatW.PrintWords Go.Proofs.YthfobpkdloejfaaGreatW.PrintLast Go.Proofs.YthfobpkdloejfaaGreatW.PrintMore Go.Proofs.YthfobpkdloejfaaGreat.Plain
theorem val_lo (x : Int) : -16383 ≤ valI x ∧ valI x ≤ 16383 := by unfold valI; split <;> omega
theorem absI_le (x : Int) : absI (valI x) ≤ 16383 := by have := val_lo x; unfold absI; split <;> omega
theorem prod_abs (a b : Int) : absI (valI a * valI b) ≤ 268402689 := by
 rw [mul_abs]
 have h1 := absI_le a; have h2 := absI_le b; have h3 := abs_b (valI a); have h4 := abs_b (valI b)
 have := Int.mul_le_mul h1 h2 h4 (by decide)
 omega
theorem mulL_b (a b : Int) : 0 ≤ mulL a b ∧ mulL a b < 65536 := by
 have hp := prod_abs a b; have h0 := abs_b (valI a * valI b)
 unfold mulL; split
 · omega
 · have := neg_b (absI (valI a * valI b) % 16384); omega
section
variable {hi lo d : Int} (h : absI (16384 * valI hi + valI lo) < 16384 * absI (valI d))
include h
theorem div_M : 0 < absI (valI d) := by have := abs_b (16384 * valI hi + valI lo); omega
theorem div_r : 0 ≤ absI (16384 * valI hi + valI lo) % absI (valI d) ∧ absI (16384 * valI hi + valI lo) % absI (valI d) < absI (valI d) :=
 ⟨Int.emod_nonneg _ (by have := div_M h; omega), Int.emod_lt_of_pos _ (div_M h)⟩
end
end Go.Proofs.YthfobpkdloejfaaGreat.Cpu
end
