/- Chapter 5: a part of its proof (cut by program out of CpuO); no condition. -/
import Derived.Test.YtgbmaajfbbilhaaGreatKn14
set_option linter.unusedVariables false
set_option linter.unusedSimpArgs false
set_option linter.unusedSectionVars false
set_option maxRecDepth 100000
set_option maxHeartbeats 8000000
section
namespace Go.Proofs.YtgbmaajfbbilhaaGreat.Cpu
open Go.RowKit Go.Proofs.YtgbmaajfbbilhaaGreat.PAll Go.Proofs.YtgbmaajfbbilhaaGreat.One Go.Proofs.YtgbmaajfbbilhaaGreat.Mem Go.Proofs.YtgbmaajfbbilhaaGreatW.PrintWords Go.Proofs.YtgbmaajfbbilhaaGreatW.PrintLast Go.Proofs.YtgbmaajfbbilhaaGreatW.PrintMore Go.Proofs.YtgbmaajfbbilhaaGreat.Plain
theorem ext_b (x : Int) : 0 ≤ extI x ∧ extI x ≤ 65535 := by unfold extI; split <;> omega
theorem ext_lt (x : Int) : extI x < 65536 := by have := ext_b x; omega
theorem cor_b {a : Int} (h0 : 0 ≤ a) (h1 : a ≤ 65535) : 0 ≤ corI a ∧ corI a ≤ 32767 := by unfold corI; omega
theorem addAcc_b {a b : Int} (h0 : 0 ≤ a) (h1 : a ≤ 65535) (h2 : 0 ≤ b) (h3 : b ≤ 65535) : 0 ≤ addAccI a b ∧ addAccI a b ≤ 65535 := by unfold addAccI; split <;> omega
theorem neg_b (a : Int) : 0 ≤ negI a ∧ negI a ≤ 32767 := by unfold negI; omega
theorem td_b (a b : Int) : 0 ≤ tdI a b ∧ tdI a b ≤ 32767 := by unfold tdI; split <;> omega
theorem unit_b (a : Int) : 0 ≤ unitI a ∧ unitI a ≤ 65535 := by unfold unitI; split <;> (try split) <;> omega
theorem cls_b (a : Int) : 0 ≤ clsI a ∧ clsI a ≤ 3 := by unfold clsI; split <;> (try split) <;> (try split) <;> omega
theorem val_b (x : Int) : -16384 ≤ valI x ∧ valI x ≤ 16383 := by unfold valI; split <;> omega
theorem abs_b (x : Int) : 0 ≤ absI x := by unfold absI; split <;> omega
theorem elem_b (l : List Int) (i : Int) : 0 ≤ elemN l i ∧ elemN l i ≤ 32767 := by unfold elemN; split <;> omega
theorem reg_b {r : Rg} (h : r.Ok) (i : Int) : 0 ≤ regN r i ∧ regN r i ≤ 65535 := by
 unfold regN
 have := h.a0; have := h.a1
 repeat' split
 all_goals (first | exact ext_b _ | omega)
theorem look_b {r : Rg} (h : r.Ok) (v : Vw) (x : Sp) : 0 ≤ (lookN r v x).1 ∧ (lookN r v x).1 ≤ 65535 := by
 unfold lookN
 split
 · exact ext_b _
 · split
   · exact reg_b h _
   · exact ext_b _
theorem val_abs (x : Int) : absI (valI x) ≤ 16384 := by have := val_b x; unfold absI; split <;> omega
theorem mul_abs (a b : Int) : absI (valI a * valI b) = absI (valI a) * absI (valI b) := by
 unfold absI
 split <;> split <;> split
 all_goals (try simp only [Int.neg_mul, Int.mul_neg, Int.neg_neg])
 all_goals (try rfl)
 · rename_i h1 h2 h3
   have := Int.mul_nonneg_of_nonpos_of_nonpos (show valI a ≤ 0 by omega) (show valI b ≤ 0 by omega)
   omega
 · rename_i h1 h2 h3
   exact absurd (Int.mul_nonneg (show 0 ≤ valI a by omega) (show 0 ≤ valI b by omega)) (by omega)
 · rename_i h1 h2 h3
   have : valI a * valI b ≤ 0 := Int.mul_nonpos_of_nonpos_of_nonneg (by omega) (by omega)
   omega
 · rename_i h1 h2 h3
   have : valI a * valI b ≤ 0 := Int.mul_nonpos_of_nonneg_of_nonpos (by omega) (by omega)
   omega
end Go.Proofs.YtgbmaajfbbilhaaGreat.Cpu
end
