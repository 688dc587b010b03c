/- Chapter 5: a part of its proof (cut by program out of CpuPr); no condition. -/
import Derived.Test.YthfobpkdloejfaaGreatSa20
section
namespace Go.Proofs.YthfobpkdloejfaaGreat.Cpu
open Go.RowKit Go.Proofs.YthfobpkdloejfaaGreat.PAll Go.Proofs.YthfobpkdloejfaaGreat.One Go.Proofs.YthfobpkdloejfaaGreat.Mem Go.Proofs.YthfobpkdloejfaaGreatW.PrintWords Go.Proofs.YthfobpkdloejfaaGreatW.PrintLast Go.Proofs.YthfobpkdloejfaaGreatW.PrintMore Go.Proofs.YthfobpkdloejfaaGreat.Plain
set_option linter.unusedVariables false
set_option linter.unusedSimpArgs false
theorem val_lo (x : Int) : -16383 ≤ valI x ∧ valI x ≤ 16383 := by unfold valI; split <;> omega
theorem val_pos {x : Int} (h : negB x = false) : 0 ≤ valI x := by
  have h := of_decide_eq_false h
  unfold valI; split <;> omega
theorem val_neg {x : Int} (h : negB x = true) : valI x ≤ 0 := by
  have h := of_decide_eq_true h
  unfold valI; split <;> omega
theorem val_small {m : Int} (h0 : 0 ≤ m) (h1 : m ≤ 16383) : valI m = m := by unfold valI; rw [if_neg (by omega)]; omega
theorem val_negI {m : Int} (h0 : 0 ≤ m) (h1 : m ≤ 16383) : valI (negI m) = -m := by unfold valI negI; split <;> omega
theorem neg_small {m : Int} (h0 : 0 ≤ m) (h1 : m ≤ 16383) : negB m = false := decide_eq_false (by omega)
theorem neg_negI {m : Int} (h0 : 0 ≤ m) (h1 : m ≤ 16383) : negB (negI m) = true := decide_eq_true (by unfold negI; omega)
theorem absI_le (x : Int) : absI (valI x) ≤ 16383 := by have := val_lo x; unfold absI; split <;> omega
theorem abs_pos {x : Int} (h : 0 ≤ x) : absI x = x := by unfold absI; rw [if_neg (by omega)]
theorem abs_neg {x : Int} (h : x ≤ 0) : absI x = -x := by unfold absI; split <;> omega
theorem prod_abs (a b : Int) : absI (valI a * valI b) ≤ 268402689 := by
  rw [mul_abs]
  have h1 := absI_le a; have h2 := absI_le b; have h3 := abs_b (valI a); have h4 := abs_b (valI b)
  have := Int.mul_le_mul h1 h2 h4 (by decide)
  omega
theorem prod_pos {a b : Int} (h : negB a = negB b) : 0 ≤ valI a * valI b := by
  cases hb : negB b
  · rw [hb] at h; exact Int.mul_nonneg (val_pos h) (val_pos hb)
  · rw [hb] at h; exact Int.mul_nonneg_of_nonpos_of_nonpos (val_neg h) (val_neg hb)
theorem prod_neg {a b : Int} (h : negB a ≠ negB b) : valI a * valI b ≤ 0 := by
  cases hb : negB b
  · have ha : negB a = true := by cases h' : negB a <;> simp_all
    exact Int.mul_nonpos_of_nonpos_of_nonneg (val_neg ha) (val_pos hb)
  · have ha : negB a = false := by cases h' : negB a <;> simp_all
    exact Int.mul_nonpos_of_nonneg_of_nonpos (val_pos ha) (val_neg hb)
theorem mul_val (a b : Int) : 16384 * valI (mulH a b) + valI (mulL a b) = valI a * valI b := by
  have hp := prod_abs a b
  have h0 := abs_b (valI a * valI b)
  unfold mulH mulL
  by_cases h : negB a = negB b
  · rw [if_pos h, if_pos h]
    have := prod_pos h
    generalize valI a * valI b = P at *
    rw [abs_pos this] at *
    rw [val_small (m := P / 16384) (by omega) (by omega), val_small (m := P % 16384) (by omega) (by omega)]
    omega
  · rw [if_neg h, if_neg h]
    have := prod_neg h
    generalize valI a * valI b = P at *
    rw [abs_neg this] at *
    rw [val_negI (m := -P / 16384) (by omega) (by omega), val_negI (m := -P % 16384) (by omega) (by omega)]
    omega
theorem prodH_b (a b : Int) : 0 ≤ mulH a b ∧ mulH a b < 65536 := by
  have hp := prod_abs a b; have h0 := abs_b (valI a * valI b)
  unfold mulH; split
  · omega
  · have := neg_b (absI (valI a * valI b) / 16384); omega
theorem mulL_b (a b : Int) : 0 ≤ mulL a b ∧ mulL a b < 65536 := by
  have hp := prod_abs a b; have h0 := abs_b (valI a * valI b)
  unfold mulL; split
  · omega
  · have := neg_b (absI (valI a * valI b) % 16384); omega
theorem divM_neg {hi lo : Int} (h : divM hi lo = true) : 16384 * valI hi + valI lo ≤ 0 := by
  unfold divM at h
  have := val_lo hi; have := val_lo lo
  split at h
  · have := val_neg h; omega
  · have := val_neg h; omega
theorem divM_pos {hi lo : Int} (h : divM hi lo = false) : 0 ≤ 16384 * valI hi + valI lo := by
  unfold divM at h
  have := val_lo hi; have := val_lo lo
  split at h
  · have := val_pos h; omega
  · have := val_pos h; omega
section
variable {hi lo d : Int} (h : absI (16384 * valI hi + valI lo) < 16384 * absI (valI d))
include h
theorem div_M : 0 < absI (valI d) := by have := abs_b (16384 * valI hi + valI lo); omega
theorem div_q : 0 ≤ absI (16384 * valI hi + valI lo) / absI (valI d) ∧ absI (16384 * valI hi + valI lo) / absI (valI d) ≤ 16383 := by
  have hM := div_M h
  refine ⟨Int.ediv_nonneg (abs_b _) (abs_b _), ?_⟩
  have := Int.ediv_lt_of_lt_mul hM h
  omega
theorem div_r : 0 ≤ absI (16384 * valI hi + valI lo) % absI (valI d) ∧ absI (16384 * valI hi + valI lo) % absI (valI d) < absI (valI d) :=
  ⟨Int.emod_nonneg _ (by have := div_M h; omega), Int.emod_lt_of_pos _ (div_M h)⟩
theorem divQ_val : valI (divQ hi lo d) = if divM hi lo = negB d then absI (16384 * valI hi + valI lo) / absI (valI d) else -(absI (16384 * valI hi + valI lo) / absI (valI d)) := by
  have hq := div_q h
  unfold divQ
  rw [if_pos h]
  split
  · exact val_small hq.1 hq.2
  · exact val_negI hq.1 hq.2
theorem divR_val : valI (divR hi lo d) = if divM hi lo = true then -(absI (16384 * valI hi + valI lo) % absI (valI d)) else absI (16384 * valI hi + valI lo) % absI (valI d) := by
  have hr := div_r h
  have := absI_le d
  unfold divR
  rw [if_pos h]
  split
  · exact val_negI hr.1 (by omega)
  · exact val_small hr.1 (by omega)
theorem div_val : valI (divQ hi lo d) * valI d + valI (divR hi lo d) = 16384 * valI hi + valI lo := by
  rw [divQ_val h, divR_val h]
  have e := Int.mul_ediv_add_emod (absI (16384 * valI hi + valI lo)) (absI (valI d))
  generalize absI (16384 * valI hi + valI lo) / absI (valI d) = q at *
  generalize absI (16384 * valI hi + valI lo) % absI (valI d) = r at *
  have hn : 16384 * valI hi + valI lo = if divM hi lo = true then -absI (16384 * valI hi + valI lo) else absI (16384 * valI hi + valI lo) := by
    cases hm : divM hi lo
    · rw [if_neg (by decide), abs_pos (divM_pos hm)]
    · rw [if_pos rfl, abs_neg (divM_neg hm)]; omega
  have hd : valI d = if negB d = true then -absI (valI d) else absI (valI d) := by
    cases hm : negB d
    · rw [if_neg (by decide), abs_pos (val_pos hm)]
    · rw [if_pos rfl, abs_neg (val_neg hm)]; omega
  generalize absI (16384 * valI hi + valI lo) = N at *
  generalize absI (valI d) = M at *
  rw [hn, hd]
  have e2 : q * M = M * q := Int.mul_comm _ _
  cases divM hi lo <;> cases negB d <;> simp [Int.neg_mul, Int.mul_neg] <;> omega
theorem divR_abs : -16383 ≤ valI (divR hi lo d) ∧ valI (divR hi lo d) ≤ 16383 ∧ absI (valI (divR hi lo d)) < absI (valI d) := by
  have hr := div_r h
  have := absI_le d
  rw [divR_val h]
  generalize absI (16384 * valI hi + valI lo) % absI (valI d) = q at *
  split
  · rw [abs_neg (x := -q) (by omega)]; omega
  · rw [abs_pos (x := q) (by omega)]; omega
end
theorem div_sat {hi lo d : Int} (h : ¬ absI (16384 * valI hi + valI lo) < 16384 * absI (valI d)) : divR hi lo d = lo % 32768 ∧ (valI (divQ hi lo d) = 16383 ∨ valI (divQ hi lo d) = -16383) := by
  unfold divR divQ
  rw [if_neg h, if_neg h]
  refine ⟨rfl, ?_⟩
  split
  · exact Or.inl (by decide)
  · exact Or.inr (by decide)
theorem divM_mul (a b : Int) : divM (mulH a b) (mulL a b) = (negB a != negB b) := by
  have hp := prod_abs a b; have h0 := abs_b (valI a * valI b)
  unfold divM mulH mulL
  by_cases h : negB a = negB b
  · rw [if_pos h, if_pos h, h, bne_self_eq_false]
    rw [neg_small (by omega) (by omega), neg_small (by omega) (by omega)]
    split <;> rfl
  · rw [if_neg h, if_neg h]
    rw [neg_negI (by omega) (by omega), neg_negI (by omega) (by omega)]
    have : (negB a != negB b) = true := by simpa using h
    rw [this]
    split <;> rfl
theorem back_lt {a b : Int} (hb : valI b ≠ 0) : absI (16384 * valI (mulH a b) + valI (mulL a b)) < 16384 * absI (valI b) := by
  rw [mul_val, mul_abs]
  have h1 := absI_le a
  have h2 : 0 < absI (valI b) := by unfold absI; split <;> omega
  have := Int.mul_lt_mul_of_pos_right (show absI (valI a) < 16384 by omega) h2
  exact this
theorem back_q {a b : Int} (hb : valI b ≠ 0) : valI (divQ (mulH a b) (mulL a b) b) = valI a := by
  have h2 : absI (valI b) ≠ 0 := by unfold absI; split <;> omega
  rw [divQ_val (back_lt hb), mul_val, mul_abs, divM_mul, Int.mul_ediv_cancel _ h2]
  cases ha : negB a <;> cases hb' : negB b <;> simp
  · exact abs_pos (val_pos ha)
  · exact abs_pos (val_pos ha)
  · rw [abs_neg (val_neg ha)]; omega
  · rw [abs_neg (val_neg ha)]; omega
theorem back_r {a b : Int} (hb : valI b ≠ 0) : valI (divR (mulH a b) (mulL a b) b) = 0 := by
  rw [divR_val (back_lt hb), mul_val, mul_abs, Int.mul_emod_left]
  split <;> rfl
end Go.Proofs.YthfobpkdloejfaaGreat.Cpu
end
