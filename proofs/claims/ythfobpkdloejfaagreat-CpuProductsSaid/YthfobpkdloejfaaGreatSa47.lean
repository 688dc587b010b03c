/- Chapter 5: a part of its proof (cut by program out of CpuLP); no condition. -/
import Derived.Test.YthfobpkdloejfaaGreatSa46
section
namespace Go.Proofs.YthfobpkdloejfaaGreat.Cpu
open Go.RowKit Go.Proofs.YthfobpkdloejfaaGreat.PAll Go.Proofs.YthfobpkdloejfaaGreat.One Go.Proofs.YthfobpkdloejfaaGreat.Mem Go.Proofs.YthfobpkdloejfaaGreat.Row Go.Proofs.YthfobpkdloejfaaGreatW.PrintWords Go.Proofs.YthfobpkdloejfaaGreatW.PrintLast Go.Proofs.YthfobpkdloejfaaGreatW.PrintMore Go.Proofs.YthfobpkdloejfaaGreat.Plain
set_option linter.unusedVariables false
set_option linter.unusedSimpArgs false
set_option linter.unusedSectionVars false
theorem mx_abs {x : Int} (h0 : -9223372036854775807 ≤ x) (h1 : x ≤ 9223372036854775807) : mx x (wrap64 (-x)) = absI x := by
  unfold mx absI wrap64; split <;> split <;> omega
theorem divR_b (a b d : Int) : 0 ≤ divR a b d ∧ divR a b d < 65536 := by
  unfold divR
  by_cases h : absI (16384 * valI a + valI b) < 16384 * absI (valI d)
  · have := div_r h; have := absI_le d
    rw [if_pos h]
    split
    · have := neg_b (absI (16384 * valI a + valI b) % absI (valI d)); omega
    · omega
  · rw [if_neg h]; omega
theorem mul_bd (a b : Int) : -268402689 ≤ valI a * valI b ∧ valI a * valI b ≤ 268402689 := by
  have := prod_abs a b
  unfold absI at this; split at this <;> omega
section
variable (a b c : Int) (a0 : 0 ≤ a) (a1 : a < 65536) (b0 : 0 ≤ b) (b1 : b < 65536) (c0 : 0 ≤ c) (c1 : c < 65536)
include a0 a1 b0 b1
theorem j2_t (k : Nat) (y : Bool) (hy : y = false → valI b ≠ 0) : perilunelaw05_CpuProducts.j2 (k + 1) b (valI a) (mulH a b) (mulL a b) y = some true := by
  rw [perilunelaw05_CpuProducts.j2]
  cases y
  · rw [if_neg (by decide)]
    have hb := hy rfl
    unfold cpu_Divide.f
    rw [if_pos ⟨prodH_b a b, mulL_b a b, b0, b1⟩]
    simp only [Option.bind_some]
    rw [value_f _ (divQ_b _ _ _).1 (divQ_b _ _ _).2, back_q hb]
    simp only [Option.bind_some]
    rw [if_pos trivial, value_f _ (divR_b _ _ _).1 (divR_b _ _ _).2, back_r hb]
    rfl
  · rw [if_pos rfl]; rfl
theorem j1_t (k : Nat) : perilunelaw05_CpuProducts.j1 (k + 2) b (valI a) (valI b) (mulH a b) (mulL a b) = some true := by
  rw [perilunelaw05_CpuProducts.j1]
  by_cases hb : valI b = 0
  · rw [if_pos hb]; exact j2_t a b a0 a1 b0 b1 k true (fun h => by cases h)
  · rw [if_neg hb]; exact j2_t a b a0 a1 b0 b1 k _ (fun _ => hb)
include c0 c1
theorem j0_t (k : Nat) : perilunelaw05_CpuProducts.j0 (k + 3) a b c (valI a) (valI b) (mulH a b) (mulL a b) (16384 * valI a + valI b) (valI c) false = some true := by
  have va := val_lo a; have vb := val_lo b; have vc := val_lo c
  have ha := absI_le c
  have hp := abs_b (valI c)
  rw [perilunelaw05_CpuProducts.j0]
  rw [if_neg (by decide)]
  unfold cpu_Divide.f
  rw [if_pos ⟨⟨a0, a1⟩, ⟨b0, b1⟩, c0, c1⟩]
  simp only [Option.bind_some]
  rw [mx_abs (by omega) (by omega), mx_abs (by omega) (by omega)]
  have e1 : wrap64 (16384 * absI (valI c)) = 16384 * absI (valI c) := by unfold wrap64; omega
  rw [e1]
  by_cases h : absI (16384 * valI a + valI b) < 16384 * absI (valI c)
  · have hr := divR_abs h
    have hv := div_val h
    have hq := val_lo (divQ a b c)
    rw [if_pos h, value_f _ (divR_b _ _ _).1 (divR_b _ _ _).2]
    simp only [Option.bind_some]
    rw [if_neg (by omega), if_neg (by omega), value_f _ (divQ_b _ _ _).1 (divQ_b _ _ _).2]
    simp only [Option.bind_some]
    have hm := mul_bd (divQ a b c) c
    have e2 : wrap64 (valI (divQ a b c) * valI c) = valI (divQ a b c) * valI c := by unfold wrap64; omega
    have e3 : wrap64 (valI (divQ a b c) * valI c + valI (divR a b c)) = 16384 * valI a + valI b := by rw [hv]; unfold wrap64; omega
    rw [e2, e3, if_pos rfl, mx_abs (by omega) (by omega), if_neg (by omega)]
    exact j1_t a b a0 a1 b0 b1 k
  · obtain ⟨hr, hq⟩ := div_sat h
    rw [if_neg h, hr, if_pos (by rw [Int.tmod_eq_emod_of_nonneg b0]), value_f _ (divQ_b _ _ _).1 (divQ_b _ _ _).2]
    simp only [Option.bind_some]
    rcases hq with hq | hq
    · rw [if_pos hq]; exact j1_t a b a0 a1 b0 b1 k
    · rw [if_neg (by omega), if_pos hq]; exact j1_t a b a0 a1 b0 b1 k
theorem products_t (k : Nat) : perilunelaw05_CpuProducts.f (k + 3) a b c = some true := by
  have va := val_lo a; have vb := val_lo b; have vc := val_lo c
  have hm := mul_bd a b
  unfold perilunelaw05_CpuProducts.f
  rw [value_f a a0 a1, value_f b b0 b1, value_f c c0 c1]
  unfold cpu_Multiply.f
  rw [if_pos ⟨⟨a0, a1⟩, b0, b1⟩]
  simp only [Option.bind_some]
  rw [value_f _ (prodH_b a b).1 (prodH_b a b).2, value_f _ (mulL_b a b).1 (mulL_b a b).2]
  simp only [Option.bind_some]
  have hh := val_lo (mulH a b); have hl := val_lo (mulL a b)
  have e1 : wrap64 (16384 * valI (mulH a b)) = 16384 * valI (mulH a b) := by unfold wrap64; omega
  have e2 : wrap64 (16384 * valI (mulH a b) + valI (mulL a b)) = valI a * valI b := by rw [mul_val]; unfold wrap64; omega
  have e3 : wrap64 (valI a * valI b) = valI a * valI b := by unfold wrap64; omega
  have e4 : wrap64 (16384 * valI a) = 16384 * valI a := by unfold wrap64; omega
  have e5 : wrap64 (16384 * valI a + valI b) = 16384 * valI a + valI b := by unfold wrap64; omega
  have e6 : mx (mx (valI a) (valI b)) (valI c) ≤ 16383 := by unfold mx; split <;> split <;> omega
  have e7 : decide (mn (mn (valI a) (valI b)) (valI c) < -16383) = false := decide_eq_false (by unfold mn; split <;> split <;> omega)
  rw [e1, e2, e3, e4, e5, if_pos rfl, if_neg (by omega), e7]
  exact j0_t a b c a0 a1 b0 b1 c0 c1 k
end
theorem products_law (a0 a1 a2 : Int) (w : World) (w0 : (Lit.int .u16 a0).wf = true) (w1 : (Lit.int .u16 a1).wf = true) (w2 : (Lit.int .u16 a2).wf = true) : Calls Tryz.prog 7 #[.int .u16 a0, .int .u16 a1, .int .u16 a2] w fun e w' => e = .returned (.bool true) ∧ Below w.heap.size w w' := by
  simp [Lit.wf, IntKind.min, IntKind.max, IntKind.signed, IntKind.bits] at w0 w1 w2
  exact perilunelaw05_CpuProducts.calls 3 a0 a1 a2 true w (products_t a0 a1 a2 (by omega) (by omega) (by omega) (by omega) (by omega) (by omega) 0)
end Go.Proofs.YthfobpkdloejfaaGreat.Cpu
end
