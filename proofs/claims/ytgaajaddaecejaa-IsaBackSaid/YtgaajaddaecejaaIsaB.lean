/- Chapter 4, IsaBack: for every Code, operand and other instruction the printed law answers true; no condition. -/
import Derived.Test.YtgaajaddaecejaaGC
import Derived.Test.YtgaajaddaecejaaIsaP
import Derived.Test.YtgaajaddaecejaaIsaS
namespace Go.Proofs.Ytgaajaddaecejaa.Isa
open Go.RowKit Go.Proofs.Ytgaajaddaecejaa.PAll Go.Proofs.YtgaajaddaecejaaW.PrintWords Go.Proofs.YtgaajaddaecejaaW.PrintLast Go.Proofs.YtgaajaddaecejaaW.PrintMore
set_option linter.unusedVariables false
set_option linter.unusedSimpArgs false
theorem works_b (k : Nat) : perilunelaw04_works.f k = some true := rfl
theorem dec_of_hit {c w : Int} (h : 1 ≤ c ∧ c ≤ 39) (h0 : 0 ≤ w) (h1 : w ≤ 32767) (hh : hitP c w) : decN w (decide (c > 19)) = c := by
  unfold decN
  by_cases hc : c > 19
  · rw [decide_eq_true hc, if_pos rfl]; exact hit_decX (by omega) h.2 h0 h1 hh
  · rw [decide_eq_false hc, if_neg (by decide)]; exact hit_decB h.1 (by omega) h0 h1 hh
theorem span_in {c : Int} (h : 1 ≤ c ∧ c ≤ 39) : loK (kdN c) ≤ hiK (kdN c) := by
  have h1 := all_bool (f := fun c => decide (loK (kdN c) ≤ hiK (kdN c))) (by kernel_rfl) h.1 h.2
  exact of_decide_eq_true h1
theorem back_true (a0 a1 o0 : Int) (s : ByteArray) (x : Bool) (y z t : Int) (g0 : 0 ≤ a0) (g1 : a0 < 256) (g2 : 0 ≤ a1) (g3 : a1 < 65536) : perilunelaw04_IsaBack.f 100 a0 a1 o0 s x y z t = some true := by
  obtain ⟨c, hc⟩ : ∃ c, (Int.tmod a0 39 + 1) % 256 = c := ⟨_, rfl⟩
  have h : 1 ≤ c ∧ c ≤ 39 := by
    rw [Int.tmod_eq_emod_of_nonneg g0] at hc
    omega
  have tb := tab_in h
  have sp := span_in h
  unfold perilunelaw04_IsaBack.f
  rw [hc, of_prog, show ofN c = opN c by unfold ofN; rw [if_pos h]]
  simp only [Option.bind_some]
  have x0 : (opN c).2.2.2.2.2.2 = 0 := rfl
  have x1 : (opN c).1 = c := rfl
  have x2 : (opN c).2.2.2.1 = kdN c := rfl
  rw [if_pos x0, x1, x2, range_prog]
  simp only [Option.bind_some]
  have e1 : wrap64 (wrap64 (hiK (kdN c) - loK (kdN c)) + 1) = hiK (kdN c) - loK (kdN c) + 1 := by
    rw [w64 (n := hiK (kdN c) - loK (kdN c)) (by omega) (by omega), w64 (by omega) (by omega)]
  rw [e1, if_neg (by omega)]
  obtain ⟨n, hn⟩ : ∃ n, wrap64 (loK (kdN c) + Int.tmod (wrap64 a1) (hiK (kdN c) - loK (kdN c) + 1)) = n := ⟨_, rfl⟩
  have hr : loK (kdN c) ≤ n ∧ n ≤ hiK (kdN c) := by
    rw [w64 (n := a1) (by omega) (by omega), Int.tmod_eq_emod_of_nonneg g2] at hn
    have m0 := Int.emod_nonneg a1 (show hiK (kdN c) - loK (kdN c) + 1 ≠ 0 by omega)
    have m1 := Int.emod_lt_of_pos a1 (show 0 < hiK (kdN c) - loK (kdN c) + 1 by omega)
    rw [w64 (by omega) (by omega)] at hn
    omega
  rw [hn, enc_prog, Option.bind_some, enc_prog, Option.bind_some, if_pos rfl, bne_self_eq_false]
  rw [perilunelaw04_IsaBack.j0, if_neg (by decide)]
  cases hres : resN c n with
  | false =>
    have ee : encN c n = (baseN c + n, 0) := by unfold encN; rw [if_pos h, if_pos ⟨hr.1, hr.2, hres⟩]
    have hw : hitP c (baseN c + n) := by
      unfold hitP
      rw [show baseN c + n - baseN c = n by omega]
      exact ⟨hr.1, hr.2, hres⟩
    have x3 : (opN c).2.2.1 = decide (c > 19) := rfl
    rw [ee, if_pos rfl, x3, dec_prog _ _ (by omega) (by omega) 59, dec_of_hit h (by omega) (by omega) hw, Option.bind_some, show baseN c + n - baseN c = n by omega]
    simp [pk, x1, x3, x2, works_b]
  | true =>
    have ee : encN c n = (0, 3) := by unfold encN; rw [if_pos h, if_neg (by rw [hres]; simp)]
    have x4 : (opN c).2.1 = (entOf c).1 := rfl
    rw [ee, if_neg (show ¬ ((3 : Int) = 0) by decide), if_pos rfl, if_pos rfl, x4]
    simp only [nm_TC h, nm_INDEX h, works_b, Option.bind_some]
    unfold resN at hres
    by_cases c1 : c = 1
    · rw [if_pos c1]
      have : n = 3 ∨ n = 4 ∨ n = 6 := by simpa [c1, or_assoc] using hres
      rcases this with rfl | rfl | rfl <;> simp
    · rw [if_neg c1]
      have : c = 13 ∧ n = 15 := by simpa [c1] using hres
      rw [if_pos this.1, if_pos this.2]
theorem back_law (a0 a1 : Int) (z2 : S27) (w : World) (w0 : (Lit.int .u8 a0).wf = true) (w1 : (Lit.int .u16 a1).wf = true) (b2 : (Lit.int .u8 z2.f0).wf = true ∧ z2.f1.size ≤ maxLen ∧ True ∧ (Lit.int .u8 z2.f3).wf = true ∧ (Lit.int .i64 z2.f4).wf = true ∧ (Lit.int .i64 z2.f5).wf = true) :
    Calls Try.prog 7 #[.int .u8 a0, .int .u16 a1, .agg #[.int .u8 z2.f0, .string z2.f1, .bool z2.f2, .int .u8 z2.f3, .int .i64 z2.f4, .int .i64 z2.f5]] w fun e w' => e = .returned (.bool true) ∧ Below w.heap.size w w' := by
  have h0 : 0 ≤ a0 ∧ a0 < 256 := by simp [Lit.wf, IntKind.min, IntKind.max, IntKind.signed, IntKind.bits] at w0; omega
  have h1 : 0 ≤ a1 ∧ a1 < 65536 := by simp [Lit.wf, IntKind.min, IntKind.max, IntKind.signed, IntKind.bits] at w1; omega
  exact perilunelaw04_IsaBack.calls 100 a0 a1 z2.f0 z2.f1 z2.f2 z2.f3 z2.f4 z2.f5 true w (back_true a0 a1 z2.f0 z2.f1 z2.f2 z2.f3 z2.f4 z2.f5 h0.1 h0.2 h1.1 h1.2)
end Go.Proofs.Ytgaajaddaecejaa.Isa
