/- What Bank, Absolute and Operand of memory and of its reference compute, as whole numbers, and their contracts; no condition at all. -/
import Derived.Test.YtllmmgjmkgiodaaF6
import Derived.Test.YtllmmgjmkgiodaaBits2
import Derived.Lib.Hide
namespace Go.Proofs.Ytllmmgjmkgiodaa.Mem
open Go.RowKit Go.Proofs.Ytllmmgjmkgiodaa.PAll Go.Proofs.YtllmmgjmkgiodaaW.PrintWords Go.Proofs.YtllmmgjmkgiodaaW.PrintLast Go.Proofs.YtllmmgjmkgiodaaW.PrintMore Go.Proofs.Ytllmmgjmkgiodaa.Plain
set_option linter.unusedVariables false
set_option linter.unusedSimpArgs false
def bankN (a b : Int) : Int := if a < 0 ∨ a > 31 ∨ b < 0 ∨ b > 7 then 0 else if a < 24 ∨ b < 4 then a else if a > 27 then 0 else a + 8
def bankE (a b : Int) : Int := if a < 0 ∨ a > 31 ∨ b < 0 ∨ b > 7 then 3 else if a < 24 ∨ b < 4 then 0 else if a > 27 then 3 else 0
def absX (k e f : Int) : Int := if k < 0 ∨ k > 4095 ∨ e < 0 ∨ e > 7 ∨ f < 0 ∨ f > 35 then 0 else if k < 1024 then 1 else 2
def absA (k e f : Int) : Int := if k < 0 ∨ k > 4095 ∨ e < 0 ∨ e > 7 ∨ f < 0 ∨ f > 35 then 0 else if k < 768 then k else if k < 1024 then e * 256 + k - 768 else if k < 2048 then f * 1024 + k - 1024 else k
def absE (k e f : Int) : Int := if k < 0 ∨ k > 4095 ∨ e < 0 ∨ e > 7 ∨ f < 0 ∨ f > 35 then 3 else 0
def opdBad (s a e f : Int) : Prop := e < 0 ∨ e > 7 ∨ f < 0 ∨ f > 35 ∨ a < 0 ∨ (s = 1 ∧ a > 2047) ∨ (s = 2 ∧ a > 36863)
instance (s a e f : Int) : Decidable (opdBad s a e f) := by unfold opdBad; infer_instance
def opdN (s a e f : Int) : Int := if s ≠ 1 ∧ s ≠ 2 then 0 else if opdBad s a e f then 0 else if s = 1 then (if a < 768 then a else if a / 256 = e then 768 + a % 256 else 0) else (if a / 2048 = 1 then a else if a / 1024 = f then 1024 + a % 1024 else 0)
def opdE (s a e f : Int) : Int := if s ≠ 1 ∧ s ≠ 2 then 2 else if opdBad s a e f then 3 else if s = 1 then (if a < 768 then 0 else if a / 256 = e then 0 else 3) else (if a / 2048 = 1 then 0 else if a / 1024 = f then 0 else 3)
theorem wraps64 (n : Int) (h₀ : 0 ≤ n) (h₁ : n < 2 ^ 63) : IntKind.i64.wrap n = n := by
  have e : n % 2 ^ 64 = n := Int.emod_eq_of_lt (by omega) (by omega)
  simp only [IntKind.wrap, IntKind.bits, IntKind.signed, e]
  rw [if_neg]; simp; omega
theorem and_low (i : Nat) (hi : i ≤ 63) {x : Int} (h0 : 0 ≤ x) (h1 : x < 2 ^ 63) : Go.bits .and .i64 x (2 ^ i - 1) = x % 2 ^ i := bits_mask .i64 63 (by decide) wraps64 i (by exact hi) x h0 h1
theorem and_255 {x : Int} (h0 : 0 ≤ x) (h1 : x < 2 ^ 63) : Go.bits .and .i64 x 255 = x % 256 := and_low 8 (by decide) h0 h1
theorem and_1023 {x : Int} (h0 : 0 ≤ x) (h1 : x < 2 ^ 63) : Go.bits .and .i64 x 1023 = x % 1024 := and_low 10 (by decide) h0 h1
theorem i64_or_nat (a b : Nat) (ha : a < 4611686018427387904) (hb : b < 4611686018427387904) : Go.bits .or .i64 (a : Int) (b : Int) = ((a ||| b : Nat) : Int) := by
  have hx : a ||| b < 2 ^ 62 := Nat.or_lt_two_pow (by omega) (by omega)
  show IntKind.i64.wrap ((BitVec.ofInt 64 (a : Int) ||| BitVec.ofInt 64 (b : Int)).toNat : Int) = _
  rw [BitVec.toNat_or, ofInt_u64 a (by omega), ofInt_u64 b (by omega)]
  exact wraps64 _ (by omega) (by omega)
theorem or_apart {x y : Int} (i : Nat) (hx0 : 0 ≤ x) (hx1 : x < 4611686018427387904) (hy0 : 0 ≤ y) (hy1 : y < 4611686018427387904) (h : y < 2 ^ i) (hm : x % 2 ^ i = 0) : Go.bits .or .i64 x y = x + y := by
  obtain ⟨n, rfl⟩ := Int.eq_ofNat_of_zero_le hx0
  obtain ⟨m, rfl⟩ := Int.eq_ofNat_of_zero_le hy0
  have := i64_or_nat n m (by omega) (by omega)
  rw [nat_join i n m (by exact_mod_cast hm) (by exact_mod_cast h)] at this
  rw [this]; omega
theorem in_f (a m : Int) : memory_in.f a m = some (decide (0 ≤ a ∧ a ≤ m)) := by
  unfold memory_in.f; by_cases c : a ≥ 0
  · rw [if_pos c]; congr 1; by_cases d : a ≤ m <;> simp [d] <;> omega
  · rw [if_neg c]; congr 1; simp; omega
theorem within_f (a m : Int) : periluneref03_within.f a m = some (decide (0 ≤ a ∧ a ≤ m)) := by
  unfold periluneref03_within.f; by_cases c : a ≥ 0
  · rw [if_pos c]; congr 1; by_cases d : a ≤ m <;> simp [d] <;> omega
  · rw [if_neg c]; congr 1; simp; omega
theorem bank_f (k : Nat) (a b : Int) : memory_Bank.f (k + 2) a b = some (bankN a b, bankE a b) := by
  unfold bankN bankE
  simp only [memory_Bank.f, memory_Bank.j0, memory_Bank.j1, in_f, Option.bind_some, decide_eq_true_eq, Bool.not_eq_true', decide_eq_false_iff_not]
  by_cases c1 : 0 ≤ a ∧ a ≤ 31
  · by_cases c2 : 0 ≤ b ∧ b ≤ 7
    · by_cases c3 : a < 24
      · simp only [if_pos c1, if_neg (show ¬ ¬ (0 ≤ b ∧ b ≤ 7) by omega), if_pos c3, if_true, if_neg (show ¬ (a < 0 ∨ a > 31 ∨ b < 0 ∨ b > 7) by omega), if_pos (show a < 24 ∨ b < 4 by omega)]
      · by_cases c4 : b < 4
        · simp only [if_pos c1, if_neg (show ¬ ¬ (0 ≤ b ∧ b ≤ 7) by omega), if_neg c3, if_pos c4, if_true, if_neg (show ¬ (a < 0 ∨ a > 31 ∨ b < 0 ∨ b > 7) by omega), if_pos (show a < 24 ∨ b < 4 by omega)]
        · rw [w64 (n := a + 8) (by omega) (by omega)]
          simp only [if_pos c1, if_neg (show ¬ ¬ (0 ≤ b ∧ b ≤ 7) by omega), if_neg c3, if_neg c4, if_neg (show ¬ (a < 0 ∨ a > 31 ∨ b < 0 ∨ b > 7) by omega), if_neg (show ¬ (a < 24 ∨ b < 4) by omega)]
          by_cases c5 : a > 27
          · simp only [if_pos c5, if_pos (show a + 8 ≥ 36 by omega)]
          · simp only [if_neg c5, if_neg (show ¬ a + 8 ≥ 36 by omega)]
    · simp only [if_pos c1, if_pos c2, if_pos (show (a < 0 ∨ a > 31 ∨ b < 0 ∨ b > 7) by omega)]
  · simp only [if_neg c1, if_true, if_pos (show (a < 0 ∨ a > 31 ∨ b < 0 ∨ b > 7) by omega)]
theorem rbank_f (k : Nat) (a b : Int) : periluneref03_Bank.f (k + 2) a b = some (bankN a b, bankE a b) := by
  unfold bankN bankE
  simp only [periluneref03_Bank.f, periluneref03_Bank.j0, periluneref03_Bank.j1, within_f, Option.bind_some, decide_eq_true_eq, Bool.not_eq_true', decide_eq_false_iff_not, Bool.false_eq_true]
  by_cases c1 : 0 ≤ a ∧ a ≤ 31
  · by_cases c2 : 0 ≤ b ∧ b ≤ 7
    · rw [w64 (n := a + 8) (by omega) (by omega)]
      simp only [if_pos c1, if_neg (show ¬ ¬ (0 ≤ b ∧ b ≤ 7) by omega), if_false, if_neg (show ¬ (a < 0 ∨ a > 31 ∨ b < 0 ∨ b > 7) by omega)]
      by_cases c3 : a ≥ 24
      · by_cases c4 : b ≥ 4
        · by_cases c5 : a > 27
          · simp only [if_pos c3, if_pos c4, if_pos c5, if_pos (show a + 8 > 35 by omega), if_neg (show ¬ (a < 24 ∨ b < 4) by omega)]
          · simp only [if_pos c3, if_pos c4, if_neg c5, if_neg (show ¬ a + 8 > 35 by omega), if_neg (show ¬ (a < 24 ∨ b < 4) by omega)]
        · simp only [if_pos c3, if_neg c4, if_neg (show ¬ a > 35 by omega), if_pos (show (a < 24 ∨ b < 4) by omega)]
      · simp only [if_neg c3, if_neg (show ¬ a > 35 by omega), if_pos (show (a < 24 ∨ b < 4) by omega)]
    · simp only [if_pos c1, if_pos c2, if_pos (show (a < 0 ∨ a > 31 ∨ b < 0 ∨ b > 7) by omega)]
  · simp only [if_neg c1, if_true, if_pos (show (a < 0 ∨ a > 31 ∨ b < 0 ∨ b > 7) by omega)]
theorem abs_f (d : Nat) (k e f : Int) : memory_Absolute.f (d + 1) k e f = some (absX k e f, absA k e f, absE k e f) := by
  unfold absX absA absE
  simp only [memory_Absolute.f, memory_Absolute.j0, in_f, Option.bind_some, decide_eq_true_eq, Bool.not_eq_true', decide_eq_false_iff_not]
  by_cases c1 : 0 ≤ k ∧ k ≤ 4095
  · by_cases c2 : 0 ≤ e ∧ e ≤ 7
    · by_cases c3 : 0 ≤ f ∧ f ≤ 35
      · have a1 : Go.bits .or .i64 (wrap64 (e * 256)) (Go.bits .and .i64 k 255) = e * 256 + k % 256 := by
          rw [w64 (by omega) (by omega), and_255 (by omega) (by omega), or_apart 8 (by omega) (by omega) (by omega) (by omega) (by omega) (by omega)]
        have a2 : Go.bits .or .i64 (wrap64 (f * 1024)) (Go.bits .and .i64 k 1023) = f * 1024 + k % 1024 := by
          rw [w64 (by omega) (by omega), and_1023 (by omega) (by omega), or_apart 10 (by omega) (by omega) (by omega) (by omega) (by omega) (by omega)]
        rw [a1, a2]
        simp only [if_pos c1, if_pos c2, if_neg (show ¬ ¬ (0 ≤ f ∧ f ≤ 35) by omega), if_neg (show ¬ (k < 0 ∨ k > 4095 ∨ e < 0 ∨ e > 7 ∨ f < 0 ∨ f > 35) by omega)]
        by_cases d1 : k < 768
        · simp only [if_pos d1, if_pos (show k < 1024 by omega)]
        · by_cases d2 : k < 1024
          · simp only [if_neg d1, if_pos d2, show e * 256 + k % 256 = e * 256 + k - 768 by omega]
          · by_cases d3 : k < 2048
            · simp only [if_neg d1, if_neg d2, if_pos d3, show f * 1024 + k % 1024 = f * 1024 + k - 1024 by omega]
            · simp only [if_neg d1, if_neg d2, if_neg d3]
      · simp only [if_pos c1, if_pos c2, if_pos c3, if_pos (show (k < 0 ∨ k > 4095 ∨ e < 0 ∨ e > 7 ∨ f < 0 ∨ f > 35) by omega)]
    · simp only [if_pos c1, if_neg c2, if_true, if_pos (show (k < 0 ∨ k > 4095 ∨ e < 0 ∨ e > 7 ∨ f < 0 ∨ f > 35) by omega)]
  · simp only [if_neg c1, if_true, if_pos (show (k < 0 ∨ k > 4095 ∨ e < 0 ∨ e > 7 ∨ f < 0 ∨ f > 35) by omega)]
theorem rabs_f (d : Nat) (k e f : Int) : periluneref03_Absolute.f (d + 1) k e f = some (absX k e f, absA k e f, absE k e f) := by
  unfold absX absA absE
  simp only [periluneref03_Absolute.f, periluneref03_Absolute.j0, within_f, Option.bind_some, decide_eq_true_eq, Bool.not_eq_true', decide_eq_false_iff_not]
  by_cases c1 : 0 ≤ k ∧ k ≤ 4095
  · by_cases c2 : 0 ≤ e ∧ e ≤ 7
    · by_cases c3 : 0 ≤ f ∧ f ≤ 35
      · have a1 : wrap64 ((wrap64 ((wrap64 (256 * e)) + k)) - 768) = e * 256 + k - 768 := by
          rw [w64 (n := 256 * e) (by omega) (by omega), w64 (n := 256 * e + k) (by omega) (by omega), w64 (by omega) (by omega)]; omega
        have a2 : wrap64 ((wrap64 ((wrap64 (1024 * f)) + k)) - 1024) = f * 1024 + k - 1024 := by
          rw [w64 (n := 1024 * f) (by omega) (by omega), w64 (n := 1024 * f + k) (by omega) (by omega), w64 (by omega) (by omega)]; omega
        rw [a1, a2]
        simp only [if_pos c1, if_pos c2, if_neg (show ¬ ¬ (0 ≤ f ∧ f ≤ 35) by omega), if_neg (show ¬ (k < 0 ∨ k > 4095 ∨ e < 0 ∨ e > 7 ∨ f < 0 ∨ f > 35) by omega)]
        by_cases d1 : k < 768
        · simp only [if_pos d1, if_pos (show k ≤ 767 by omega), if_pos (show k < 1024 by omega)]
        · by_cases d2 : k < 1024
          · simp only [if_neg d1, if_neg (show ¬ k ≤ 767 by omega), if_pos d2, if_pos (show k ≤ 1023 by omega)]
          · by_cases d3 : k < 2048
            · simp only [if_neg d1, if_neg d2, if_pos d3, if_neg (show ¬ k ≤ 767 by omega), if_neg (show ¬ k ≤ 1023 by omega), if_pos (show k ≤ 2047 by omega)]
            · simp only [if_neg d1, if_neg d2, if_neg d3, if_neg (show ¬ k ≤ 767 by omega), if_neg (show ¬ k ≤ 1023 by omega), if_neg (show ¬ k ≤ 2047 by omega)]
      · simp only [if_pos c1, if_pos c2, if_pos c3, if_pos (show (k < 0 ∨ k > 4095 ∨ e < 0 ∨ e > 7 ∨ f < 0 ∨ f > 35) by omega)]
    · simp only [if_pos c1, if_neg c2, if_true, if_pos (show (k < 0 ∨ k > 4095 ∨ e < 0 ∨ e > 7 ∨ f < 0 ∨ f > 35) by omega)]
  · simp only [if_neg c1, if_true, if_pos (show (k < 0 ∨ k > 4095 ∨ e < 0 ∨ e > 7 ∨ f < 0 ∨ f > 35) by omega)]
theorem opd_f (k : Nat) (s a e f : Int) : memory_Operand.f (k + 5) s a e f = some (opdN s a e f, opdE s a e f) := by
  unfold opdN opdE
  simp only [memory_Operand.f, memory_Operand.j0, memory_Operand.j1, memory_Operand.j2, memory_Operand.j3, memory_Operand.j4, in_f, Option.bind_some, decide_eq_true_eq, Bool.not_eq_true', decide_eq_false_iff_not, beq_iff_eq, Bool.false_eq_true, if_false]
  by_cases s1 : s = 1
  · subst s1
    simp only [if_true, show ¬ ((1 : Int) = 2) by decide, if_false, show ¬ ((1 : Int) ≠ 1 ∧ (1 : Int) ≠ 2) by decide]
    by_cases b : opdBad 1 a e f
    · rw [if_pos b, if_pos b]; unfold opdBad at b
      by_cases c1 : 0 ≤ e ∧ e ≤ 7
      · by_cases c2 : 0 ≤ f ∧ f ≤ 35
        · rw [if_pos c1, if_pos c2, if_pos (show ¬ (0 ≤ a ∧ a ≤ 2047) by omega)]
        · rw [if_pos c1, if_neg c2]
      · rw [if_neg c1]
    · rw [if_neg b, if_neg b]; unfold opdBad at b
      rw [if_pos (show 0 ≤ e ∧ e ≤ 7 by omega), if_pos (show 0 ≤ f ∧ f ≤ 35 by omega), if_neg (show ¬ ¬ (0 ≤ a ∧ a ≤ 2047) by omega), and_255 (by omega) (by omega), w64 (by omega) (by omega)]
      by_cases d1 : a < 768
      · simp only [if_pos d1]
      · by_cases d2 : a / 256 = e
        · simp only [if_neg d1, if_pos d2]
        · simp only [if_neg d1, if_neg d2]
  · by_cases s2 : s = 2
    · subst s2
      simp only [show ¬ ((2 : Int) = 1) by decide, if_true, if_false, show ¬ ((2 : Int) ≠ 1 ∧ (2 : Int) ≠ 2) by decide]
      by_cases b : opdBad 2 a e f
      · rw [if_pos b, if_pos b]; unfold opdBad at b
        by_cases c1 : 0 ≤ e ∧ e ≤ 7
        · by_cases c2 : 0 ≤ f ∧ f ≤ 35
          · rw [if_pos c1, if_pos c2, if_pos (show ¬ (0 ≤ a ∧ a ≤ 36863) by omega)]
          · rw [if_pos c1, if_neg c2]
        · rw [if_neg c1]
      · rw [if_neg b, if_neg b]; unfold opdBad at b
        rw [if_pos (show 0 ≤ e ∧ e ≤ 7 by omega), if_pos (show 0 ≤ f ∧ f ≤ 35 by omega), if_neg (show ¬ ¬ (0 ≤ a ∧ a ≤ 36863) by omega), and_1023 (by omega) (by omega), w64 (n := 1024 + a % 1024) (by omega) (by omega)]
        by_cases d1 : a / 2048 = 1
        · simp only [if_pos d1]
        · by_cases d2 : a / 1024 = f
          · simp only [if_neg d1, if_pos d2]
          · simp only [if_neg d1, if_neg d2]
    · rw [if_neg s1, if_neg s2, if_pos ⟨s1, s2⟩, if_pos ⟨s1, s2⟩]
theorem bank_c (a b : Int) (w : World) : Calls Try.prog 10 #[.int .i64 a, .int .i64 b] w fun e w' => e = .returned (.tuple #[.int .i64 (bankN a b), .int .i64 (bankE a b)]) ∧ Drawn0 w w' := memory_Bank.calls 2 _ _ _ _ w (bank_f 0 a b)
theorem rbank_c (a b : Int) (w : World) : Calls Try.prog 11 #[.int .i64 a, .int .i64 b] w fun e w' => e = .returned (.tuple #[.int .i64 (bankN a b), .int .i64 (bankE a b)]) ∧ Drawn0 w w' := periluneref03_Bank.calls 2 _ _ _ _ w (rbank_f 0 a b)
theorem abs_c (k e f : Int) (w : World) : Calls Try.prog 12 #[.int .i64 k, .int .i64 e, .int .i64 f] w fun z w' => z = .returned (.tuple #[.int .u8 (absX k e f), .int .i64 (absA k e f), .int .i64 (absE k e f)]) ∧ Drawn0 w w' := memory_Absolute.calls 1 _ _ _ _ _ _ w (abs_f 0 k e f)
theorem rabs_c (k e f : Int) (w : World) : Calls Try.prog 13 #[.int .i64 k, .int .i64 e, .int .i64 f] w fun z w' => z = .returned (.tuple #[.int .u8 (absX k e f), .int .i64 (absA k e f), .int .i64 (absE k e f)]) ∧ Drawn0 w w' := periluneref03_Absolute.calls 1 _ _ _ _ _ _ w (rabs_f 0 k e f)
theorem opd_c (s a e f : Int) (w : World) : Calls Try.prog 14 #[.int .u8 s, .int .i64 a, .int .i64 e, .int .i64 f] w fun z w' => z = .returned (.tuple #[.int .i64 (opdN s a e f), .int .i64 (opdE s a e f)]) ∧ Drawn0 w w' := memory_Operand.calls 5 _ _ _ _ _ _ w (opd_f 0 s a e f)
theorem leads_f (d : Nat) (k e f s a : Int) : perilunelaw03_leads.f (d + 1) k e f s a = some (decide (absE k e f = 0 ∧ absX k e f = s ∧ absA k e f = a)) := by
  unfold perilunelaw03_leads.f; rw [abs_f]; simp only [Option.bind_some]
  by_cases c1 : absE k e f = 0
  · by_cases c2 : absX k e f = s
    · rw [if_pos c1, if_pos c2]; congr 1; by_cases c3 : absA k e f = a <;> simp [c1, c2, c3]
    · rw [if_pos c1, if_neg c2]; simp [c2]
  · rw [if_neg c1]; simp [c1]
theorem works_f : perilunelaw03_works.f 60 = some true := by kernel_rfl
theorem works_f1 : perilunelaw03_works.f 59 = some true := by kernel_rfl
theorem works_f2 : perilunelaw03_works.f 58 = some true := by kernel_rfl
theorem works_c (w : World) : Calls Try.prog 16 #[] w fun e w' => e = .returned (.bool true) ∧ Below w.heap.size w w' := perilunelaw03_works.calls _ _ w works_f
end Go.Proofs.Ytllmmgjmkgiodaa.Mem
