/- Chapter 5: a part of its proof (cut by program out of Mem); no condition. -/
import Derived.Lib.Hide
import Derived.Test.YtgbmaajfbbilhaaGreatKn10
import Derived.Test.YtgbmaajfbbilhaaGreatKn11
set_option linter.unusedVariables false
set_option linter.unusedSimpArgs false
set_option linter.unusedSectionVars false
set_option maxRecDepth 100000
set_option maxHeartbeats 8000000
section
namespace Go.Proofs.YtgbmaajfbbilhaaGreat.Mem
open Go.RowKit Go.Proofs.YtgbmaajfbbilhaaGreat.PAll Go.Proofs.YtgbmaajfbbilhaaGreatW.PrintWords Go.Proofs.YtgbmaajfbbilhaaGreatW.PrintLast Go.Proofs.YtgbmaajfbbilhaaGreatW.PrintMore Go.Proofs.YtgbmaajfbbilhaaGreat.Plain
def bankN (a b : Int) : Int := if a < 0 ∨ a > 31 ∨ b < 0 ∨ b > 7 then 0 else if a < 24 ∨ b < 4 then a else if a > 27 then 0 else a + 8
def bankE (a b : Int) : Int := if a < 0 ∨ a > 31 ∨ b < 0 ∨ b > 7 then 3 else if a < 24 ∨ b < 4 then 0 else if a > 27 then 3 else 0
def absX (k e f : Int) : Int := if k < 0 ∨ k > 4095 ∨ e < 0 ∨ e > 7 ∨ f < 0 ∨ f > 35 then 0 else if k < 1024 then 1 else 2
def absA (k e f : Int) : Int := if k < 0 ∨ k > 4095 ∨ e < 0 ∨ e > 7 ∨ f < 0 ∨ f > 35 then 0 else if k < 768 then k else if k < 1024 then e * 256 + k - 768 else if k < 2048 then f * 1024 + k - 1024 else k
def absE (k e f : Int) : Int := if k < 0 ∨ k > 4095 ∨ e < 0 ∨ e > 7 ∨ f < 0 ∨ f > 35 then 3 else 0
def opdBad (s a e f : Int) : Prop := e < 0 ∨ e > 7 ∨ f < 0 ∨ f > 35 ∨ a < 0 ∨ (s = 1 ∧ a > 2047) ∨ (s = 2 ∧ a > 36863)
instance (s a e f : Int) : Decidable (opdBad s a e f) := by unfold opdBad; infer_instance
theorem wraps64 (n : Int) (h₀ : 0 ≤ n) (h₁ : n < 2 ^ 63) : IntKind.i64.wrap n = n := by
 have e : n % 2 ^ 64 = n := Int.emod_eq_of_lt (by omega) (by omega)
 simp only [IntKind.wrap, IntKind.bits, IntKind.signed, e]
 rw [if_neg]; simp; omega
theorem and_low (i : Nat) (hi : i ≤ 63) {x : Int} (h0 : 0 ≤ x) (h1 : x < 2 ^ 63) : Go.bits .and .i64 x (2 ^ i - 1) = x % 2 ^ i := bits_mask .i64 63 (by decide) wraps64 i (by exact hi) x h0 h1
theorem and_255 {x : Int} (h0 : 0 ≤ x) (h1 : x < 2 ^ 63) : Go.bits .and .i64 x 255 = x % 256 := and_low 8 (by decide) h0 h1
theorem and_1023 {x : Int} (h0 : 0 ≤ x) (h1 : x < 2 ^ 63) : Go.bits .and .i64 x 1023 = x % 1024 := and_low 10 (by decide) h0 h1
theorem i64_or_nat (a b : Nat) (ha : a < 4611686018427387904) (hb : b < 4611686018427387904) : Go.bits .or .i64 (a : Int) (b : Int) = ((a ||| b : Nat) : Int) := by
 have hx : a ||| b < 2 ^ 62 := Nat.or_lt_two_pow (by omega) (by omega)
 show IntKind.i64.wrap ((BitVec.ofInt 64 (a : Int) ||| BitVec.ofInt 64 (b : Int)).toNat : Int) = _
 rw [BitVec.toNat_or, ofInt_u64 a (by omega), ofInt_u64 b (by omega)]
 exact wraps64 _ (by omega) (by omega)
theorem or_apart {x y : Int} (i : Nat) (hx0 : 0 ≤ x) (hx1 : x < 4611686018427387904) (hy0 : 0 ≤ y) (hy1 : y < 4611686018427387904) (h : y < 2 ^ i) (hm : x % 2 ^ i = 0) : Go.bits .or .i64 x y = x + y := by
 obtain ⟨n, rfl⟩ := Int.eq_ofNat_of_zero_le hx0
 obtain ⟨m, rfl⟩ := Int.eq_ofNat_of_zero_le hy0
 have := i64_or_nat n m (by omega) (by omega)
 rw [nat_join i n m (by exact_mod_cast hm) (by exact_mod_cast h)] at this
 rw [this]; omega
theorem in_f (a m : Int) : memory_in.f a m = some (decide (0 ≤ a ∧ a ≤ m)) := by
 unfold memory_in.f; by_cases c : a ≥ 0
 · rw [if_pos c]; congr 1; by_cases d : a ≤ m <;> simp [d] <;> omega
 · rw [if_neg c]; congr 1; simp; omega
theorem bank_f (k : Nat) (a b : Int) : memory_Bank.f (k + 2) a b = some (bankN a b, bankE a b) := by
 unfold bankN bankE
 simp only [memory_Bank.f, memory_Bank.j0, memory_Bank.j1, in_f, Option.bind_some, decide_eq_true_eq, Bool.not_eq_true', decide_eq_false_iff_not]
 by_cases c1 : 0 ≤ a ∧ a ≤ 31
 · by_cases c2 : 0 ≤ b ∧ b ≤ 7
   · by_cases c3 : a < 24
     · simp only [if_pos c1, if_neg (show ¬ ¬ (0 ≤ b ∧ b ≤ 7) by omega), if_pos c3, if_true, if_neg (show ¬ (a < 0 ∨ a > 31 ∨ b < 0 ∨ b > 7) by omega), if_pos (show a < 24 ∨ b < 4 by omega)]
     · by_cases c4 : b < 4
       · simp only [if_pos c1, if_neg (show ¬ ¬ (0 ≤ b ∧ b ≤ 7) by omega), if_neg c3, if_pos c4, if_true, if_neg (show ¬ (a < 0 ∨ a > 31 ∨ b < 0 ∨ b > 7) by omega), if_pos (show a < 24 ∨ b < 4 by omega)]
       · rw [w64 (n := a + 8) (by omega) (by omega)]
         simp only [if_pos c1, if_neg (show ¬ ¬ (0 ≤ b ∧ b ≤ 7) by omega), if_neg c3, if_neg c4, if_neg (show ¬ (a < 0 ∨ a > 31 ∨ b < 0 ∨ b > 7) by omega), if_neg (show ¬ (a < 24 ∨ b < 4) by omega)]
         by_cases c5 : a > 27
         · simp only [if_pos c5, if_pos (show a + 8 ≥ 36 by omega)]
         · simp only [if_neg c5, if_neg (show ¬ a + 8 ≥ 36 by omega)]
   · simp only [if_pos c1, if_pos c2, if_pos (show (a < 0 ∨ a > 31 ∨ b < 0 ∨ b > 7) by omega)]
 · simp only [if_neg c1, if_true, if_pos (show (a < 0 ∨ a > 31 ∨ b < 0 ∨ b > 7) by omega)]
theorem abs_f (d : Nat) (k e f : Int) : memory_Absolute.f (d + 1) k e f = some (absX k e f, absA k e f, absE k e f) := by
 unfold absX absA absE
 simp only [memory_Absolute.f, memory_Absolute.j0, in_f, Option.bind_some, decide_eq_true_eq, Bool.not_eq_true', decide_eq_false_iff_not]
 by_cases c1 : 0 ≤ k ∧ k ≤ 4095
 · by_cases c2 : 0 ≤ e ∧ e ≤ 7
   · by_cases c3 : 0 ≤ f ∧ f ≤ 35
     · have a1 : Go.bits .or .i64 (wrap64 (e * 256)) (Go.bits .and .i64 k 255) = e * 256 + k % 256 := by
        rw [w64 (by omega) (by omega), and_255 (by omega) (by omega), or_apart 8 (by omega) (by omega) (by omega) (by omega) (by omega) (by omega)]
       have a2 : Go.bits .or .i64 (wrap64 (f * 1024)) (Go.bits .and .i64 k 1023) = f * 1024 + k % 1024 := by
        rw [w64 (by omega) (by omega), and_1023 (by omega) (by omega), or_apart 10 (by omega) (by omega) (by omega) (by omega) (by omega) (by omega)]
       rw [a1, a2]
       simp only [if_pos c1, if_pos c2, if_neg (show ¬ ¬ (0 ≤ f ∧ f ≤ 35) by omega), if_neg (show ¬ (k < 0 ∨ k > 4095 ∨ e < 0 ∨ e > 7 ∨ f < 0 ∨ f > 35) by omega)]
       by_cases d1 : k < 768
       · simp only [if_pos d1, if_pos (show k < 1024 by omega)]
       · by_cases d2 : k < 1024
         · simp only [if_neg d1, if_pos d2, show e * 256 + k % 256 = e * 256 + k - 768 by omega]
         · by_cases d3 : k < 2048
           · simp only [if_neg d1, if_neg d2, if_pos d3, show f * 1024 + k % 1024 = f * 1024 + k - 1024 by omega]
           · simp only [if_neg d1, if_neg d2, if_neg d3]
     · simp only [if_pos c1, if_pos c2, if_pos c3, if_pos (show (k < 0 ∨ k > 4095 ∨ e < 0 ∨ e > 7 ∨ f < 0 ∨ f > 35) by omega)]
   · simp only [if_pos c1, if_neg c2, if_true, if_pos (show (k < 0 ∨ k > 4095 ∨ e < 0 ∨ e > 7 ∨ f < 0 ∨ f > 35) by omega)]
 · simp only [if_neg c1, if_true, if_pos (show (k < 0 ∨ k > 4095 ∨ e < 0 ∨ e > 7 ∨ f < 0 ∨ f > 35) by omega)]
theorem bank_c (a b : Int) (w : World) : Calls Tryz.prog 103 #[.int .i64 a, .int .i64 b] w fun e w' => e = .returned (.tuple #[.int .i64 (bankN a b), .int .i64 (bankE a b)]) ∧ Drawn0 w w' := memory_Bank.calls 2 _ _ _ _ w (bank_f 0 a b)
theorem abs_c (k e f : Int) (w : World) : Calls Tryz.prog 104 #[.int .i64 k, .int .i64 e, .int .i64 f] w fun z w' => z = .returned (.tuple #[.int .u8 (absX k e f), .int .i64 (absA k e f), .int .i64 (absE k e f)]) ∧ Drawn0 w w' := memory_Absolute.calls 1 _ _ _ _ _ _ w (abs_f 0 k e f)
end Go.Proofs.YtgbmaajfbbilhaaGreat.Mem
end
