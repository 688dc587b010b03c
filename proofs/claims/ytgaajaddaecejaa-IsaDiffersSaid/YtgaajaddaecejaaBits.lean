/- Plain facts on numbers below 65536 as bits: the parity of the ones, masks, joins and single bits; no program in sight. -/
import Derived.Laws.BitsAllLaws
import Derived.RowKit
import Derived.Test.YtgaajaddaecejaaWMore
namespace Go.Proofs.Ytgaajaddaecejaa.Plain
open Go.RowKit Go.Proofs.YtgaajaddaecejaaW.PrintWords Go.Proofs.YtgaajaddaecejaaW.PrintMore

/-- The parity of the ones among the n low bits. -/
def obits (a : Nat) : Nat → Bool
  | 0 => false
  | n + 1 => obits a n ^^ a.testBit n

theorem obits_flip (a j : Nat) : ∀ n, obits (a ^^^ 2 ^ j) n = if j < n then !obits a n else obits a n
  | 0 => by simp [obits]
  | n + 1 => by
    rw [obits, obits, obits_flip a j n, Nat.testBit_xor, Nat.testBit_two_pow]
    by_cases h : j < n
    · have h1 : j < n + 1 := by omega
      have h2 : ¬ j = n := by omega
      simp [h, h1, h2]
    · by_cases h2 : j = n
      · subst h2; cases a.testBit j <;> simp
      · have h1 : ¬ j < n + 1 := by omega
        simp [h, h1, h2]

theorem obits_mod (a j : Nat) : ∀ n, n ≤ j → obits (a % 2 ^ j) n = obits a n
  | 0, _ => rfl
  | n + 1, h => by
    rw [obits, obits, obits_mod a j n (by omega), Nat.testBit_mod_two_pow]
    have : n < j := by omega
    simp [this]

theorem obits_top (a n : Nat) (h : a < 2 ^ n) : obits a (n + 1) = obits a n := by
  rw [obits, Nat.testBit_lt_two_pow h]; simp

theorem bit_low (a i : Nat) (ha : a < 65536) (hi : i ≤ 16) : Go.bits .and .u16 (shr .u16 (a : Int) (i : Int)) 1 = ((a / 2 ^ i % 2 : Nat) : Int) := by
  have e : shr .u16 (a : Int) (i : Int) = ((a / 2 ^ i : Nat) : Int) := by
    unfold shr
    have : min (i : Int).toNat (IntKind.bits .u16) = i := by
      show min i 16 = i; omega
    rw [this]; simp
  have hl : a / 2 ^ i < 65536 := Nat.lt_of_le_of_lt (Nat.div_le_self _ _) ha
  rw [e]
  have := u16_and_nat (a / 2 ^ i) 1 hl (by decide)
  rw [nat_mask1] at this
  exact this

theorem low15 (a : Nat) (ha : a < 65536) : Go.bits .and .u16 (a : Int) 32767 = ((a % 32768 : Nat) : Int) := by
  have := u16_and_nat a 32767 ha (by decide)
  rw [show a &&& 32767 = a % 32768 from Nat.and_two_pow_sub_one_eq_mod a 15] at this
  exact this

theorem top_on (a : Nat) (ha : a < 32768) : Go.bits .or .u16 (a : Int) 32768 = ((a + 32768 : Nat) : Int) := by
  have := u16_or_nat a 32768 (by omega) (by decide)
  rw [show a ||| 32768 = 32768 ||| a from Nat.or_comm _ _, nat_join 15 32768 a (by decide) (by omega), Nat.add_comm] at this
  exact this

theorem one_shl (j : Nat) (hj : j < 16) : shl .u16 1 (j : Int) = ((2 ^ j : Nat) : Int) := by
  have : ∀ j : Nat, j < 16 → shl .u16 1 (j : Int) = ((2 ^ j : Nat) : Int) := by decide +kernel
  exact this j hj

theorem xor_bit (a j : Nat) (ha : a < 65536) (hj : j < 16) : Go.bits .xor .u16 (a : Int) (shl .u16 1 (j : Int)) = ((a ^^^ 2 ^ j : Nat) : Int) := by
  rw [one_shl j hj]
  exact u16_xor_nat a (2 ^ j) ha (Nat.pow_lt_pow_right (by decide) hj)

theorem xor_lt (a j : Nat) (ha : a < 65536) (hj : j < 16) : a ^^^ 2 ^ j < 65536 :=
  Nat.xor_lt_two_pow (n := 16) ha (Nat.pow_lt_pow_right (by decide) hj)

theorem xor_back (a b : Nat) : a ^^^ b ^^^ b = a := by rw [Nat.xor_assoc, Nat.xor_self, Nat.xor_zero]

theorem xor_ne (a j : Nat) : a ^^^ 2 ^ j ≠ a := by
  intro h
  have : (a ^^^ 2 ^ j).testBit j = a.testBit j := by rw [h]
  rw [Nat.testBit_xor, Nat.testBit_two_pow] at this
  cases h2 : a.testBit j <;> simp [h2] at this

theorem bit_tells (a i : Nat) : a.testBit i = decide (a / 2 ^ i % 2 = 1) := Nat.testBit_eq_decide_div_mod_eq

theorem w64 {n : Int} (h0 : -9223372036854775808 ≤ n) (h1 : n ≤ 9223372036854775807) : wrap64 n = n := by unfold wrap64; omega

theorem wf16 {a : Int} (h : (Lit.int .u16 a).wf = true) : ∃ n : Nat, a = n ∧ n < 65536 := by
  have : 0 ≤ a ∧ a < 65536 := by
    simp [Lit.wf, IntKind.min, IntKind.max, IntKind.signed, IntKind.bits] at h; omega
  exact ⟨a.toNat, by omega, by omega⟩

theorem wf8 {a : Int} (h : (Lit.int .u8 a).wf = true) : ∃ n : Nat, a = n ∧ n < 256 := by
  have : 0 ≤ a ∧ a < 256 := by
    simp [Lit.wf, IntKind.min, IntKind.max, IntKind.signed, IntKind.bits] at h; omega
  exact ⟨a.toNat, by omega, by omega⟩

/-- A call at these arguments: a gate ahead of a contract. -/
theorem at_args {P : Program} {f : FuncId} {w : World} {R : Ending → World → Prop} (a : Array Value) (h : Calls P f a w R) : Calls P f a w R := h

end Go.Proofs.Ytgaajaddaecejaa.Plain
