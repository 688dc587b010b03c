/- Chapter 5: a part of its proof (cut by program out of Bits, Bits2); no condition. -/
import Derived.Laws.BitsAllLaws
import Derived.RowKit
import Derived.Test.YtgbmaajfbbilhaaGreatKn9
set_option linter.unusedVariables false
set_option linter.unusedSimpArgs false
set_option linter.unusedSectionVars false
set_option maxRecDepth 100000
set_option maxHeartbeats 8000000
section
namespace Go.Proofs.YtgbmaajfbbilhaaGreat.Plain
open Go.RowKit Go.Proofs.YtgbmaajfbbilhaaGreatW.PrintWords Go.Proofs.YtgbmaajfbbilhaaGreatW.PrintMore
theorem w64 {n : Int} (h0 : -9223372036854775808 ≤ n) (h1 : n ≤ 9223372036854775807) : wrap64 n = n := by unfold wrap64; omega
theorem at_args {P : Program} {f : FuncId} {w : World} {R : Ending → World → Prop} (a : Array Value) (h : Calls P f a w R) : Calls P f a w R := h
end Go.Proofs.YtgbmaajfbbilhaaGreat.Plain
end
section
namespace Go.Proofs.YtgbmaajfbbilhaaGreat.Plain
open Go.RowKit Go.Proofs.YtgbmaajfbbilhaaGreatW.PrintWords Go.Proofs.YtgbmaajfbbilhaaGreatW.PrintMore
theorem wraps_u16 (n : Int) (h₀ : 0 ≤ n) (h₁ : n < 2 ^ 16) : IntKind.u16.wrap n = n := by rw [IntKind.wrap_u16]; omega
theorem u16w {n : Int} (h0 : 0 ≤ n) (h1 : n < 65536) : IntKind.u16.wrap n = n := by rw [IntKind.wrap_u16]; omega
theorem and_32767 {x : Int} (h0 : 0 ≤ x) (h1 : x < 65536) : Go.bits .and .u16 x 32767 = x % 32768 := bits_mask .u16 16 (by decide) wraps_u16 15 (by decide) x h0 h1
theorem and_16383 {x : Int} (h0 : 0 ≤ x) (h1 : x < 65536) : Go.bits .and .u16 x 16383 = x % 16384 := bits_mask .u16 16 (by decide) wraps_u16 14 (by decide) x h0 h1
theorem and_4095 {x : Int} (h0 : 0 ≤ x) (h1 : x < 65536) : Go.bits .and .u16 x 4095 = x % 4096 := bits_mask .u16 16 (by decide) wraps_u16 12 (by decide) x h0 h1
theorem and_127 {x : Int} (h0 : 0 ≤ x) (h1 : x < 65536) : Go.bits .and .u16 x 127 = x % 128 := bits_mask .u16 16 (by decide) wraps_u16 7 (by decide) x h0 h1
theorem and_7 {x : Int} (h0 : 0 ≤ x) (h1 : x < 65536) : Go.bits .and .u16 x 7 = x % 8 := bits_mask .u16 16 (by decide) wraps_u16 3 (by decide) x h0 h1
theorem and_1 {x : Int} (h0 : 0 ≤ x) (h1 : x < 65536) : Go.bits .and .u16 x 1 = x % 2 := bits_mask .u16 16 (by decide) wraps_u16 1 (by decide) x h0 h1
theorem and_16384 {x : Int} (h0 : 0 ≤ x) (h1 : x < 65536) : Go.bits .and .u16 x 16384 = x / 16384 % 2 * 16384 := by
 obtain ⟨n, rfl⟩ := Int.eq_ofNat_of_zero_le h0
 have := u16_and_nat n 16384 (by omega) (by decide)
 rw [show n &&& 16384 = n / 2 ^ 14 % 2 * 2 ^ 14 from nat_bit 14 n] at this
 rw [show ((16384 : Nat) : Int) = 16384 from rfl] at this
 rw [this]; omega
theorem or_low {x y : Int} (i : Nat) (hx0 : 0 ≤ x) (hx1 : x < 65536) (hy0 : 0 ≤ y) (hy1 : y < 65536) (h : x < 2 ^ i) (hm : y % 2 ^ i = 0) : Go.bits .or .u16 x y = x + y := by
 obtain ⟨n, rfl⟩ := Int.eq_ofNat_of_zero_le hx0
 obtain ⟨m, rfl⟩ := Int.eq_ofNat_of_zero_le hy0
 have := u16_or_nat n m (by omega) (by omega)
 rw [Nat.or_comm, nat_join i m n (by exact_mod_cast hm) (by exact_mod_cast h)] at this
 rw [this]; omega
theorem or_high {x y : Int} (i : Nat) (hx0 : 0 ≤ x) (hx1 : x < 65536) (hy0 : 0 ≤ y) (hy1 : y < 65536) (h : y < 2 ^ i) (hm : x % 2 ^ i = 0) : Go.bits .or .u16 x y = x + y := by
 obtain ⟨n, rfl⟩ := Int.eq_ofNat_of_zero_le hx0
 obtain ⟨m, rfl⟩ := Int.eq_ofNat_of_zero_le hy0
 have := u16_or_nat n m (by omega) (by omega)
 rw [nat_join i n m (by exact_mod_cast hm) (by exact_mod_cast h)] at this
 rw [this]; omega
theorem not16_nat (n : Nat) (h : n < 65536) : 65535 ^^^ n = 65535 - n := by
 have := congrArg BitVec.toNat (BitVec.allOnes_xor (x := BitVec.ofNat 16 n))
 rw [BitVec.toNat_xor, BitVec.toNat_not, BitVec.toNat_allOnes, BitVec.toNat_ofNat, Nat.mod_eq_of_lt (show n < 2 ^ 16 from h)] at this
 exact this
theorem not16 {x : Int} (h0 : 0 ≤ x) (h1 : x < 65536) : Go.bits .xor .u16 IntKind.u16.max x = 65535 - x := by
 obtain ⟨n, rfl⟩ := Int.eq_ofNat_of_zero_le h0
 have := u16_xor_nat 65535 n (by decide) (by omega)
 rw [not16_nat n (by omega)] at this
 rw [show IntKind.u16.max = ((65535 : Nat) : Int) from rfl, this]; omega
end Go.Proofs.YtgbmaajfbbilhaaGreat.Plain
end
