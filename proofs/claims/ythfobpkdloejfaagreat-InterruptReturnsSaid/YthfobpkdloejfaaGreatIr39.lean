/- Chapter 5: a part of its proof (cut by program out of Rup); no condition. -/
import Derived.Test.YthfobpkdloejfaaGreatIr13
import Derived.Test.YthfobpkdloejfaaGreatIr38
set_option linter.unusedVariables false
set_option linter.unusedSimpArgs false
set_option linter.unusedSectionVars false
set_option maxRecDepth 100000
set_option maxHeartbeats 8000000
section
namespace Go.Proofs.YthfobpkdloejfaaGreat.Rup
open Go.RowKit Go.Proofs.YthfobpkdloejfaaGreat.PAll Go.Proofs.YthfobpkdloejfaaGreatW.PrintWords Go.Proofs.YthfobpkdloejfaaGreatW.PrintLast Go.Proofs.YthfobpkdloejfaaGreatW.PrintMore Go.Proofs.YthfobpkdloejfaaGreat.Plain
def pw (i : Int) : Int := 2 ^ i.toNat
def wt (s i : Int) : Bool := s / pw i % 2 == 1
def upL : Nat → Int → List Int
 | 0, _ => []
 | m + 1, i => i :: upL m (i + 1)
def L10 : List Int := upL 10 1
theorem ten {i : Int} (h1 : 1 ≤ i) (h2 : i ≤ 10) : i = 1 ∨ i = 2 ∨ i = 3 ∨ i = 4 ∨ i = 5 ∨ i = 6 ∨ i = 7 ∨ i = 8 ∨ i = 9 ∨ i = 10 := by omega
theorem mem_upL (n : Int) : ∀ (m : Nat) (i : Int), n ∈ upL m i ↔ i ≤ n ∧ n < i + m
 | 0, i => by simp [upL]
 | m + 1, i => by rw [upL, List.mem_cons, mem_upL n m (i + 1)]; push_cast; omega
def sumU (p : Int → Bool) : Nat → Int → Int
 | 0, _ => 0
 | m + 1, i => (if p i = true then pw i else 0) + sumU p m (i + 1)
theorem sumU_congr (p q : Int → Bool) (h : ∀ i, 1 ≤ i → i ≤ 10 → p i = q i) : ∀ (m : Nat) (i : Int), 1 ≤ i → i + m ≤ 11 → sumU p m i = sumU q m i
 | 0, i, _, _ => rfl
 | m + 1, i, h1, h2 => by rw [sumU, sumU, h i h1 (by omega), sumU_congr p q h m (i + 1) (by omega) (by omega)]
def le (s n : Int) : Int := sumU (fun i => !decide (i = n) && wt s i) 10 1
theorem wt_mod (s i : Int) (h1 : 1 ≤ i) (h2 : i ≤ 10) : wt s i = wt (s % 2048) i := by
 have e : s / pw i % 2 = s % 2048 / pw i % 2 := by
  rcases ten h1 h2 with rfl | rfl | rfl | rfl | rfl | rfl | rfl | rfl | rfl | rfl
  · show s / 2 % 2 = s % 2048 / 2 % 2; omega
  · show s / 4 % 2 = s % 2048 / 4 % 2; omega
  · show s / 8 % 2 = s % 2048 / 8 % 2; omega
  · show s / 16 % 2 = s % 2048 / 16 % 2; omega
  · show s / 32 % 2 = s % 2048 / 32 % 2; omega
  · show s / 64 % 2 = s % 2048 / 64 % 2; omega
  · show s / 128 % 2 = s % 2048 / 128 % 2; omega
  · show s / 256 % 2 = s % 2048 / 256 % 2; omega
  · show s / 512 % 2 = s % 2048 / 512 % 2; omega
  · show s / 1024 % 2 = s % 2048 / 1024 % 2; omega
 unfold wt; rw [e]
def wtN (a i : Nat) : Bool := a / 2 ^ i % 2 == 1
def sumN (p : Nat → Bool) : Nat → Nat → Nat
 | 0, _ => 0
 | m + 1, i => (if p i = true then 2 ^ i else 0) + sumN p m (i + 1)
theorem pw_nat (i : Nat) : pw (i : Int) = ((2 ^ i : Nat) : Int) := by unfold pw; rw [Int.toNat_natCast]; push_cast; rfl
theorem wt_nat (a i : Nat) : wt (a : Int) (i : Int) = wtN a i := by
 unfold wt wtN
 rw [pw_nat, ← Int.natCast_ediv, show (2 : Int) = ((2 : Nat) : Int) from rfl, ← Int.natCast_emod, Bool.eq_iff_iff, beq_iff_eq, beq_iff_eq]
 omega
theorem sum_cast (p : Int → Bool) (q : Nat → Bool) (h : ∀ j : Nat, p (j : Int) = q j) : ∀ m i : Nat, sumU p m (i : Int) = ((sumN q m i : Nat) : Int)
 | 0, i => rfl
 | m + 1, i => by
  rw [sumU, sumN, h, show (i : Int) + 1 = ((i + 1 : Nat) : Int) by push_cast; rfl, sum_cast p q h m (i + 1), pw_nat]
  split <;> push_cast <;> rfl
theorem dec_nat (j m : Nat) : decide ((j : Int) = ((m + 1 : Nat) : Int)) = (j == m + 1) := by
 rw [Bool.eq_iff_iff, decide_eq_true_iff, beq_iff_eq]; omega
theorem tab_an : ∀ b < 2048, ∀ m < 10, (b &&& 2046) &&& (65535 - 2 ^ (m + 1)) = sumN (fun i => !(i == m + 1) && wtN b i) 10 1 := by decide +kernel
theorem mask_mod (a : Nat) : a &&& 2046 = a % 2048 &&& 2046 := by
 rw [← Nat.and_two_pow_sub_one_eq_mod a 11, Nat.and_assoc, show (2 ^ 11 - 1) &&& 2046 = 2046 by decide]
theorem and_small (a : Nat) : a &&& 2046 < 2048 := Nat.lt_of_le_of_lt Nat.and_le_right (by decide)
theorem pLe {s n : Int} (s0 : 0 ≤ s) (s1 : s < 65536) (h1 : 1 ≤ n) (h2 : n ≤ 10) : Go.bits .andNot .u16 (Go.bits .and .u16 s 2046) (shl .u16 1 n) = le s n := by
 obtain ⟨a, rfl⟩ := Int.eq_ofNat_of_zero_le s0
 obtain ⟨m, rfl⟩ : ∃ m : Nat, n = ((m + 1 : Nat) : Int) := ⟨n.toNat - 1, by omega⟩
 have hm : m < 10 := by omega
 have hm16 : m + 1 < 16 := by omega
 have hs := and_small a
 rw [one_shl (m + 1) (by omega), show (2046 : Int) = ((2046 : Nat) : Int) from rfl, u16_and_nat a 2046 (by omega) (by decide), u16_andNot_nat _ _ (by omega) (Nat.pow_lt_pow_right (by decide) hm16), mask_mod, tab_an _ (Nat.mod_lt _ (by decide)) m hm]
 unfold le
 rw [sumU_congr _ (fun i => !decide (i = ((m + 1 : Nat) : Int)) && wt ((a % 2048 : Nat) : Int) i) (fun i i1 i2 => by rw [wt_mod _ i i1 i2, show ((a : Int) % 2048) = ((a % 2048 : Nat) : Int) by omega]) 10 1 (by decide) (by decide)]
 exact (sum_cast _ _ (fun j => by rw [wt_nat, dec_nat]) 10 1).symm
theorem pWd {s i : Int} (s0 : 0 ≤ s) (s1 : s < 65536) (h1 : 1 ≤ i) (h2 : i ≤ 10) : Go.bits .and .u16 (s / 2 ^ i.toNat) 1 = if wt s i = true then 1 else 0 := by
 obtain ⟨a, rfl⟩ := Int.eq_ofNat_of_zero_le s0
 obtain ⟨m, rfl⟩ := Int.eq_ofNat_of_zero_le (show 0 ≤ i by omega)
 have hl : a / 2 ^ m < 65536 := Nat.lt_of_le_of_lt (Nat.div_le_self _ _) (by omega)
 have := u16_and_nat (a / 2 ^ m) 1 hl (by decide)
 rw [nat_mask1] at this
 rw [Int.toNat_natCast, show ((a : Int) / 2 ^ m) = ((a / 2 ^ m : Nat) : Int) by push_cast; rfl, show (1 : Int) = ((1 : Nat) : Int) from rfl, this, wt_nat]
 unfold wtN
 have h2 := Nat.mod_two_eq_zero_or_one (a / 2 ^ m)
 rcases h2 with h2 | h2 <;> rw [h2] <;> rfl
def chR : Option Int → Int × Bool
 | some i => (i, true)
 | none => (0, false)
def chI (s : Int) : Option Int := L10.find? (wt s)
def ovI (a : Int) : Int := if a / 16384 = 1 then 1 else if a / 16384 = 2 then -1 else 0
theorem pOv (a : Int) : onescomp_Overflow.f a = some (ovI a) := by
 unfold onescomp_Overflow.f ovI; split
 · rfl
 · split <;> rfl
def alB (a idx : Int) (ext held inh srv : Bool) : Bool := !inh && !srv && !ext && !held && (idx == 0) && (ovI a == 0)
theorem none_f (a b c d e f : Bool) (k : Nat) (hk : 8 ≤ k) : interrupt_none.f k [a, b, c, d, e, f] = some (!a && !b && !c && !d && !e && !f) := by
 obtain ⟨j, rfl⟩ : ∃ j, k = j + 8 := ⟨k - 8, by omega⟩
 cases a <;> cases b <;> cases c <;> cases d <;> cases e <;> cases f <;> simp [interrupt_none.f, interrupt_none.l0, rdOf, wrap64]
theorem pAl {a l q z eb fb su idx b : Int} {ext held inh srv : Bool} {k : Nat} (hk : 8 ≤ k) : interrupt_Allowed.f k a l q z eb fb su ext idx held b inh srv = some (alB a idx ext held inh srv) := by
 unfold interrupt_Allowed.f alB
 rw [pOv, Option.bind_some, none_f _ _ _ _ _ _ k hk, Option.bind_some]
 cases inh <;> cases srv <;> cases ext <;> cases held <;> simp [bne]
def mayB (l q z eb fb su idx b : Int) : Bool := decide (l ≤ 32767 ∧ q ≤ 32767 ∧ idx ≤ 32767 ∧ b ≤ 32767 ∧ (0 ≤ z ∧ z ≤ 4095) ∧ (0 ≤ eb ∧ eb ≤ 7) ∧ (0 ≤ fb ∧ fb ≤ 31) ∧ 0 ≤ su ∧ su ≤ 7)
theorem chI_range {s n : Int} (h : chI s = some n) : (1 ≤ n ∧ n ≤ 10) ∧ wt s n = true := by
 have h1 := List.mem_of_find?_eq_some h
 have h2 := List.find?_some h
 have := (mem_upL n 10 1).1 h1
 exact ⟨by omega, h2⟩
end Go.Proofs.YthfobpkdloejfaaGreat.Rup
end
