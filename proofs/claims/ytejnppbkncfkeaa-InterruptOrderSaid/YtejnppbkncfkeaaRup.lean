/- Plain laws on pending interrupts: what the printed functions of chapter 07 return in closed form; no program in sight. -/
import Derived.Test.YtejnppbkncfkeaaBits
import Derived.Test.YtejnppbkncfkeaaF11
namespace Go.Proofs.Ytejnppbkncfkeaa.Rup
open Go.RowKit Go.Proofs.Ytejnppbkncfkeaa.PAll Go.Proofs.YtejnppbkncfkeaaW.PrintWords Go.Proofs.YtejnppbkncfkeaaW.PrintLast Go.Proofs.YtejnppbkncfkeaaW.PrintMore Go.Proofs.Ytejnppbkncfkeaa.Plain
set_option linter.unusedVariables false
set_option linter.unusedSimpArgs false
def pw (i : Int) : Int := 2 ^ i.toNat
/-- The bit i of s. -/
def wt (s i : Int) : Bool := s / pw i % 2 == 1
def upL : Nat → Int → List Int
  | 0, _ => []
  | m + 1, i => i :: upL m (i + 1)
def L10 : List Int := upL 10 1
theorem ten {i : Int} (h1 : 1 ≤ i) (h2 : i ≤ 10) : i = 1 ∨ i = 2 ∨ i = 3 ∨ i = 4 ∨ i = 5 ∨ i = 6 ∨ i = 7 ∨ i = 8 ∨ i = 9 ∨ i = 10 := by omega
theorem pw_range {i : Int} (h1 : 1 ≤ i) (h2 : i ≤ 10) : 2 ≤ pw i ∧ pw i ≤ 1024 := by
  rcases ten h1 h2 with rfl | rfl | rfl | rfl | rfl | rfl | rfl | rfl | rfl | rfl <;> decide
theorem mem_upL (n : Int) : ∀ (m : Nat) (i : Int), n ∈ upL m i ↔ i ≤ n ∧ n < i + m
  | 0, i => by simp [upL]
  | m + 1, i => by rw [upL, List.mem_cons, mem_upL n m (i + 1)]; push_cast; omega
theorem power_f {i : Int} {k : Nat} (h1 : 1 ≤ i) (h2 : i ≤ 10) (hk : 12 ≤ k) : periluneref07_power.f k i = some (pw i) := by
  obtain ⟨j, rfl⟩ : ∃ j, k = j + 12 := ⟨k - 12, by omega⟩
  rcases ten h1 h2 with rfl | rfl | rfl | rfl | rfl | rfl | rfl | rfl | rfl | rfl <;> simp [periluneref07_power.f, periluneref07_power.l0, wrap64, pw]
theorem rWaits_f {s i : Int} {k : Nat} (s0 : 0 ≤ s) (s1 : s < 65536) (h1 : 1 ≤ i) (h2 : i ≤ 10) (hk : 12 ≤ k) : periluneref07_Waits.f k s i = some (wt s i) := by
  unfold periluneref07_Waits.f
  have hp := pw_range h1 h2
  have hz : ¬ pw i = 0 := by omega
  have d0 : 0 ≤ s / pw i := Int.ediv_nonneg s0 (by omega)
  have d1 : s / pw i ≤ s := Int.ediv_le_self _ s0
  have e1 : wrap64 s = s := w64 (by omega) (by omega)
  have e2 : wrap64 (s / pw i) = s / pw i := w64 (by omega) (by omega)
  rw [if_pos h1, if_pos h2, power_f h1 h2 hk, Option.bind_some, if_neg hz, e1, Int.tdiv_eq_ediv_of_nonneg s0, e2, Int.tmod_eq_emod_of_nonneg d0]
  rfl
def wtB (s i : Int) : Bool := decide (1 ≤ i ∧ i ≤ 10) && wt s i
theorem rWaits_B {s i : Int} {k : Nat} (s0 : 0 ≤ s) (s1 : s < 65536) (hk : 12 ≤ k) : periluneref07_Waits.f k s i = some (wtB s i) := by
  unfold wtB
  by_cases h1 : 1 ≤ i
  · by_cases h2 : i ≤ 10
    · rw [rWaits_f s0 s1 h1 h2 hk, decide_eq_true ⟨h1, h2⟩, Bool.true_and]
    · unfold periluneref07_Waits.f
      rw [if_pos h1, if_neg h2, decide_eq_false (fun h => h2 h.2), Bool.false_and]
  · unfold periluneref07_Waits.f
    rw [if_neg h1, decide_eq_false (fun h => h1 h.1), Bool.false_and]
/-- The numbers below m in the bits of which p holds. -/
def sumU (p : Int → Bool) : Nat → Int → Int
  | 0, _ => 0
  | m + 1, i => (if p i = true then pw i else 0) + sumU p m (i + 1)
theorem sumU_range (p : Int → Bool) : ∀ (m : Nat) (i : Int), 1 ≤ i → i + m ≤ 11 → 0 ≤ sumU p m i ∧ sumU p m i ≤ 1024 * m
  | 0, i, _, _ => by simp [sumU]
  | m + 1, i, h1, h2 => by
    have ih := sumU_range p m (i + 1) (by omega) (by omega)
    have hp := pw_range h1 (by omega)
    rw [sumU]; push_cast
    split <;> omega
theorem sumU_congr (p q : Int → Bool) (h : ∀ i, 1 ≤ i → i ≤ 10 → p i = q i) : ∀ (m : Nat) (i : Int), 1 ≤ i → i + m ≤ 11 → sumU p m i = sumU q m i
  | 0, i, _, _ => rfl
  | m + 1, i, h1, h2 => by rw [sumU, sumU, h i h1 (by omega), sumU_congr p q h m (i + 1) (by omega) (by omega)]
theorem rReq_l0 (n s : Int) (s0 : 0 ≤ s) (s1 : s < 65536) : ∀ (m k : Nat) (acc i : Int), i + m = 11 → 1 ≤ i → 0 ≤ acc → acc + 1024 * m ≤ 20000 → 14 + m ≤ k →
    periluneref07_Request.l0 k n acc i s = some (acc + sumU (fun i => decide (i = n) || wt s i) m i, 0)
  | 0, k, acc, i, h, h1, a0, a1, hk => by
    obtain ⟨j, rfl⟩ : ∃ j, k = j + 1 := ⟨k - 1, by omega⟩
    rw [periluneref07_Request.l0, if_neg (by omega), IntKind.wrap_u16, sumU, Int.add_zero, Int.emod_eq_of_lt a0 (by omega)]
  | m + 1, k, acc, i, h, h1, a0, a1, hk => by
    obtain ⟨j, rfl⟩ : ∃ j, k = j + 1 := ⟨k - 1, by omega⟩
    have hp := pw_range h1 (by omega)
    have hw : wrap64 (acc + pw i) = acc + pw i := w64 (by omega) (by omega)
    have hi : wrap64 (i + 1) = i + 1 := w64 (by omega) (by omega)
    rw [periluneref07_Request.l0, if_pos (by omega), sumU]
    by_cases e : i = n
    · rw [if_pos e, power_f h1 (by omega) (by omega), Option.bind_some, hw, hi, rReq_l0 n s s0 s1 m j _ (i + 1) (by omega) (by omega) (by omega) (by omega) (by omega), decide_eq_true e, Bool.true_or, if_pos rfl, Int.add_assoc]
    · rw [if_neg e, rWaits_f s0 s1 h1 (by omega) (by omega), Option.bind_some, decide_eq_false e, Bool.false_or]
      cases hb : wt s i
      · rw [if_neg (by decide), hi, rReq_l0 n s s0 s1 m j _ (i + 1) (by omega) (by omega) (by omega) (by omega) (by omega), if_neg (by decide), Int.zero_add]
      · rw [if_pos rfl, power_f h1 (by omega) (by omega), Option.bind_some, hw, hi, rReq_l0 n s s0 s1 m j _ (i + 1) (by omega) (by omega) (by omega) (by omega) (by omega), if_pos rfl, Int.add_assoc]
/-- The pending interrupts with n; without n. -/
def rq (s n : Int) : Int := sumU (fun i => decide (i = n) || wt s i) 10 1
def le (s n : Int) : Int := sumU (fun i => !decide (i = n) && wt s i) 10 1
def rqR (s n : Int) : Int × Int := if 1 ≤ n ∧ n ≤ 10 then (rq s n, 0) else (0, 3)
theorem rReq_f {s n : Int} {k : Nat} (s0 : 0 ≤ s) (s1 : s < 65536) (hk : 30 ≤ k) : periluneref07_Request.f k s n = some (rqR s n) := by
  obtain ⟨j, rfl⟩ : ∃ j, k = j + 1 := ⟨k - 1, by omega⟩
  unfold periluneref07_Request.f rqR
  by_cases h1 : n < 1
  · rw [if_pos h1, periluneref07_Request.j0, if_pos rfl, if_neg (by omega)]
  · rw [if_neg h1, periluneref07_Request.j0]
    by_cases h2 : n > 10
    · rw [decide_eq_true h2, if_pos rfl, if_neg (by omega)]
    · rw [decide_eq_false h2, if_neg (by decide), if_pos (by omega), rReq_l0 n s s0 s1 10 j 0 1 (by omega) (by omega) (by omega) (by omega) (by omega), Int.zero_add]; rfl
theorem wt_mod (s i : Int) (h1 : 1 ≤ i) (h2 : i ≤ 10) : wt s i = wt (s % 2048) i := by
  have e : s / pw i % 2 = s % 2048 / pw i % 2 := by
    rcases ten h1 h2 with rfl | rfl | rfl | rfl | rfl | rfl | rfl | rfl | rfl | rfl
    · show s / 2 % 2 = s % 2048 / 2 % 2; omega
    · show s / 4 % 2 = s % 2048 / 4 % 2; omega
    · show s / 8 % 2 = s % 2048 / 8 % 2; omega
    · show s / 16 % 2 = s % 2048 / 16 % 2; omega
    · show s / 32 % 2 = s % 2048 / 32 % 2; omega
    · show s / 64 % 2 = s % 2048 / 64 % 2; omega
    · show s / 128 % 2 = s % 2048 / 128 % 2; omega
    · show s / 256 % 2 = s % 2048 / 256 % 2; omega
    · show s / 512 % 2 = s % 2048 / 512 % 2; omega
    · show s / 1024 % 2 = s % 2048 / 1024 % 2; omega
  unfold wt; rw [e]
/-! ### By tables: the bits 1 to 10 of a number below 2048 -/
def wtN (a i : Nat) : Bool := a / 2 ^ i % 2 == 1
def sumN (p : Nat → Bool) : Nat → Nat → Nat
  | 0, _ => 0
  | m + 1, i => (if p i = true then 2 ^ i else 0) + sumN p m (i + 1)
theorem pw_nat (i : Nat) : pw (i : Int) = ((2 ^ i : Nat) : Int) := by unfold pw; rw [Int.toNat_natCast]; push_cast; rfl
theorem wt_nat (a i : Nat) : wt (a : Int) (i : Int) = wtN a i := by
  unfold wt wtN
  rw [pw_nat, ← Int.natCast_ediv, show (2 : Int) = ((2 : Nat) : Int) from rfl, ← Int.natCast_emod, Bool.eq_iff_iff, beq_iff_eq, beq_iff_eq]
  omega
theorem sum_cast (p : Int → Bool) (q : Nat → Bool) (h : ∀ j : Nat, p (j : Int) = q j) : ∀ m i : Nat, sumU p m (i : Int) = ((sumN q m i : Nat) : Int)
  | 0, i => rfl
  | m + 1, i => by
    rw [sumU, sumN, h, show (i : Int) + 1 = ((i + 1 : Nat) : Int) by push_cast; rfl, sum_cast p q h m (i + 1), pw_nat]
    split <;> push_cast <;> rfl
theorem dec_nat (j m : Nat) : decide ((j : Int) = ((m + 1 : Nat) : Int)) = (j == m + 1) := by
  rw [Bool.eq_iff_iff, decide_eq_true_iff, beq_iff_eq]; omega
theorem tab_or : ∀ b < 2048, ∀ m < 10, (b &&& 2046) ||| 2 ^ (m + 1) = sumN (fun i => (i == m + 1) || wtN b i) 10 1 := by decide +kernel
theorem tab_an : ∀ b < 2048, ∀ m < 10, (b &&& 2046) &&& (65535 - 2 ^ (m + 1)) = sumN (fun i => !(i == m + 1) && wtN b i) 10 1 := by decide +kernel
theorem mask_mod (a : Nat) : a &&& 2046 = a % 2048 &&& 2046 := by
  rw [← Nat.and_two_pow_sub_one_eq_mod a 11, Nat.and_assoc, show (2 ^ 11 - 1) &&& 2046 = 2046 by decide]
theorem and_small (a : Nat) : a &&& 2046 < 2048 := Nat.lt_of_le_of_lt Nat.and_le_right (by decide)
theorem pRq {s n : Int} (s0 : 0 ≤ s) (s1 : s < 65536) (h1 : 1 ≤ n) (h2 : n ≤ 10) : Go.bits .or .u16 (Go.bits .and .u16 s 2046) (shl .u16 1 n) = rq s n := by
  obtain ⟨a, rfl⟩ := Int.eq_ofNat_of_zero_le s0
  obtain ⟨m, rfl⟩ : ∃ m : Nat, n = ((m + 1 : Nat) : Int) := ⟨n.toNat - 1, by omega⟩
  have hm : m < 10 := by omega
  have hm16 : m + 1 < 16 := by omega
  have hs := and_small a
  rw [one_shl (m + 1) (by omega), show (2046 : Int) = ((2046 : Nat) : Int) from rfl, u16_and_nat a 2046 (by omega) (by decide), u16_or_nat _ _ (by omega) (Nat.pow_lt_pow_right (by decide) hm16), mask_mod, tab_or _ (Nat.mod_lt _ (by decide)) m hm]
  unfold rq
  rw [sumU_congr _ (fun i => decide (i = ((m + 1 : Nat) : Int)) || wt ((a % 2048 : Nat) : Int) i) (fun i i1 i2 => by rw [wt_mod _ i i1 i2, show ((a : Int) % 2048) = ((a % 2048 : Nat) : Int) by omega]) 10 1 (by decide) (by decide)]
  exact (sum_cast _ _ (fun j => by rw [wt_nat, dec_nat]) 10 1).symm
theorem pLe {s n : Int} (s0 : 0 ≤ s) (s1 : s < 65536) (h1 : 1 ≤ n) (h2 : n ≤ 10) : Go.bits .andNot .u16 (Go.bits .and .u16 s 2046) (shl .u16 1 n) = le s n := by
  obtain ⟨a, rfl⟩ := Int.eq_ofNat_of_zero_le s0
  obtain ⟨m, rfl⟩ : ∃ m : Nat, n = ((m + 1 : Nat) : Int) := ⟨n.toNat - 1, by omega⟩
  have hm : m < 10 := by omega
  have hm16 : m + 1 < 16 := by omega
  have hs := and_small a
  rw [one_shl (m + 1) (by omega), show (2046 : Int) = ((2046 : Nat) : Int) from rfl, u16_and_nat a 2046 (by omega) (by decide), u16_andNot_nat _ _ (by omega) (Nat.pow_lt_pow_right (by decide) hm16), mask_mod, tab_an _ (Nat.mod_lt _ (by decide)) m hm]
  unfold le
  rw [sumU_congr _ (fun i => !decide (i = ((m + 1 : Nat) : Int)) && wt ((a % 2048 : Nat) : Int) i) (fun i i1 i2 => by rw [wt_mod _ i i1 i2, show ((a : Int) % 2048) = ((a % 2048 : Nat) : Int) by omega]) 10 1 (by decide) (by decide)]
  exact (sum_cast _ _ (fun j => by rw [wt_nat, dec_nat]) 10 1).symm
theorem pReq_f {s n : Int} (s0 : 0 ≤ s) (s1 : s < 65536) : interrupt_Request.f s n = some (rqR s n) := by
  unfold interrupt_Request.f rqR
  by_cases h1 : n < 1
  · rw [if_pos h1, if_neg (by omega)]
  · rw [if_neg h1]
    by_cases h2 : n > 10
    · rw [if_pos h2, if_neg (by omega)]
    · rw [if_neg h2, if_pos (by omega), if_pos (by omega), pRq s0 s1 (by omega) (by omega)]
/-- The test of the program for the bit i. -/
theorem pWt {s i : Int} (s0 : 0 ≤ s) (s1 : s < 65536) (h1 : 1 ≤ i) (h2 : i ≤ 10) : (Go.bits .and .u16 (shr .u16 s i) 1 == 1) = wt s i := by
  obtain ⟨a, rfl⟩ := Int.eq_ofNat_of_zero_le s0
  obtain ⟨m, rfl⟩ := Int.eq_ofNat_of_zero_le (show 0 ≤ i by omega)
  rw [bit_low a m (by omega) (by omega), wt_nat]
  unfold wtN
  rw [Bool.eq_iff_iff, beq_iff_eq, beq_iff_eq]
  omega
theorem pWd {s i : Int} (s0 : 0 ≤ s) (s1 : s < 65536) (h1 : 1 ≤ i) (h2 : i ≤ 10) : Go.bits .and .u16 (s / 2 ^ i.toNat) 1 = if wt s i = true then 1 else 0 := by
  obtain ⟨a, rfl⟩ := Int.eq_ofNat_of_zero_le s0
  obtain ⟨m, rfl⟩ := Int.eq_ofNat_of_zero_le (show 0 ≤ i by omega)
  have hl : a / 2 ^ m < 65536 := Nat.lt_of_le_of_lt (Nat.div_le_self _ _) (by omega)
  have := u16_and_nat (a / 2 ^ m) 1 hl (by decide)
  rw [nat_mask1] at this
  rw [Int.toNat_natCast, show ((a : Int) / 2 ^ m) = ((a / 2 ^ m : Nat) : Int) by push_cast; rfl, show (1 : Int) = ((1 : Nat) : Int) from rfl, this, wt_nat]
  unfold wtN
  have h2 := Nat.mod_two_eq_zero_or_one (a / 2 ^ m)
  rcases h2 with h2 | h2 <;> rw [h2] <;> rfl
/-! ### Choose, Allowed, May -/
def chR : Option Int → Int × Bool
  | some i => (i, true)
  | none => (0, false)
def chI (s : Int) : Option Int := L10.find? (wt s)
theorem rCh_go (s : Int) (s0 : 0 ≤ s) (s1 : s < 65536) : ∀ (m k : Nat) (i : Int), i + m = 11 → 1 ≤ i → 14 + m ≤ k → periluneref07_Choose.l0 k i s = some (chR ((upL m i).find? (wt s)))
  | 0, k, i, h, h1, hk => by
    obtain ⟨j, rfl⟩ : ∃ j, k = j + 1 := ⟨k - 1, by omega⟩
    rw [periluneref07_Choose.l0, if_neg (by omega)]; rfl
  | m + 1, k, i, h, h1, hk => by
    obtain ⟨j, rfl⟩ : ∃ j, k = j + 1 := ⟨k - 1, by omega⟩
    rw [periluneref07_Choose.l0, if_pos (by omega), rWaits_f s0 s1 h1 (by omega) (by omega), Option.bind_some, upL, List.find?_cons]
    cases hb : wt s i
    · rw [if_neg (by decide), w64 (by omega) (by omega), rCh_go s s0 s1 m j (i + 1) (by omega) (by omega) (by omega)]
    · rw [if_pos rfl]; rfl
def ovI (a : Int) : Int := if a / 16384 = 1 then 1 else if a / 16384 = 2 then -1 else 0
theorem pOv (a : Int) : onescomp_Overflow.f a = some (ovI a) := by
  unfold onescomp_Overflow.f ovI; split
  · rfl
  · split <;> rfl
theorem rOv {a : Int} (a0 : 0 ≤ a) (a1 : a < 65536) : periluneref01_Overflow.f a = some (ovI a) := by
  unfold periluneref01_Overflow.f ovI
  have e1 : wrap64 a = a := w64 (by omega) (by omega)
  have e2 : wrap64 (a / 16384) = a / 16384 := w64 (by omega) (by omega)
  have e3 : wrap64 (a / 32768) = a / 32768 := w64 (by omega) (by omega)
  have e4 : wrap64 (a / 16384 % 2 - a / 32768) = a / 16384 % 2 - a / 32768 := w64 (by omega) (by omega)
  rw [e1, Int.tdiv_eq_ediv_of_nonneg a0, Int.tdiv_eq_ediv_of_nonneg a0, e2, e3, Int.tmod_eq_emod_of_nonneg (by omega), e4]
  congr 1
  split
  · omega
  · split <;> omega
def alB (a idx : Int) (ext held inh srv : Bool) : Bool := !inh && !srv && !ext && !held && (idx == 0) && (ovI a == 0)
theorem rAl {a l q z eb fb su idx b : Int} {ext held inh srv : Bool} (a0 : 0 ≤ a) (a1 : a < 65536) : periluneref07_Allowed.f a l q z eb fb su ext idx held b inh srv = some (alB a idx ext held inh srv) := by
  unfold periluneref07_Allowed.f alB
  rw [rOv a0 a1]
  cases inh <;> cases srv <;> cases ext <;> cases held <;> simp
  by_cases h : idx = 0 <;> simp [h]
theorem none_f (a b c d e f : Bool) (k : Nat) (hk : 8 ≤ k) : interrupt_none.f k [a, b, c, d, e, f] = some (!a && !b && !c && !d && !e && !f) := by
  obtain ⟨j, rfl⟩ : ∃ j, k = j + 8 := ⟨k - 8, by omega⟩
  cases a <;> cases b <;> cases c <;> cases d <;> cases e <;> cases f <;> simp [interrupt_none.f, interrupt_none.l0, rdOf, wrap64]
theorem pAl {a l q z eb fb su idx b : Int} {ext held inh srv : Bool} {k : Nat} (hk : 8 ≤ k) : interrupt_Allowed.f k a l q z eb fb su ext idx held b inh srv = some (alB a idx ext held inh srv) := by
  unfold interrupt_Allowed.f alB
  rw [pOv, Option.bind_some, none_f _ _ _ _ _ _ k hk, Option.bind_some]
  cases inh <;> cases srv <;> cases ext <;> cases held <;> simp [bne]
theorem rChoose_f {s a l q z eb fb su idx b : Int} {ext held inh srv : Bool} {k : Nat} (s0 : 0 ≤ s) (s1 : s < 65536) (a0 : 0 ≤ a) (a1 : a < 65536) (hk : 30 ≤ k) :
    periluneref07_Choose.f k s a l q z eb fb su ext idx held b inh srv = some (if alB a idx ext held inh srv then chR (chI s) else (0, false)) := by
  unfold periluneref07_Choose.f
  rw [rAl a0 a1, Option.bind_some, rCh_go s s0 s1 10 k 1 (by omega) (by omega) (by omega)]
  split <;> rfl
def mayB (l q z eb fb su idx b : Int) : Bool := decide (l ≤ 32767 ∧ q ≤ 32767 ∧ idx ≤ 32767 ∧ b ≤ 32767 ∧ (0 ≤ z ∧ z ≤ 4095) ∧ (0 ≤ eb ∧ eb ≤ 7) ∧ (0 ≤ fb ∧ fb ≤ 31) ∧ 0 ≤ su ∧ su ≤ 7)
theorem rMay_f {a l q z eb fb su idx b : Int} {ext held inh srv : Bool} : periluneref05_May.f a l q z eb fb su ext idx held b inh srv = some (mayB l q z eb fb su idx b) := by
  unfold periluneref05_May.f mayB
  repeat' (split <;> try (congr 1; symm; rw [decide_eq_false_iff_not]; omega))
  congr 1
  rw [Bool.eq_iff_iff, decide_eq_true_iff, decide_eq_true_iff]
  omega
/-! ### Enter, Leave -/
theorem low_f {a : Int} (a0 : 0 ≤ a) (a1 : a < 65536) : periluneref01_Low.f a = some (a % 32768) := by
  unfold periluneref01_Low.f; rw [w64 (by omega) (by omega), Int.tmod_eq_emod_of_nonneg a0]
def wdI (l : List Int) (i : Int) : Int := if i < (l.length : Int) then rd l i % 32768 else 0
theorem word_f {l : List Int} {i : Int} (h0 : 0 ≤ i) (hl : ∀ x ∈ l, 0 ≤ x ∧ x < 65536) : periluneref07_word.f l i = some (wdI l i) := by
  unfold periluneref07_word.f wdI
  by_cases h : i ≥ (l.length : Int)
  · rw [if_pos h, if_neg (by omega)]
  · have hm : rd l i ∈ l := by
      unfold rd
      rw [List.getD_eq_getElem?_getD, List.getElem?_eq_getElem (by omega)]; exact List.getElem_mem _
    have := hl _ hm
    rw [if_neg h, if_pos h0, if_pos (by omega), low_f this.1 this.2, if_pos (by omega)]; rfl
theorem rEn_l0 (n s : Int) (ls : List S49) (x0 x1 x2 x3 x4 x5 x6 : Int) (x7 : Bool) (x8 : Int) (x9 : Bool) (x10 : Int) (x11 x12 : Bool) (s0 : 0 ≤ s) (s1 : s < 65536) : ∀ (m k : Nat) (acc i : Int), i + m = 11 → 1 ≤ i → 0 ≤ acc → acc + 1024 * m ≤ 20000 → 14 + m ≤ k →
    periluneref07_Enter.l0 k n ls acc i x0 x1 x2 x3 x4 x5 x6 x7 x8 x9 x10 x11 x12 s = some (x0, x1, x2, x3, x4, x5, x6, x7, x8, x9, x10, x11, x12, acc + sumU (fun i => !decide (i = n) && wt s i) m i, ls, n, 0)
  | 0, k, acc, i, h, h1, a0, a1, hk => by
    obtain ⟨j, rfl⟩ : ∃ j, k = j + 1 := ⟨k - 1, by omega⟩
    rw [periluneref07_Enter.l0, if_neg (by omega), IntKind.wrap_u16, sumU, Int.add_zero, Int.emod_eq_of_lt a0 (by omega)]
  | m + 1, k, acc, i, h, h1, a0, a1, hk => by
    obtain ⟨j, rfl⟩ : ∃ j, k = j + 1 := ⟨k - 1, by omega⟩
    have hp := pw_range h1 (by omega)
    have hw : wrap64 (acc + pw i) = acc + pw i := w64 (by omega) (by omega)
    have hi : wrap64 (i + 1) = i + 1 := w64 (by omega) (by omega)
    rw [periluneref07_Enter.l0, if_pos (by omega), sumU]
    by_cases e : i = n
    · rw [if_pos e, hi, rEn_l0 n s ls x0 x1 x2 x3 x4 x5 x6 x7 x8 x9 x10 x11 x12 s0 s1 m j _ (i + 1) (by omega) (by omega) (by omega) (by omega) (by omega), decide_eq_true e, Bool.not_true, Bool.false_and, if_neg (by decide), Int.zero_add]
    · rw [if_neg e, rWaits_f s0 s1 h1 (by omega) (by omega), Option.bind_some, decide_eq_false e, Bool.not_false, Bool.true_and]
      cases hb : wt s i
      · rw [if_neg (by decide), hi, rEn_l0 n s ls x0 x1 x2 x3 x4 x5 x6 x7 x8 x9 x10 x11 x12 s0 s1 m j _ (i + 1) (by omega) (by omega) (by omega) (by omega) (by omega), if_neg (by decide), Int.zero_add]
      · rw [if_pos rfl, power_f h1 (by omega) (by omega), Option.bind_some, hw, hi, rEn_l0 n s ls x0 x1 x2 x3 x4 x5 x6 x7 x8 x9 x10 x11 x12 s0 s1 m j _ (i + 1) (by omega) (by omega) (by omega) (by omega) (by omega), if_pos rfl, Int.add_assoc]
theorem chI_range {s n : Int} (h : chI s = some n) : (1 ≤ n ∧ n ≤ 10) ∧ wt s n = true := by
  have h1 := List.mem_of_find?_eq_some h
  have h2 := List.find?_some h
  have := (mem_upL n 10 1).1 h1
  exact ⟨by omega, h2⟩
end Go.Proofs.Ytejnppbkncfkeaa.Rup
