/- What the functions of parity and of its reference compute, in plain numbers, and their contracts; no condition but the ranges of the kinds. -/
import Derived.Test.YtllmmgjmkgiodaaF14
import Derived.Test.YtllmmgjmkgiodaaBits2
namespace Go.Proofs.Ytllmmgjmkgiodaa.Par
set_option linter.unusedVariables false
set_option linter.unusedSimpArgs false
open Go.RowKit Go.Proofs.Ytllmmgjmkgiodaa.PAll Go.Proofs.YtllmmgjmkgiodaaW.PrintWords Go.Proofs.YtllmmgjmkgiodaaW.PrintLast Go.Proofs.YtllmmgjmkgiodaaW.PrintMore Go.Proofs.Ytllmmgjmkgiodaa.Plain
theorem odd_loop (a : Nat) (ha : a < 65536) : ∀ d i k b, i + d = 16 → d < k → b = obits a i → parity_odd.l0 k (a : Int) b (i : Int) = some (obits a 16)
  | 0, i, k, b, h, hk, hb => by
    obtain ⟨k, rfl⟩ : ∃ m, k = m + 1 := ⟨k - 1, by omega⟩
    obtain rfl : i = 16 := by omega
    simp only [parity_odd.l0]; rw [if_neg (by omega), hb]
  | d + 1, i, k, b, h, hk, hb => by
    obtain ⟨k, rfl⟩ : ∃ m, k = m + 1 := ⟨k - 1, by omega⟩
    have hw : wrap64 ((i : Int) + 1) = ((i + 1 : Nat) : Int) := by rw [w64 (by omega) (by omega)]; omega
    simp only [parity_odd.l0]
    rw [if_pos (by omega), if_pos (by omega), bit_low a i ha (by omega), hw]
    have ht := bit_tells a i
    by_cases c : a / 2 ^ i % 2 = 1
    · rw [if_pos (by omega)]
      refine odd_loop a ha d (i + 1) k _ (by omega) (by omega) ?_
      rw [hb, obits, ht]; simp [c]
    · rw [if_neg (by omega)]
      refine odd_loop a ha d (i + 1) k _ (by omega) (by omega) ?_
      rw [hb, obits, ht]; simp [c]
theorem odd_eq (a k : Nat) (ha : a < 65536) (hk : 16 < k) : parity_odd.f k (a : Int) = some (obits a 16) := by
  unfold parity_odd.f
  exact odd_loop a ha 16 0 k false (by omega) hk rfl
theorem get_eq (a k : Nat) (ha : a < 65536) (hk : 16 < k) : parity_Get.f k (a : Int) = some (((a % 32768 : Nat) : Int), obits a 16) := by
  unfold parity_Get.f
  rw [odd_eq a k ha hk, low15 a ha]; rfl
/-- The stored word of a word. -/
def putN (a : Nat) : Nat := if obits a 15 then a % 32768 else a % 32768 + 32768
theorem putN_lt (a : Nat) : putN a < 65536 := by
  have hl : a % 32768 < 32768 := Nat.mod_lt _ (by decide)
  unfold putN; split <;> omega
theorem putN_mod (a : Nat) : putN a % 32768 = a % 32768 := by
  unfold putN; split <;> omega
theorem putN_odd (a : Nat) : obits (putN a) 16 = true := by
  have hm : obits (putN a) 15 = obits a 15 := by
    have h1 : obits (putN a % 32768) 15 = obits (putN a) 15 := obits_mod (putN a) 15 15 (by omega)
    have h2 : obits (a % 32768) 15 = obits a 15 := obits_mod a 15 15 (by omega)
    rw [← h1, putN_mod, h2]
  show (obits (putN a) 15 ^^ (putN a).testBit 15) = true
  rw [hm, bit_tells]
  have hl : a % 32768 < 32768 := Nat.mod_lt _ (by decide)
  unfold putN
  by_cases h : obits a 15 = true
  · rw [if_pos h, h]
    have : ¬ (a % 32768 / 2 ^ 15 % 2 = 1) := by omega
    simp [this]
  · rw [if_neg h]
    replace h := Bool.eq_false_iff.mpr h
    have : (a % 32768 + 32768) / 2 ^ 15 % 2 = 1 := by omega
    rw [h, decide_eq_true this]; rfl
theorem put_eq (a k : Nat) (ha : a < 65536) (hk : 16 < k) : parity_Put.f k (a : Int) = some ((putN a : Nat) : Int) := by
  unfold parity_Put.f
  have hl : a % 32768 < 32768 := Nat.mod_lt _ (by decide)
  have ho : obits (a % 32768) 16 = obits a 15 := by
    show obits (a % 32768) (15 + 1) = _
    rw [obits_top _ 15 hl]
    exact obits_mod a 15 15 (by omega)
  rw [low15 a ha, odd_eq _ k (by omega) hk, ho]
  simp only [Option.bind_some]
  unfold putN
  by_cases h : obits a 15 = true
  · rw [if_pos h, if_pos h]
  · rw [if_neg h, if_neg h, top_on _ hl]
theorem flip_eq (a j : Nat) (ha : a < 65536) (hj : j < 16) : parity_Flip.f (a : Int) (j : Int) = some (((a ^^^ 2 ^ j : Nat) : Int), 0) := by
  unfold parity_Flip.f
  rw [if_neg (by omega), if_neg (by omega), if_pos (by omega), xor_bit a j ha hj]
/-- The number of ones. -/
def popN : Nat → Nat
  | 0 => 0
  | n + 1 => (n + 1) % 2 + popN ((n + 1) / 2)
theorem popN_step (n : Nat) (h : 0 < n) : popN n = n % 2 + popN (n / 2) := by
  obtain ⟨m, rfl⟩ : ∃ m, n = m + 1 := ⟨n - 1, by omega⟩
  rw [popN]
theorem popN_le : ∀ m n, n < 2 ^ m → popN n ≤ m
  | 0, n, h => by obtain rfl : n = 0 := by simpa using h
                  simp [popN]
  | m + 1, n, h => by
    by_cases c : n = 0
    · subst c; simp [popN]
    · rw [popN_step n (by omega)]
      have := popN_le m (n / 2) (by rw [Nat.pow_succ] at h; omega)
      omega
theorem obits_half (n : Nat) : ∀ m, obits n (m + 1) = (decide (n % 2 = 1) ^^ obits (n / 2) m)
  | 0 => by simp [obits, Nat.testBit_zero]
  | m + 1 => by
    rw [obits, obits_half n m, obits, Nat.testBit_succ]
    cases decide (n % 2 = 1) <;> cases obits (n / 2) m <;> simp
theorem obits_pop : ∀ m n, n < 2 ^ m → obits n m = decide (popN n % 2 = 1)
  | 0, n, h => by obtain rfl : n = 0 := by simpa using h
                  simp [popN, obits]
  | m + 1, n, h => by
    rw [obits_half, obits_pop m (n / 2) (by rw [Nat.pow_succ] at h; omega)]
    by_cases c : n = 0
    · subst c; simp [popN]
    · rw [popN_step n (by omega)]
      by_cases a : n % 2 = 1 <;> by_cases b : popN (n / 2) % 2 = 1 <;> simp [a, b] <;> omega
theorem ones_loop : ∀ m n k c : Nat, n < 2 ^ m → n < 65536 → m < k → c + m ≤ 100 → periluneref02_ones.l0 k (n : Int) (c : Int) = some ((c + popN n : Nat) : Int)
  | m, n, k, c, h, hn, hk, hc => by
    obtain ⟨k, rfl⟩ : ∃ q, k = q + 1 := ⟨k - 1, by omega⟩
    simp only [periluneref02_ones.l0]
    by_cases z : n = 0
    · subst z; rw [if_neg (by simp)]; simp [popN]
    · rw [if_pos (by omega), popN_step n (by omega)]
      cases m with
      | zero => simp at h; omega
      | succ m =>
        have e1 : wrap64 (Int.tdiv (n : Int) 2) = ((n / 2 : Nat) : Int) := by
          rw [Int.tdiv_eq_ediv_of_nonneg (by omega), w64 (by omega) (by omega)]; omega
        have e2 : wrap64 ((c : Int) + Int.tmod (n : Int) 2) = ((c + n % 2 : Nat) : Int) := by
          rw [Int.tmod_eq_emod_of_nonneg (by omega), w64 (by omega) (by omega)]; omega
        rw [e1, e2, ones_loop m (n / 2) k (c + n % 2) (by rw [Nat.pow_succ] at h; omega) (by omega) (by omega) (by omega)]
        congr 2; omega
theorem ones_eq (n : Nat) (hn : n < 65536) : periluneref02_ones.f 20 (n : Int) = some ((popN n : Nat) : Int) := by
  unfold periluneref02_ones.f
  have := ones_loop 16 n 20 0 hn hn (by decide) (by decide)
  rw [Nat.zero_add] at this
  exact this
theorem odd_of_pop (n m : Nat) (h : n < 2 ^ m) : (Int.tmod ((popN n : Nat) : Int) 2 == 1) = obits n m := by
  rw [obits_pop m n h, Int.tmod_eq_emod_of_nonneg (by omega)]
  by_cases c : popN n % 2 = 1
  · rw [decide_eq_true c]; rw [beq_iff_eq]; omega
  · rw [decide_eq_false c]; rw [beq_eq_false_iff_ne]; omega
theorem refOdd_eq (a : Nat) (ha : a < 65536) : periluneref02_Odd.f 20 (a : Int) = some (obits a 15) := by
  unfold periluneref02_Odd.f
  have hl : a % 32768 < 32768 := Nat.mod_lt _ (by decide)
  have e : Int.tmod (wrap64 (a : Int)) 32768 = ((a % 32768 : Nat) : Int) := by
    rw [w64 (by omega) (by omega), Int.tmod_eq_emod_of_nonneg (by omega)]; omega
  rw [e, ones_eq _ (by omega)]
  simp only [Option.bind_some]
  rw [odd_of_pop _ 15 hl]
  exact congrArg some (obits_mod a 15 15 (by omega))
theorem refPut_eq (a : Nat) (ha : a < 65536) : periluneref02_Put.f 20 (a : Int) = some ((putN a : Nat) : Int) := by
  unfold periluneref02_Put.f
  have e : Int.tmod (wrap64 (a : Int)) 32768 = ((a % 32768 : Nat) : Int) := by
    rw [w64 (by omega) (by omega), Int.tmod_eq_emod_of_nonneg (by omega)]; omega
  rw [refOdd_eq a ha, e]
  simp only [Option.bind_some]
  unfold putN
  by_cases h : obits a 15 = true
  · have e2 : ((a % 32768 : Nat) : Int) % 65536 = ((a % 32768 : Nat) : Int) := by omega
    rw [if_pos h, if_pos h, IntKind.wrap_u16, e2]
  · have e2 : (((a % 32768 : Nat) : Int) + 32768) % 65536 = ((a % 32768 + 32768 : Nat) : Int) := by omega
    rw [if_neg h, if_neg h, w64 (by omega) (by omega), IntKind.wrap_u16, e2]
theorem refGet_eq (a : Nat) (ha : a < 65536) : periluneref02_Get.f 20 (a : Int) = some (((a % 32768 : Nat) : Int), obits a 16) := by
  unfold periluneref02_Get.f
  rw [w64 (by omega) (by omega), ones_eq a ha]
  simp only [Option.bind_some]
  have e : (a : Int) % 32768 % 65536 = ((a % 32768 : Nat) : Int) := by omega
  rw [odd_of_pop a 16 ha, Int.tmod_eq_emod_of_nonneg (by omega), IntKind.wrap_u16, e]
theorem xor_even (x j : Nat) : (x ^^^ 2 ^ j) % 2 = (x + (if j = 0 then 1 else 0)) % 2 := by
  have h : (x ^^^ 2 ^ j).testBit 0 = (x.testBit 0 ^^ decide (j = 0)) := by rw [Nat.testBit_xor, Nat.testBit_two_pow]
  rw [Nat.testBit_zero, Nat.testBit_zero] at h
  obtain ⟨y, hy⟩ : ∃ y, x ^^^ 2 ^ j = y := ⟨_, rfl⟩
  rw [hy] at h ⊢
  by_cases c : j = 0 <;> by_cases a : x % 2 = 1 <;> by_cases b : y % 2 = 1 <;> simp [a, b, c] at h ⊢ <;> omega
theorem xor_pow : ∀ j x : Nat, x ^^^ 2 ^ j = if x / 2 ^ j % 2 = 1 then x - 2 ^ j else x + 2 ^ j
  | 0, x => by
    have hd : (x ^^^ 2 ^ 0) / 2 = x / 2 := by rw [Nat.xor_div_two]; simp
    have hm : (x ^^^ 2 ^ 0) % 2 = (x + 1) % 2 := by rw [xor_even]; rfl
    simp only [Nat.pow_zero, Nat.div_one] at *
    split <;> omega
  | j + 1, x => by
    have hp : (2 : Nat) ^ (j + 1) = 2 * 2 ^ j := by rw [Nat.pow_succ, Nat.mul_comm]
    have hd : (x ^^^ 2 ^ (j + 1)) / 2 = x / 2 ^^^ 2 ^ j := by rw [Nat.xor_div_two, hp, Nat.mul_div_cancel_left _ (by decide)]
    have hm : (x ^^^ 2 ^ (j + 1)) % 2 = x % 2 := by rw [xor_even]; simp
    rw [xor_pow j (x / 2)] at hd
    have hq : x / 2 ^ (j + 1) = x / 2 / 2 ^ j := by rw [hp, Nat.div_div_eq_div_mul]
    rw [hq]
    by_cases c : x / 2 / 2 ^ j % 2 = 1
    · rw [if_pos c] at hd ⊢
      have : 2 ^ j ≤ x / 2 := by
        by_cases z : x / 2 < 2 ^ j
        · rw [Nat.div_eq_of_lt z] at c; simp at c
        · omega
      omega
    · rw [if_neg c] at hd ⊢
      omega
/-! What they compute, as functions of whole numbers. -/
def ob16 (x : Int) : Bool := obits x.toNat 16
def ob15 (x : Int) : Bool := obits x.toNat 15
def putI (x : Int) : Int := (putN x.toNat : Nat)
def flI (x j : Int) : Int := if 0 ≤ j ∧ j ≤ 15 then ((x.toNat ^^^ 2 ^ j.toNat : Nat) : Int) else 0
def feI (j : Int) : Int := if 0 ≤ j ∧ j ≤ 15 then 0 else 3
theorem odd_c (x : Int) (h0 : 0 ≤ x) (h1 : x < 65536) (w : World) : Calls Try.prog 44 #[.int .u16 x] w fun e w' => e = .returned (.bool (ob16 x)) ∧ Drawn0 w w' := by
  obtain ⟨n, rfl⟩ := Int.eq_ofNat_of_zero_le h0
  exact parity_odd.calls 20 _ _ w (odd_eq n 20 (by omega) (by decide))
theorem Put_c (x : Int) (h0 : 0 ≤ x) (h1 : x < 65536) (w : World) : Calls Try.prog 34 #[.int .u16 x] w fun e w' => e = .returned (.int .u16 (putI x)) ∧ Drawn0 w w' := by
  obtain ⟨n, rfl⟩ := Int.eq_ofNat_of_zero_le h0
  exact parity_Put.calls 20 _ _ w (put_eq n 20 (by omega) (by decide))
theorem Get_c (x : Int) (h0 : 0 ≤ x) (h1 : x < 65536) (w : World) : Calls Try.prog 38 #[.int .u16 x] w fun e w' => e = .returned (.tuple #[.int .u16 (x % 32768), .bool (ob16 x)]) ∧ Drawn0 w w' := by
  obtain ⟨n, rfl⟩ := Int.eq_ofNat_of_zero_le h0
  have := parity_Get.calls 20 _ _ _ w (get_eq n 20 (by omega) (by decide))
  rw [Int.natCast_emod] at this
  exact this
theorem Flip_c (x j : Int) (h0 : 0 ≤ x) (h1 : x < 65536) (w : World) : Calls Try.prog 29 #[.int .u16 x, .int .i64 j] w fun e w' => e = .returned (.tuple #[.int .u16 (flI x j), .int .i64 (feI j)]) ∧ Drawn0 w w' := by
  obtain ⟨n, rfl⟩ := Int.eq_ofNat_of_zero_le h0
  refine parity_Flip.calls _ _ _ _ w ?_
  unfold flI feI
  by_cases c : 0 ≤ j ∧ j ≤ 15
  · rw [if_pos c, if_pos c]
    obtain ⟨m, rfl⟩ := Int.eq_ofNat_of_zero_le c.1
    exact flip_eq n m (by omega) (by omega)
  · rw [if_neg c, if_neg c]
    unfold parity_Flip.f
    by_cases d : j < 0
    · rw [if_pos d]
    · rw [if_neg d, if_pos (by omega)]
theorem refOdd_c (x : Int) (h0 : 0 ≤ x) (h1 : x < 65536) (w : World) : Calls Try.prog 46 #[.int .u16 x] w fun e w' => e = .returned (.bool (ob15 x)) ∧ Drawn0 w w' := by
  obtain ⟨n, rfl⟩ := Int.eq_ofNat_of_zero_le h0
  exact periluneref02_Odd.calls 20 _ _ w (refOdd_eq n (by omega))
theorem refPut_c (x : Int) (h0 : 0 ≤ x) (h1 : x < 65536) (w : World) : Calls Try.prog 40 #[.int .u16 x] w fun e w' => e = .returned (.int .u16 (putI x)) ∧ Drawn0 w w' := by
  obtain ⟨n, rfl⟩ := Int.eq_ofNat_of_zero_le h0
  exact periluneref02_Put.calls 20 _ _ w (refPut_eq n (by omega))
theorem refGet_c (x : Int) (h0 : 0 ≤ x) (h1 : x < 65536) (w : World) : Calls Try.prog 39 #[.int .u16 x] w fun e w' => e = .returned (.tuple #[.int .u16 (x % 32768), .bool (ob16 x)]) ∧ Drawn0 w w' := by
  obtain ⟨n, rfl⟩ := Int.eq_ofNat_of_zero_le h0
  have := periluneref02_Get.calls 20 _ _ _ w (refGet_eq n (by omega))
  rw [Int.natCast_emod] at this
  exact this
/-! What the laws ask of them. -/
theorem ob16_flip (x j : Int) (h0 : 0 ≤ x) (h1 : x < 65536) (j0 : 0 ≤ j) (j1 : j ≤ 15) : ob16 (flI x j) = !ob16 x := by
  unfold flI ob16
  rw [if_pos ⟨j0, j1⟩, Int.toNat_natCast, obits_flip, if_pos (by omega)]
theorem fl_range (x j : Int) (h0 : 0 ≤ x) (h1 : x < 65536) : 0 ≤ flI x j ∧ flI x j < 65536 := by
  unfold flI
  split
  · next h => have := xor_lt x.toNat j.toNat (by omega) (by omega); omega
  · omega
theorem fl_back (x j : Int) (h0 : 0 ≤ x) (j0 : 0 ≤ j) (j1 : j ≤ 15) : flI (flI x j) j = x := by
  unfold flI
  rw [if_pos ⟨j0, j1⟩, if_pos ⟨j0, j1⟩, Int.toNat_natCast, xor_back]; omega
theorem fl_ne (x j : Int) (h0 : 0 ≤ x) (j0 : 0 ≤ j) (j1 : j ≤ 15) : flI x j ≠ x := by
  unfold flI
  rw [if_pos ⟨j0, j1⟩]
  have := xor_ne x.toNat j.toNat
  omega
theorem fe_ok (j : Int) (j0 : 0 ≤ j) (j1 : j ≤ 15) : feI j = 0 := by unfold feI; rw [if_pos ⟨j0, j1⟩]
theorem put_range (x : Int) : 0 ≤ putI x ∧ putI x < 65536 := by
  unfold putI; have := putN_lt x.toNat; omega
theorem put_mod (x : Int) (h0 : 0 ≤ x) : putI x % 32768 = x % 32768 := by
  unfold putI; have := putN_mod x.toNat; omega
theorem put_odd (x : Int) : ob16 (putI x) = true := by
  unfold ob16 putI; rw [Int.toNat_natCast]; exact putN_odd _
end Go.Proofs.Ytllmmgjmkgiodaa.Par
