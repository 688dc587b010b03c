/- Chapter 5: a part of its proof (cut by program out of CpuL, CpuL2, CpuL3, CpuL4); no condition. -/
import Derived.BigQuiet
import Derived.Deep.QuietTactic
import Derived.Test.YthfobpkdloejfaaGreatLa11
import Derived.Test.YthfobpkdloejfaaGreatLa27
set_option linter.unusedVariables false
set_option linter.unusedSimpArgs false
set_option linter.unusedSectionVars false
set_option maxRecDepth 100000
set_option maxHeartbeats 8000000
section
namespace Go.Proofs.YthfobpkdloejfaaGreat.Cpu
open Go.RowKit Go.Proofs.YthfobpkdloejfaaGreat.PAll Go.Proofs.YthfobpkdloejfaaGreat.One Go.Proofs.YthfobpkdloejfaaGreat.Mem Go.Proofs.YthfobpkdloejfaaGreat.Row Go.Proofs.YthfobpkdloejfaaGreatW.PrintWords Go.Proofs.YthfobpkdloejfaaGreatW.PrintLast Go.Proofs.YthfobpkdloejfaaGreatW.PrintMore Go.Proofs.YthfobpkdloejfaaGreat.Plain
section
variable {c : Cx} {n : Nat} {st : St} {w : World}
theorem u16_xor {a b : Int} (a0 : 0 ≤ a) (a1 : a < 65536) (b0 : 0 ≤ b) (b1 : b < 65536) : Go.bits .xor .u16 a b = ((a.toNat ^^^ b.toNat : Nat) : Int) := by
 have hx : a.toNat ^^^ b.toNat < 2 ^ 16 := Nat.xor_lt_two_pow (by omega) (by omega)
 have h1 : (BitVec.ofInt 16 a).toNat = a.toNat := by
  rw [show a = ((a.toNat : Nat) : Int) by omega, BitVec.ofInt_natCast, BitVec.toNat_ofNat]; exact Nat.mod_eq_of_lt (by omega)
 have h2 : (BitVec.ofInt 16 b).toNat = b.toNat := by
  rw [show b = ((b.toNat : Nat) : Int) by omega, BitVec.ofInt_natCast, BitVec.toNat_ofNat]; exact Nat.mod_eq_of_lt (by omega)
 show IntKind.u16.wrap ((BitVec.ofInt 16 a ^^^ BitVec.ofInt 16 b).toNat : Int) = _
 rw [BitVec.toNat_xor, h1, h2, IntKind.wrap_u16]
 omega
theorem xor_14 {a b : Int} (a0 : 0 ≤ a) (a1 : a < 65536) (b0 : 0 ≤ b) (b1 : b < 65536) : (Go.bits .and .u16 (Go.bits .xor .u16 a b) 16384 != 0) = (negB a != negB b) := by
 rw [u16_xor a0 a1 b0 b1]
 have hx : a.toNat ^^^ b.toNat < 2 ^ 16 := Nat.xor_lt_two_pow (by omega) (by omega)
 rw [and_16384 (by omega) (by omega)]
 have e := Nat.testBit_xor a.toNat b.toNat 14
 rw [Nat.testBit_eq_decide_div_mod_eq, Nat.testBit_eq_decide_div_mod_eq, Nat.testBit_eq_decide_div_mod_eq] at e
 generalize a.toNat ^^^ b.toNat = z at *
 have ea : decide (a.toNat / 2 ^ 14 % 2 = 1) = negB a := by unfold negB; congr 1; apply propext; omega
 have eb : decide (b.toNat / 2 ^ 14 % 2 = 1) = negB b := by unfold negB; congr 1; apply propext; omega
 rw [ea, eb] at e
 rw [show (negB a != negB b) = (negB a ^^ negB b) from rfl, ← e, Bool.eq_iff_iff]
 simp; omega
theorem mul_b (a b : Int) : -268435456 ≤ valI a * valI b ∧ valI a * valI b ≤ 268435456 := by
 have h1 := mul_abs a b
 have h2 : absI (valI a) * absI (valI b) ≤ 16384 * 16384 := Int.mul_le_mul (val_abs a) (val_abs b) (abs_b _) (by decide)
 rw [← h1] at h2
 unfold absI at h2
 split at h2 <;> omega
theorem mul_00 (a b : Int) (a0 : 0 ≤ a) (a1 : a < 65536) (b0 : 0 ≤ b) (b1 : b < 65536) (hm : ¬ ( valI a * valI b < 0)) (hd : (negB a != negB b) = false) (w : World) : Calls Tryz.prog 24 #[.int .u16 a, .int .u16 b] w fun e w' => e = .returned (.tuple #[.int .u16 (mulH a b), .int .u16 (mulL a b)]) ∧ Drawn0 w w' := by
 have hx := xor_14 a0 a1 b0 b1
 rw [hd] at hx
 have hb := mul_b a b
 have e1 : mulH a b = (valI a * valI b) / 16384 := by unfold mulH absI; rw [if_pos (by simpa using hd)]; rw [if_neg hm]
 have e2 : mulL a b = (valI a * valI b) % 16384 := by unfold mulL absI; rw [if_pos (by simpa using hd)]; rw [if_neg hm]
 rw [e1, e2]
 have VA := Lib.hid (value_c a a0 a1)
 have VB := Lib.hid (value_c b b0 b1)
 have NA := Lib.hid (fun w => neg_c ((valI a * valI b) / 16384) (by omega) (by omega) w)
 have NB := Lib.hid (fun w => neg_c ((valI a * valI b) % 16384) (by omega) (by omega) w)
 clear e1 e2 hd
 obtain ⟨m, hme⟩ : ∃ m, valI a * valI b = m := ⟨_, rfl⟩
 have hw : wrap64 (valI a * valI b) = m := by rw [hme] at hb ⊢; unfold wrap64; omega
 rw [hme] at hb hm NA NB ⊢
 have y0 : decide (m < 0) = false := by simpa using hm
 have w2 : wrap64 (-m) = -m := by unfold wrap64; omega
 have f1 : IntKind.u16.wrap (m / 16384) = m / 16384 := u16w (by omega) (by omega)
 have f2 : Go.bits .and .i64 (m) 16383 = m % 16384 := and_low 14 (by decide) (by omega) (by omega)
 have f3 : IntKind.u16.wrap (m % 16384) = m % 16384 := u16w (by omega) (by omega)
 have HD := Aside0.mk (Drawn0.refl w)
 clear hm hb hme
 go_enter Tryz.func24, Tryz.ntmps24
 go_wp2_with (first | (go_at_call 29; (with_reducible refine at_args #[.int .u16 a] ?_); (with_reducible refine (VA.out _).mono ?_); rintro e wc ⟨rfl, ⟨nd, rfl⟩⟩) | (go_at_call 29; (with_reducible refine at_args #[.int .u16 b] ?_); (with_reducible refine (VB.out _).mono ?_); rintro e wc ⟨rfl, ⟨nd, rfl⟩⟩) | (go_at_call 36; (with_reducible refine at_args #[.int .u16 (m / 16384)] ?_); (with_reducible refine (NA.out _).mono ?_); rintro e wc ⟨rfl, ⟨nd, rfl⟩⟩) | (go_at_call 36; (with_reducible refine at_args #[.int .u16 (m % 16384)] ?_); (with_reducible refine (NB.out _).mono ?_); rintro e wc ⟨rfl, ⟨nd, rfl⟩⟩))
 go_ret2
 exact ⟨rfl, by repeat (first | exact Drawn0.refl _ | apply Drawn0.step)⟩
theorem mul_01 (a b : Int) (a0 : 0 ≤ a) (a1 : a < 65536) (b0 : 0 ≤ b) (b1 : b < 65536) (hm : ¬ ( valI a * valI b < 0)) (hd : (negB a != negB b) = true) (w : World) : Calls Tryz.prog 24 #[.int .u16 a, .int .u16 b] w fun e w' => e = .returned (.tuple #[.int .u16 (mulH a b), .int .u16 (mulL a b)]) ∧ Drawn0 w w' := by
 have hx := xor_14 a0 a1 b0 b1
 rw [hd] at hx
 have hb := mul_b a b
 have e1 : mulH a b = negI ((valI a * valI b) / 16384) := by unfold mulH absI; rw [if_neg (by simpa using hd)]; rw [if_neg hm]
 have e2 : mulL a b = negI ((valI a * valI b) % 16384) := by unfold mulL absI; rw [if_neg (by simpa using hd)]; rw [if_neg hm]
 rw [e1, e2]
 have VA := Lib.hid (value_c a a0 a1)
 have VB := Lib.hid (value_c b b0 b1)
 have NA := Lib.hid (fun w => neg_c ((valI a * valI b) / 16384) (by omega) (by omega) w)
 have NB := Lib.hid (fun w => neg_c ((valI a * valI b) % 16384) (by omega) (by omega) w)
 clear e1 e2 hd
 obtain ⟨m, hme⟩ : ∃ m, valI a * valI b = m := ⟨_, rfl⟩
 have hw : wrap64 (valI a * valI b) = m := by rw [hme] at hb ⊢; unfold wrap64; omega
 rw [hme] at hb hm NA NB ⊢
 have y0 : decide (m < 0) = false := by simpa using hm
 have w2 : wrap64 (-m) = -m := by unfold wrap64; omega
 have f1 : IntKind.u16.wrap (m / 16384) = m / 16384 := u16w (by omega) (by omega)
 have f2 : Go.bits .and .i64 (m) 16383 = m % 16384 := and_low 14 (by decide) (by omega) (by omega)
 have f3 : IntKind.u16.wrap (m % 16384) = m % 16384 := u16w (by omega) (by omega)
 have HD := Aside0.mk (Drawn0.refl w)
 clear hm hb hme
 go_enter Tryz.func24, Tryz.ntmps24
 go_wp2_with (first | (go_at_call 29; (with_reducible refine at_args #[.int .u16 a] ?_); (with_reducible refine (VA.out _).mono ?_); rintro e wc ⟨rfl, ⟨nd, rfl⟩⟩) | (go_at_call 29; (with_reducible refine at_args #[.int .u16 b] ?_); (with_reducible refine (VB.out _).mono ?_); rintro e wc ⟨rfl, ⟨nd, rfl⟩⟩) | (go_at_call 36; (with_reducible refine at_args #[.int .u16 (m / 16384)] ?_); (with_reducible refine (NA.out _).mono ?_); rintro e wc ⟨rfl, ⟨nd, rfl⟩⟩) | (go_at_call 36; (with_reducible refine at_args #[.int .u16 (m % 16384)] ?_); (with_reducible refine (NB.out _).mono ?_); rintro e wc ⟨rfl, ⟨nd, rfl⟩⟩))
 go_ret2
 exact ⟨rfl, by repeat (first | exact Drawn0.refl _ | apply Drawn0.step)⟩
theorem mul_10 (a b : Int) (a0 : 0 ≤ a) (a1 : a < 65536) (b0 : 0 ≤ b) (b1 : b < 65536) (hm :  valI a * valI b < 0) (hd : (negB a != negB b) = false) (w : World) : Calls Tryz.prog 24 #[.int .u16 a, .int .u16 b] w fun e w' => e = .returned (.tuple #[.int .u16 (mulH a b), .int .u16 (mulL a b)]) ∧ Drawn0 w w' := by
 have hx := xor_14 a0 a1 b0 b1
 rw [hd] at hx
 have hb := mul_b a b
 have e1 : mulH a b = (-(valI a * valI b)) / 16384 := by unfold mulH absI; rw [if_pos (by simpa using hd)]; rw [if_pos hm]
 have e2 : mulL a b = (-(valI a * valI b)) % 16384 := by unfold mulL absI; rw [if_pos (by simpa using hd)]; rw [if_pos hm]
 rw [e1, e2]
 have VA := Lib.hid (value_c a a0 a1)
 have VB := Lib.hid (value_c b b0 b1)
 have NA := Lib.hid (fun w => neg_c ((-(valI a * valI b)) / 16384) (by omega) (by omega) w)
 have NB := Lib.hid (fun w => neg_c ((-(valI a * valI b)) % 16384) (by omega) (by omega) w)
 clear e1 e2 hd
 obtain ⟨m, hme⟩ : ∃ m, valI a * valI b = m := ⟨_, rfl⟩
 have hw : wrap64 (valI a * valI b) = m := by rw [hme] at hb ⊢; unfold wrap64; omega
 rw [hme] at hb hm NA NB ⊢
 have y0 : decide (m < 0) = true := by simpa using hm
 have w2 : wrap64 (-m) = -m := by unfold wrap64; omega
 have f1 : IntKind.u16.wrap ((-m) / 16384) = (-m) / 16384 := u16w (by omega) (by omega)
 have f2 : Go.bits .and .i64 ((-m)) 16383 = (-m) % 16384 := and_low 14 (by decide) (by omega) (by omega)
 have f3 : IntKind.u16.wrap ((-m) % 16384) = (-m) % 16384 := u16w (by omega) (by omega)
 have HD := Aside0.mk (Drawn0.refl w)
 clear hm hb hme
 go_enter Tryz.func24, Tryz.ntmps24
 go_wp2_with (first | (go_at_call 29; (with_reducible refine at_args #[.int .u16 a] ?_); (with_reducible refine (VA.out _).mono ?_); rintro e wc ⟨rfl, ⟨nd, rfl⟩⟩) | (go_at_call 29; (with_reducible refine at_args #[.int .u16 b] ?_); (with_reducible refine (VB.out _).mono ?_); rintro e wc ⟨rfl, ⟨nd, rfl⟩⟩) | (go_at_call 36; (with_reducible refine at_args #[.int .u16 ((-m) / 16384)] ?_); (with_reducible refine (NA.out _).mono ?_); rintro e wc ⟨rfl, ⟨nd, rfl⟩⟩) | (go_at_call 36; (with_reducible refine at_args #[.int .u16 ((-m) % 16384)] ?_); (with_reducible refine (NB.out _).mono ?_); rintro e wc ⟨rfl, ⟨nd, rfl⟩⟩))
 go_ret2
 exact ⟨rfl, by repeat (first | exact Drawn0.refl _ | apply Drawn0.step)⟩
theorem mul_11 (a b : Int) (a0 : 0 ≤ a) (a1 : a < 65536) (b0 : 0 ≤ b) (b1 : b < 65536) (hm :  valI a * valI b < 0) (hd : (negB a != negB b) = true) (w : World) : Calls Tryz.prog 24 #[.int .u16 a, .int .u16 b] w fun e w' => e = .returned (.tuple #[.int .u16 (mulH a b), .int .u16 (mulL a b)]) ∧ Drawn0 w w' := by
 have hx := xor_14 a0 a1 b0 b1
 rw [hd] at hx
 have hb := mul_b a b
 have e1 : mulH a b = negI ((-(valI a * valI b)) / 16384) := by unfold mulH absI; rw [if_neg (by simpa using hd)]; rw [if_pos hm]
 have e2 : mulL a b = negI ((-(valI a * valI b)) % 16384) := by unfold mulL absI; rw [if_neg (by simpa using hd)]; rw [if_pos hm]
 rw [e1, e2]
 have VA := Lib.hid (value_c a a0 a1)
 have VB := Lib.hid (value_c b b0 b1)
 have NA := Lib.hid (fun w => neg_c ((-(valI a * valI b)) / 16384) (by omega) (by omega) w)
 have NB := Lib.hid (fun w => neg_c ((-(valI a * valI b)) % 16384) (by omega) (by omega) w)
 clear e1 e2 hd
 obtain ⟨m, hme⟩ : ∃ m, valI a * valI b = m := ⟨_, rfl⟩
 have hw : wrap64 (valI a * valI b) = m := by rw [hme] at hb ⊢; unfold wrap64; omega
 rw [hme] at hb hm NA NB ⊢
 have y0 : decide (m < 0) = true := by simpa using hm
 have w2 : wrap64 (-m) = -m := by unfold wrap64; omega
 have f1 : IntKind.u16.wrap ((-m) / 16384) = (-m) / 16384 := u16w (by omega) (by omega)
 have f2 : Go.bits .and .i64 ((-m)) 16383 = (-m) % 16384 := and_low 14 (by decide) (by omega) (by omega)
 have f3 : IntKind.u16.wrap ((-m) % 16384) = (-m) % 16384 := u16w (by omega) (by omega)
 have HD := Aside0.mk (Drawn0.refl w)
 clear hm hb hme
 go_enter Tryz.func24, Tryz.ntmps24
 go_wp2_with (first | (go_at_call 29; (with_reducible refine at_args #[.int .u16 a] ?_); (with_reducible refine (VA.out _).mono ?_); rintro e wc ⟨rfl, ⟨nd, rfl⟩⟩) | (go_at_call 29; (with_reducible refine at_args #[.int .u16 b] ?_); (with_reducible refine (VB.out _).mono ?_); rintro e wc ⟨rfl, ⟨nd, rfl⟩⟩) | (go_at_call 36; (with_reducible refine at_args #[.int .u16 ((-m) / 16384)] ?_); (with_reducible refine (NA.out _).mono ?_); rintro e wc ⟨rfl, ⟨nd, rfl⟩⟩) | (go_at_call 36; (with_reducible refine at_args #[.int .u16 ((-m) % 16384)] ?_); (with_reducible refine (NB.out _).mono ?_); rintro e wc ⟨rfl, ⟨nd, rfl⟩⟩))
 go_ret2
 exact ⟨rfl, by repeat (first | exact Drawn0.refl _ | apply Drawn0.step)⟩
theorem mult_c (a b : Int) (a0 : 0 ≤ a) (a1 : a < 65536) (b0 : 0 ≤ b) (b1 : b < 65536) (w : World) : Calls Tryz.prog 24 #[.int .u16 a, .int .u16 b] w fun e w' => e = .returned (.tuple #[.int .u16 (mulH a b), .int .u16 (mulL a b)]) ∧ Drawn0 w w' := by
 cases hd : (negB a != negB b) <;> by_cases hm : valI a * valI b < 0
 · exact mul_10 a b a0 a1 b0 b1 hm hd w
 · exact mul_00 a b a0 a1 b0 b1 hm hd w
 · exact mul_11 a b a0 a1 b0 b1 hm hd w
 · exact mul_01 a b a0 a1 b0 b1 hm hd w
end
end Go.Proofs.YthfobpkdloejfaaGreat.Cpu
end
section
namespace Go.Proofs.YthfobpkdloejfaaGreat.Cpu
open Go.RowKit Go.Proofs.YthfobpkdloejfaaGreat.PAll Go.Proofs.YthfobpkdloejfaaGreat.One Go.Proofs.YthfobpkdloejfaaGreat.Mem Go.Proofs.YthfobpkdloejfaaGreat.Row Go.Proofs.YthfobpkdloejfaaGreatW.PrintWords Go.Proofs.YthfobpkdloejfaaGreatW.PrintLast Go.Proofs.YthfobpkdloejfaaGreatW.PrintMore Go.Proofs.YthfobpkdloejfaaGreat.Plain
section
variable {c : Cx} {n : Nat} {st : St} {w : World}
def dQ (A M : Int) (lt : Bool) : Int := if lt = true then A / M else 16383
def dR (A M lo : Int) (lt mi : Bool) : Int := if lt = true then (if mi = true then negI (A % M) else A % M) else lo % 32768
theorem div_w (hi lo d : Int) (a0 : 0 ≤ hi) (a1 : hi < 65536) (b0 : 0 ≤ lo) (b1 : lo < 65536) (d0 : 0 ≤ d) (d1 : d < 65536) (z nn mm lt mi ag : Bool)
 (nv A M : Int) (hz : (valI hi == 0) = z) (hnv : 16384 * valI hi + valI lo = nv) (hnn : decide (nv < 0) = nn) (hmm : decide (valI d < 0) = mm)
 (hA : (if nn = true then -nv else nv) = A) (hM : (if mm = true then -(valI d) else valI d) = M) (hlt : decide (A < M * 16384) = lt)
 (hmi : (Go.bits .and .u16 (if z = true then lo else hi) 16384 != 0) = mi) (hag : (Go.bits .and .u16 (Go.bits .xor .u16 (if z = true then lo else hi) d) 16384 != 0) = ag) (w : World) :
 Calls Tryz.prog 26 #[.int .u16 hi, .int .u16 lo, .int .u16 d] w fun e w' => e = .returned (.tuple #[.int .u16 (if ag = true then negI (dQ A M lt) else dQ A M lt), .int .u16 (dR A M lo lt mi)]) ∧ Drawn0 w w' := by
 have vh := val_b hi
 have vl := val_b lo
 have vd := val_b d
 have hA0 : 0 ≤ A ∧ A ≤ 268451840 := by subst hA; cases nn <;> simp at hnn ⊢ <;> omega
 have hM0 : 0 ≤ M ∧ M ≤ 16384 := by subst hM; cases mm <;> simp at hmm ⊢ <;> omega
 have VA := Lib.hid (value_c hi a0 a1)
 have VB := Lib.hid (value_c lo b0 b1)
 have VD := Lib.hid (value_c d d0 d1)
 have w1 : wrap64 (valI hi * 16384) = valI hi * 16384 := by unfold wrap64; omega
 have w1b : IntKind.i64.wrap (valI hi * 16384) = valI hi * 16384 := by first | exact w1 | (rw [IntKind.wrap_i64]; omega)
 have w2 : wrap64 (valI hi * 16384 + valI lo) = nv := by unfold wrap64; omega
 have w3 : wrap64 (-nv) = -nv := by unfold wrap64; omega
 have w4 : wrap64 (-(valI d)) = -(valI d) := by unfold wrap64; omega
 have w5 : wrap64 (M * 16384) = M * 16384 := by unfold wrap64; omega
 have f0 : Go.bits .and .u16 lo 32767 = lo % 32768 := and_32767 b0 b1
 have hq : lt = true → 0 < M ∧ 0 ≤ A / M ∧ A / M < 16384 ∧ 0 ≤ A % M ∧ A % M < 16384 := by
  intro h; rw [h] at hlt; simp at hlt
  have hp : 0 < M := by omega
  refine ⟨hp, Int.ediv_nonneg hA0.1 hM0.1, Int.ediv_lt_of_lt_mul hp (by omega), Int.emod_nonneg _ (by omega), ?_⟩
  have := Int.emod_lt_of_pos A hp
  omega
 have bQ : 0 ≤ dQ A M lt ∧ dQ A M lt < 65536 := by unfold dQ; split; (next h => have := hq h; omega); omega
 have bR : 0 ≤ (if lt = true then A % M else lo % 32768) ∧ (if lt = true then A % M else lo % 32768) < 65536 := by split; (next h => have := hq h; omega); omega
 have NQ : ∀ w, Calls Tryz.prog 36 #[.int .u16 (dQ A M lt)] w fun e w' => e = .returned (.int .u16 (negI (dQ A M lt))) ∧ Drawn0 w w' := fun w => neg_c _ bQ.1 bQ.2 w
 have NR : ∀ w, Calls Tryz.prog 36 #[.int .u16 (if lt = true then A % M else lo % 32768)] w fun e w' => e = .returned (.int .u16 (negI (if lt = true then A % M else lo % 32768))) ∧ Drawn0 w w' := fun w => neg_c _ bR.1 bR.2 w
 have q1 : lt = true → wrap64 (Int.tdiv A M) = A / M ∧ IntKind.u16.wrap (A / M) = A / M ∧ Int.tmod A M = A % M ∧ IntKind.u16.wrap (A % M) = A % M ∧ M ≠ 0 := by
  intro h
  have := hq h
  have e1 : Int.tdiv A M = A / M := Int.tdiv_eq_ediv_of_nonneg hA0.1
  have e2 : Int.tmod A M = A % M := Int.tmod_eq_emod_of_nonneg hA0.1
  rw [e1, e2]
  exact ⟨by unfold wrap64; omega, u16w (by omega) (by omega), rfl, u16w (by omega) (by omega), by omega⟩
 clear hq hA0 hM0 bQ bR vh vl vd hnv
 cases z <;> cases nn <;> cases mm <;> cases lt <;> cases mi <;> cases ag
 all_goals
  simp only [Bool.false_eq_true, if_false, if_true, dQ, dR] at hA hM hmi hag NQ NR ⊢
  first | (replace w3 : wrap64 (-nv) = A := w3.trans hA; clear hA) | subst hA
  first | (replace w4 : wrap64 (-(valI d)) = M := w4.trans hM; clear hM) | subst hM
  replace NQ := Lib.hid NQ
  replace NR := Lib.hid NR
  try (obtain ⟨q2, q3, q4, q5, q6⟩ := q1 rfl)
  try clear q1
  go_enter Tryz.func26, Tryz.ntmps26
  first | go_upto_region 12 with (first | (go_at_call 29; (with_reducible refine at_args #[.int .u16 hi] ?_); (with_reducible refine (VA.out _).mono ?_); rintro e wc ⟨rfl, ⟨nd, rfl⟩⟩) | (go_at_call 29; (with_reducible refine at_args #[.int .u16 lo] ?_); (with_reducible refine (VB.out _).mono ?_); rintro e wc ⟨rfl, ⟨nd, rfl⟩⟩) | (go_at_call 29; (with_reducible refine at_args #[.int .u16 d] ?_); (with_reducible refine (VD.out _).mono ?_); rintro e wc ⟨rfl, ⟨nd, rfl⟩⟩) | (go_at_call 36; (with_reducible refine (NQ.out _).mono ?_); rintro e wc ⟨rfl, ⟨nd, rfl⟩⟩) | (go_at_call 36; (with_reducible refine (NR.out _).mono ?_); rintro e wc ⟨rfl, ⟨nd, rfl⟩⟩)) | skip
  first | (go_quiet (fail)) | skip
  go_wp2_with (first | (go_at_call 29; (with_reducible refine at_args #[.int .u16 hi] ?_); (with_reducible refine (VA.out _).mono ?_); rintro e wc ⟨rfl, ⟨nd, rfl⟩⟩) | (go_at_call 29; (with_reducible refine at_args #[.int .u16 lo] ?_); (with_reducible refine (VB.out _).mono ?_); rintro e wc ⟨rfl, ⟨nd, rfl⟩⟩) | (go_at_call 29; (with_reducible refine at_args #[.int .u16 d] ?_); (with_reducible refine (VD.out _).mono ?_); rintro e wc ⟨rfl, ⟨nd, rfl⟩⟩) | (go_at_call 36; (with_reducible refine (NQ.out _).mono ?_); rintro e wc ⟨rfl, ⟨nd, rfl⟩⟩) | (go_at_call 36; (with_reducible refine (NR.out _).mono ?_); rintro e wc ⟨rfl, ⟨nd, rfl⟩⟩))
  go_ret2
  exact ⟨rfl, by repeat (first | exact Drawn0.refl _ | apply Drawn0.step)⟩
end
end Go.Proofs.YthfobpkdloejfaaGreat.Cpu
end
section
namespace Go.Proofs.YthfobpkdloejfaaGreat.Cpu
open Go.RowKit Go.Proofs.YthfobpkdloejfaaGreat.PAll Go.Proofs.YthfobpkdloejfaaGreat.One Go.Proofs.YthfobpkdloejfaaGreat.Mem Go.Proofs.YthfobpkdloejfaaGreat.Row Go.Proofs.YthfobpkdloejfaaGreatW.PrintWords Go.Proofs.YthfobpkdloejfaaGreatW.PrintLast Go.Proofs.YthfobpkdloejfaaGreatW.PrintMore Go.Proofs.YthfobpkdloejfaaGreat.Plain
section
variable {c : Cx} {n : Nat} {st : St} {w : World}
theorem and_14 {a : Int} (a0 : 0 ≤ a) (a1 : a < 65536) : (Go.bits .and .u16 a 16384 != 0) = negB a := by
 rw [and_16384 a0 a1]; unfold negB; rw [Bool.eq_iff_iff]; simp; omega
theorem div_c (hi lo d : Int) (a0 : 0 ≤ hi) (a1 : hi < 65536) (b0 : 0 ≤ lo) (b1 : lo < 65536) (d0 : 0 ≤ d) (d1 : d < 65536) (w : World) :
 Calls Tryz.prog 26 #[.int .u16 hi, .int .u16 lo, .int .u16 d] w fun e w' => e = .returned (.tuple #[.int .u16 (divQ hi lo d), .int .u16 (divR hi lo d)]) ∧ Drawn0 w w' := by
 have hL : negB (if (valI hi == 0) = true then lo else hi) = divM hi lo := by unfold divM; by_cases h : valI hi = 0 <;> simp [h]
 have l0 : 0 ≤ (if (valI hi == 0) = true then lo else hi) := by split <;> assumption
 have l1 : (if (valI hi == 0) = true then lo else hi) < 65536 := by split <;> assumption
 have h := div_w hi lo d a0 a1 b0 b1 d0 d1 (valI hi == 0) (decide (16384 * valI hi + valI lo < 0)) (decide (valI d < 0)) (decide (absI (16384 * valI hi + valI lo) < absI (valI d) * 16384)) (divM hi lo) (divM hi lo != negB d) (16384 * valI hi + valI lo) (absI (16384 * valI hi + valI lo)) (absI (valI d)) rfl rfl rfl rfl (by unfold absI; simp) (by unfold absI; simp) rfl ((and_14 l0 l1).trans hL) (by rw [xor_14 l0 l1 d0 d1, hL]) w
 have e1 : (if (divM hi lo != negB d) = true then negI (dQ (absI (16384 * valI hi + valI lo)) (absI (valI d)) (decide (absI (16384 * valI hi + valI lo) < absI (valI d) * 16384))) else dQ (absI (16384 * valI hi + valI lo)) (absI (valI d)) (decide (absI (16384 * valI hi + valI lo) < absI (valI d) * 16384))) = divQ hi lo d := by
  unfold divQ dQ
  rw [Int.mul_comm 16384 (absI (valI d))]
  by_cases g : divM hi lo = negB d
  · simp [g]
  · simp [g]
 have e2 : dR (absI (16384 * valI hi + valI lo)) (absI (valI d)) lo (decide (absI (16384 * valI hi + valI lo) < absI (valI d) * 16384)) (divM hi lo) = divR hi lo d := by
  unfold divR dR
  rw [Int.mul_comm 16384 (absI (valI d))]
  simp
 rw [e1, e2] at h
 exact h
end
end Go.Proofs.YthfobpkdloejfaaGreat.Cpu
end
