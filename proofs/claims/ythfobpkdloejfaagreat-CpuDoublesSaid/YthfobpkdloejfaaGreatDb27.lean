/- Chapter 5: a part of its proof (cut by program out of CpuL, CpuL2, CpuL3, CpuL4); no condition. -/
import Derived.BigQuiet
import Derived.Deep.QuietTactic
import Derived.Test.YthfobpkdloejfaaGreatDb26
section
namespace Go.Proofs.YthfobpkdloejfaaGreat.Cpu
open Go.RowKit Go.Proofs.YthfobpkdloejfaaGreat.PAll Go.Proofs.YthfobpkdloejfaaGreat.One Go.Proofs.YthfobpkdloejfaaGreat.Mem Go.Proofs.YthfobpkdloejfaaGreat.Row Go.Proofs.YthfobpkdloejfaaGreatW.PrintWords Go.Proofs.YthfobpkdloejfaaGreatW.PrintLast Go.Proofs.YthfobpkdloejfaaGreatW.PrintMore Go.Proofs.YthfobpkdloejfaaGreat.Plain
set_option linter.unusedVariables false
set_option linter.unusedSimpArgs false
set_option linter.unusedSectionVars false
section
variable {c : Cx} {n : Nat} {st : St} {w : World}
theorem u16_xor {a b : Int} (a0 : 0 ≤ a) (a1 : a < 65536) (b0 : 0 ≤ b) (b1 : b < 65536) : Go.bits .xor .u16 a b = ((a.toNat ^^^ b.toNat : Nat) : Int) := by
  have hx : a.toNat ^^^ b.toNat < 2 ^ 16 := Nat.xor_lt_two_pow (by omega) (by omega)
  have h1 : (BitVec.ofInt 16 a).toNat = a.toNat := by
    rw [show a = ((a.toNat : Nat) : Int) by omega, BitVec.ofInt_natCast, BitVec.toNat_ofNat]; exact Nat.mod_eq_of_lt (by omega)
  have h2 : (BitVec.ofInt 16 b).toNat = b.toNat := by
    rw [show b = ((b.toNat : Nat) : Int) by omega, BitVec.ofInt_natCast, BitVec.toNat_ofNat]; exact Nat.mod_eq_of_lt (by omega)
  show IntKind.u16.wrap ((BitVec.ofInt 16 a ^^^ BitVec.ofInt 16 b).toNat : Int) = _
  rw [BitVec.toNat_xor, h1, h2, IntKind.wrap_u16]
  omega
theorem nat_xor_ones {k y : Nat} (h : y < 2 ^ k) : y ^^^ (2 ^ k - 1) = 2 ^ k - 1 - y := by
  have e := congrArg BitVec.toNat (BitVec.xor_allOnes (x := BitVec.ofNat k y))
  rw [BitVec.toNat_xor, BitVec.toNat_allOnes, BitVec.toNat_not, BitVec.toNat_ofNat, Nat.mod_eq_of_lt h] at e
  exact e
theorem xor_zero {a : Int} (a0 : 0 ≤ a) (a1 : a < 65536) : Go.bits .xor .u16 a 0 = a := by
  rw [u16_xor a0 a1 (by decide) (by decide)]; show ((a.toNat ^^^ 0 : Nat) : Int) = a; rw [Nat.xor_zero]; omega
theorem xor_ff {a : Int} (a0 : 0 ≤ a) (a1 : a < 65536) : Go.bits .xor .u16 a 65535 = negAccI a := by
  rw [u16_xor a0 a1 (by decide) (by decide)]
  have e := nat_xor_ones (k := 16) (y := a.toNat) (by omega)
  show ((a.toNat ^^^ 65535 : Nat) : Int) = negAccI a
  rw [show (65535 : Nat) = 2 ^ 16 - 1 by decide, e]; unfold negAccI; omega
theorem xor_7f {a : Int} (a0 : 0 ≤ a) (a1 : a ≤ 32767) : Go.bits .xor .u16 a 32767 = negI a := by
  rw [u16_xor a0 (by omega) (by decide) (by decide)]
  have e := nat_xor_ones (k := 15) (y := a.toNat) (by omega)
  show ((a.toNat ^^^ 32767 : Nat) : Int) = negI a
  rw [show (32767 : Nat) = 2 ^ 15 - 1 by decide, e]; unfold negI; omega
theorem xor_14 {a b : Int} (a0 : 0 ≤ a) (a1 : a < 65536) (b0 : 0 ≤ b) (b1 : b < 65536) : (Go.bits .and .u16 (Go.bits .xor .u16 a b) 16384 != 0) = (negB a != negB b) := by
  rw [u16_xor a0 a1 b0 b1]
  have hx : a.toNat ^^^ b.toNat < 2 ^ 16 := Nat.xor_lt_two_pow (by omega) (by omega)
  rw [and_16384 (by omega) (by omega)]
  have e := Nat.testBit_xor a.toNat b.toNat 14
  rw [Nat.testBit_eq_decide_div_mod_eq, Nat.testBit_eq_decide_div_mod_eq, Nat.testBit_eq_decide_div_mod_eq] at e
  generalize a.toNat ^^^ b.toNat = z at *
  have ea : decide (a.toNat / 2 ^ 14 % 2 = 1) = negB a := by unfold negB; congr 1; apply propext; omega
  have eb : decide (b.toNat / 2 ^ 14 % 2 = 1) = negB b := by unfold negB; congr 1; apply propext; omega
  rw [ea, eb] at e
  rw [show (negB a != negB b) = (negB a ^^ negB b) from rfl, ← e, Bool.eq_iff_iff]
  simp; omega
theorem mul_b (a b : Int) : -268435456 ≤ valI a * valI b ∧ valI a * valI b ≤ 268435456 := by
  have h1 := mul_abs a b
  have h2 : absI (valI a) * absI (valI b) ≤ 16384 * 16384 := Int.mul_le_mul (val_abs a) (val_abs b) (abs_b _) (by decide)
  rw [← h1] at h2
  unfold absI at h2
  split at h2 <;> omega
set_option maxRecDepth 100000 in
set_option maxHeartbeats 4000000 in
theorem mul_00 (a b : Int) (a0 : 0 ≤ a) (a1 : a < 65536) (b0 : 0 ≤ b) (b1 : b < 65536) (hm : ¬ ( valI a * valI b < 0)) (hd : (negB a != negB b) = false) (w : World) : Calls Tryz.prog 24 #[.int .u16 a, .int .u16 b] w fun e w' => e = .returned (.tuple #[.int .u16 (mulH a b), .int .u16 (mulL a b)]) ∧ Drawn0 w w' := by
  have hx := xor_14 a0 a1 b0 b1
  rw [hd] at hx
  have hb := mul_b a b
  have e1 : mulH a b = (valI a * valI b) / 16384 := by unfold mulH absI; rw [if_pos (by simpa using hd)]; rw [if_neg hm]
  have e2 : mulL a b = (valI a * valI b) % 16384 := by unfold mulL absI; rw [if_pos (by simpa using hd)]; rw [if_neg hm]
  rw [e1, e2]
  have VA := Lib.hid (value_c a a0 a1)
  have VB := Lib.hid (value_c b b0 b1)
  have NA := Lib.hid (fun w => neg_c ((valI a * valI b) / 16384) (by omega) (by omega) w)
  have NB := Lib.hid (fun w => neg_c ((valI a * valI b) % 16384) (by omega) (by omega) w)
  clear e1 e2 hd
  obtain ⟨m, hme⟩ : ∃ m, valI a * valI b = m := ⟨_, rfl⟩
  have hw : wrap64 (valI a * valI b) = m := by rw [hme] at hb ⊢; unfold wrap64; omega
  rw [hme] at hb hm NA NB ⊢
  have y0 : decide (m < 0) = false := by simpa using hm
  have w2 : wrap64 (-m) = -m := by unfold wrap64; omega
  have f1 : IntKind.u16.wrap (m / 16384) = m / 16384 := u16w (by omega) (by omega)
  have f2 : Go.bits .and .i64 (m) 16383 = m % 16384 := and_low 14 (by decide) (by omega) (by omega)
  have f3 : IntKind.u16.wrap (m % 16384) = m % 16384 := u16w (by omega) (by omega)
  have HD := Aside0.mk (Drawn0.refl w)
  clear hm hb hme
  go_enter Tryz.func24, Tryz.ntmps24
  go_wp2_with (first | (go_at_call 29; (with_reducible refine at_args #[.int .u16 a] ?_); (with_reducible refine (VA.out _).mono ?_); rintro e wc ⟨rfl, ⟨nd, rfl⟩⟩) | (go_at_call 29; (with_reducible refine at_args #[.int .u16 b] ?_); (with_reducible refine (VB.out _).mono ?_); rintro e wc ⟨rfl, ⟨nd, rfl⟩⟩) | (go_at_call 36; (with_reducible refine at_args #[.int .u16 (m / 16384)] ?_); (with_reducible refine (NA.out _).mono ?_); rintro e wc ⟨rfl, ⟨nd, rfl⟩⟩) | (go_at_call 36; (with_reducible refine at_args #[.int .u16 (m % 16384)] ?_); (with_reducible refine (NB.out _).mono ?_); rintro e wc ⟨rfl, ⟨nd, rfl⟩⟩))
  go_ret2
  exact ⟨rfl, by repeat (first | exact Drawn0.refl _ | apply Drawn0.step)⟩
set_option maxRecDepth 100000 in
set_option maxHeartbeats 4000000 in
theorem mul_01 (a b : Int) (a0 : 0 ≤ a) (a1 : a < 65536) (b0 : 0 ≤ b) (b1 : b < 65536) (hm : ¬ ( valI a * valI b < 0)) (hd : (negB a != negB b) = true) (w : World) : Calls Tryz.prog 24 #[.int .u16 a, .int .u16 b] w fun e w' => e = .returned (.tuple #[.int .u16 (mulH a b), .int .u16 (mulL a b)]) ∧ Drawn0 w w' := by
  have hx := xor_14 a0 a1 b0 b1
  rw [hd] at hx
  have hb := mul_b a b
  have e1 : mulH a b = negI ((valI a * valI b) / 16384) := by unfold mulH absI; rw [if_neg (by simpa using hd)]; rw [if_neg hm]
  have e2 : mulL a b = negI ((valI a * valI b) % 16384) := by unfold mulL absI; rw [if_neg (by simpa using hd)]; rw [if_neg hm]
  rw [e1, e2]
  have VA := Lib.hid (value_c a a0 a1)
  have VB := Lib.hid (value_c b b0 b1)
  have NA := Lib.hid (fun w => neg_c ((valI a * valI b) / 16384) (by omega) (by omega) w)
  have NB := Lib.hid (fun w => neg_c ((valI a * valI b) % 16384) (by omega) (by omega) w)
  clear e1 e2 hd
  obtain ⟨m, hme⟩ : ∃ m, valI a * valI b = m := ⟨_, rfl⟩
  have hw : wrap64 (valI a * valI b) = m := by rw [hme] at hb ⊢; unfold wrap64; omega
  rw [hme] at hb hm NA NB ⊢
  have y0 : decide (m < 0) = false := by simpa using hm
  have w2 : wrap64 (-m) = -m := by unfold wrap64; omega
  have f1 : IntKind.u16.wrap (m / 16384) = m / 16384 := u16w (by omega) (by omega)
  have f2 : Go.bits .and .i64 (m) 16383 = m % 16384 := and_low 14 (by decide) (by omega) (by omega)
  have f3 : IntKind.u16.wrap (m % 16384) = m % 16384 := u16w (by omega) (by omega)
  have HD := Aside0.mk (Drawn0.refl w)
  clear hm hb hme
  go_enter Tryz.func24, Tryz.ntmps24
  go_wp2_with (first | (go_at_call 29; (with_reducible refine at_args #[.int .u16 a] ?_); (with_reducible refine (VA.out _).mono ?_); rintro e wc ⟨rfl, ⟨nd, rfl⟩⟩) | (go_at_call 29; (with_reducible refine at_args #[.int .u16 b] ?_); (with_reducible refine (VB.out _).mono ?_); rintro e wc ⟨rfl, ⟨nd, rfl⟩⟩) | (go_at_call 36; (with_reducible refine at_args #[.int .u16 (m / 16384)] ?_); (with_reducible refine (NA.out _).mono ?_); rintro e wc ⟨rfl, ⟨nd, rfl⟩⟩) | (go_at_call 36; (with_reducible refine at_args #[.int .u16 (m % 16384)] ?_); (with_reducible refine (NB.out _).mono ?_); rintro e wc ⟨rfl, ⟨nd, rfl⟩⟩))
  go_ret2
  exact ⟨rfl, by repeat (first | exact Drawn0.refl _ | apply Drawn0.step)⟩
set_option maxRecDepth 100000 in
set_option maxHeartbeats 4000000 in
theorem mul_10 (a b : Int) (a0 : 0 ≤ a) (a1 : a < 65536) (b0 : 0 ≤ b) (b1 : b < 65536) (hm :  valI a * valI b < 0) (hd : (negB a != negB b) = false) (w : World) : Calls Tryz.prog 24 #[.int .u16 a, .int .u16 b] w fun e w' => e = .returned (.tuple #[.int .u16 (mulH a b), .int .u16 (mulL a b)]) ∧ Drawn0 w w' := by
  have hx := xor_14 a0 a1 b0 b1
  rw [hd] at hx
  have hb := mul_b a b
  have e1 : mulH a b = (-(valI a * valI b)) / 16384 := by unfold mulH absI; rw [if_pos (by simpa using hd)]; rw [if_pos hm]
  have e2 : mulL a b = (-(valI a * valI b)) % 16384 := by unfold mulL absI; rw [if_pos (by simpa using hd)]; rw [if_pos hm]
  rw [e1, e2]
  have VA := Lib.hid (value_c a a0 a1)
  have VB := Lib.hid (value_c b b0 b1)
  have NA := Lib.hid (fun w => neg_c ((-(valI a * valI b)) / 16384) (by omega) (by omega) w)
  have NB := Lib.hid (fun w => neg_c ((-(valI a * valI b)) % 16384) (by omega) (by omega) w)
  clear e1 e2 hd
  obtain ⟨m, hme⟩ : ∃ m, valI a * valI b = m := ⟨_, rfl⟩
  have hw : wrap64 (valI a * valI b) = m := by rw [hme] at hb ⊢; unfold wrap64; omega
  rw [hme] at hb hm NA NB ⊢
  have y0 : decide (m < 0) = true := by simpa using hm
  have w2 : wrap64 (-m) = -m := by unfold wrap64; omega
  have f1 : IntKind.u16.wrap ((-m) / 16384) = (-m) / 16384 := u16w (by omega) (by omega)
  have f2 : Go.bits .and .i64 ((-m)) 16383 = (-m) % 16384 := and_low 14 (by decide) (by omega) (by omega)
  have f3 : IntKind.u16.wrap ((-m) % 16384) = (-m) % 16384 := u16w (by omega) (by omega)
  have HD := Aside0.mk (Drawn0.refl w)
  clear hm hb hme
  go_enter Tryz.func24, Tryz.ntmps24
  go_wp2_with (first | (go_at_call 29; (with_reducible refine at_args #[.int .u16 a] ?_); (with_reducible refine (VA.out _).mono ?_); rintro e wc ⟨rfl, ⟨nd, rfl⟩⟩) | (go_at_call 29; (with_reducible refine at_args #[.int .u16 b] ?_); (with_reducible refine (VB.out _).mono ?_); rintro e wc ⟨rfl, ⟨nd, rfl⟩⟩) | (go_at_call 36; (with_reducible refine at_args #[.int .u16 ((-m) / 16384)] ?_); (with_reducible refine (NA.out _).mono ?_); rintro e wc ⟨rfl, ⟨nd, rfl⟩⟩) | (go_at_call 36; (with_reducible refine at_args #[.int .u16 ((-m) % 16384)] ?_); (with_reducible refine (NB.out _).mono ?_); rintro e wc ⟨rfl, ⟨nd, rfl⟩⟩))
  go_ret2
  exact ⟨rfl, by repeat (first | exact Drawn0.refl _ | apply Drawn0.step)⟩
set_option maxRecDepth 100000 in
set_option maxHeartbeats 4000000 in
theorem mul_11 (a b : Int) (a0 : 0 ≤ a) (a1 : a < 65536) (b0 : 0 ≤ b) (b1 : b < 65536) (hm :  valI a * valI b < 0) (hd : (negB a != negB b) = true) (w : World) : Calls Tryz.prog 24 #[.int .u16 a, .int .u16 b] w fun e w' => e = .returned (.tuple #[.int .u16 (mulH a b), .int .u16 (mulL a b)]) ∧ Drawn0 w w' := by
  have hx := xor_14 a0 a1 b0 b1
  rw [hd] at hx
  have hb := mul_b a b
  have e1 : mulH a b = negI ((-(valI a * valI b)) / 16384) := by unfold mulH absI; rw [if_neg (by simpa using hd)]; rw [if_pos hm]
  have e2 : mulL a b = negI ((-(valI a * valI b)) % 16384) := by unfold mulL absI; rw [if_neg (by simpa using hd)]; rw [if_pos hm]
  rw [e1, e2]
  have VA := Lib.hid (value_c a a0 a1)
  have VB := Lib.hid (value_c b b0 b1)
  have NA := Lib.hid (fun w => neg_c ((-(valI a * valI b)) / 16384) (by omega) (by omega) w)
  have NB := Lib.hid (fun w => neg_c ((-(valI a * valI b)) % 16384) (by omega) (by omega) w)
  clear e1 e2 hd
  obtain ⟨m, hme⟩ : ∃ m, valI a * valI b = m := ⟨_, rfl⟩
  have hw : wrap64 (valI a * valI b) = m := by rw [hme] at hb ⊢; unfold wrap64; omega
  rw [hme] at hb hm NA NB ⊢
  have y0 : decide (m < 0) = true := by simpa using hm
  have w2 : wrap64 (-m) = -m := by unfold wrap64; omega
  have f1 : IntKind.u16.wrap ((-m) / 16384) = (-m) / 16384 := u16w (by omega) (by omega)
  have f2 : Go.bits .and .i64 ((-m)) 16383 = (-m) % 16384 := and_low 14 (by decide) (by omega) (by omega)
  have f3 : IntKind.u16.wrap ((-m) % 16384) = (-m) % 16384 := u16w (by omega) (by omega)
  have HD := Aside0.mk (Drawn0.refl w)
  clear hm hb hme
  go_enter Tryz.func24, Tryz.ntmps24
  go_wp2_with (first | (go_at_call 29; (with_reducible refine at_args #[.int .u16 a] ?_); (with_reducible refine (VA.out _).mono ?_); rintro e wc ⟨rfl, ⟨nd, rfl⟩⟩) | (go_at_call 29; (with_reducible refine at_args #[.int .u16 b] ?_); (with_reducible refine (VB.out _).mono ?_); rintro e wc ⟨rfl, ⟨nd, rfl⟩⟩) | (go_at_call 36; (with_reducible refine at_args #[.int .u16 ((-m) / 16384)] ?_); (with_reducible refine (NA.out _).mono ?_); rintro e wc ⟨rfl, ⟨nd, rfl⟩⟩) | (go_at_call 36; (with_reducible refine at_args #[.int .u16 ((-m) % 16384)] ?_); (with_reducible refine (NB.out _).mono ?_); rintro e wc ⟨rfl, ⟨nd, rfl⟩⟩))
  go_ret2
  exact ⟨rfl, by repeat (first | exact Drawn0.refl _ | apply Drawn0.step)⟩
theorem mult_c (a b : Int) (a0 : 0 ≤ a) (a1 : a < 65536) (b0 : 0 ≤ b) (b1 : b < 65536) (w : World) : Calls Tryz.prog 24 #[.int .u16 a, .int .u16 b] w fun e w' => e = .returned (.tuple #[.int .u16 (mulH a b), .int .u16 (mulL a b)]) ∧ Drawn0 w w' := by
  cases hd : (negB a != negB b) <;> by_cases hm : valI a * valI b < 0
  · exact mul_10 a b a0 a1 b0 b1 hm hd w
  · exact mul_00 a b a0 a1 b0 b1 hm hd w
  · exact mul_11 a b a0 a1 b0 b1 hm hd w
  · exact mul_01 a b a0 a1 b0 b1 hm hd w
end
end Go.Proofs.YthfobpkdloejfaaGreat.Cpu
end
section
namespace Go.Proofs.YthfobpkdloejfaaGreat.Cpu
open Go.RowKit Go.Proofs.YthfobpkdloejfaaGreat.PAll Go.Proofs.YthfobpkdloejfaaGreat.One Go.Proofs.YthfobpkdloejfaaGreat.Mem Go.Proofs.YthfobpkdloejfaaGreat.Row Go.Proofs.YthfobpkdloejfaaGreatW.PrintWords Go.Proofs.YthfobpkdloejfaaGreatW.PrintLast Go.Proofs.YthfobpkdloejfaaGreatW.PrintMore Go.Proofs.YthfobpkdloejfaaGreat.Plain
set_option linter.unusedVariables false
set_option linter.unusedSimpArgs false
set_option linter.unusedSectionVars false
section
variable {c : Cx} {n : Nat} {st : St} {w : World}
theorem cls0_b {a : Int} (h : clsI a = 0) (a0 : 0 ≤ a) : 1 ≤ a ∧ a ≤ 32767 := by
  unfold clsI at h
  repeat' split at h
  all_goals omega
theorem cls2_b {a : Int} (h : clsI a = 2) (a1 : a < 65536) : 32768 ≤ a ∧ a ≤ 65534 := by
  unfold clsI at h
  repeat' split at h
  all_goals omega
theorem mulH_b (a b : Int) : 0 ≤ mulH a b ∧ mulH a b < 65536 := by
  have := mul_b a b
  have hn := neg_b (absI (valI a * valI b) / 16384)
  unfold mulH
  unfold absI at *
  generalize valI a * valI b = m at *
  split
  · split <;> omega
  · omega
set_option maxRecDepth 100000 in
set_option maxHeartbeats 4000000 in
theorem mp_c (h : c.P n st w) (ok : st.r.Ok) (h0 : 0 ≤ st.sp.f1) (hn : n ≤ 80) : Calls Tryz.prog 114 #[.pointer (some ⟨c.p, 0, none⟩)] w fun e w' => e = .returned (.tuple #[]) ∧ c.P (n + 1) (xMp st c.v) w' := by
  have HR := Aside0.mk h
  clear h
  have hu0 := Tryz.underlying97
  have hu1 := Tryz.underlying26
  have hu2 := Tryz.underlying48
  have hu3 := Tryz.underlying64
  have hu4 := Tryz.underlying29
  go_enter Tryz.func114, Tryz.ntmps114
  go_wp2_with (first | (go_at_call 111; (with_reducible refine at_args #[.pointer (some ⟨c.p, 0, none⟩)] ?_); (with_reducible refine (a_c HR.out ok).mono ?_); rintro e wc ⟨rfl, hR⟩; replace HR := Aside0.mk hR; clear hR) | (go_at_call 100; (with_reducible refine at_args #[.pointer (some ⟨c.p, 0, none⟩)] ?_); (with_reducible refine (word_c HR.out ok h0 (by omega)).mono ?_); rintro e wc ⟨rfl, hR⟩; replace HR := Aside0.mk hR; clear hR) | (go_at_call 24; (with_reducible refine at_args #[.int .u16 (corI st.r.a), .int .u16 (rdW st c.v)] ?_); (with_reducible refine (mult_c _ _ (cor_b ok.a0 ok.a1).1 (by have := (cor_b ok.a0 ok.a1).2; omega) (rdW_b ok c.v).1 (rdW_b ok c.v).2 _).mono ?_); rintro e wc ⟨rfl, hd⟩; replace HR := Aside0.mk (HR.out.drawn hd); clear hd) | (go_at_call 110; (with_reducible refine at_args #[.pointer (some ⟨c.p, 0, none⟩), .int .u16 (mulH (corI st.r.a) (rdW st c.v))] ?_); (with_reducible refine (set_c HR.out (mulH (corI st.r.a) (rdW st c.v)) (mulH_b _ _).1 (mulH_b _ _).2).mono ?_); rintro e wc ⟨rfl, hR⟩; replace HR := Aside0.mk hR; clear hR) | (refine HR.out.e1 rfl _ _ _ rfl rfl _ rfl ?hi ?_; (case hi => kernel_rfl); intro wc hR; replace HR := Aside0.mk hR; clear hR))
  first | (go_end0; exact ⟨rfl, HR.out⟩) | ((try simp only [Exit.inBlock, Exit.then]); refine bodyPost_ret (results_none rfl _ _ _) rfl ⟨rfl, HR.out⟩) | (go_ret; exact ⟨rfl, HR.out⟩)
set_option maxRecDepth 100000 in
set_option maxHeartbeats 4000000 in
theorem dca_d (h : c.P n st w) (ok : st.r.Ok) (h0 : 0 ≤ st.sp.f1) (h9 : st.sp.f1 < 40000) (hn : n ≤ 80) : Calls Tryz.prog 132 #[.pointer (some ⟨c.p, 0, none⟩), .int .u16 0, .int .u16 0] w fun e w' => e = .returned (.tuple #[]) ∧ c.P (n + 1 + 1) (xDca st c.v) w' := by
  have HR := Aside0.mk h
  clear h
  have BY := Aside0.mk (look_b ok c.v (nextSp st.sp))
  have e1 : Go.bits .xor .u16 (rdA st c.v) 0 = rdA st c.v := xor_zero (rdA_b ok c.v).1 (rdA_b ok c.v).2
  have e2 : Go.bits .xor .u16 (corI ((lookN st.r c.v (nextSp st.sp)).1)) 0 = corI ((lookN st.r c.v (nextSp st.sp)).1) := xor_zero (cor_b BY.out.1 BY.out.2).1 (by have := (cor_b BY.out.1 BY.out.2).2; omega)
  have hu0 := Tryz.underlying97
  have hu1 := Tryz.underlying26
  have hu2 := Tryz.underlying48
  have hu3 := Tryz.underlying64
  have hu4 := Tryz.underlying29
  go_enter Tryz.func132, Tryz.ntmps132
  go_wp2_with (first | (go_at_call 170; (with_reducible refine at_args #[.pointer (some ⟨c.p, 0, none⟩)] ?_); (with_reducible refine (next_c HR.out h0 h9).mono ?_); rintro e wc ⟨rfl, hR⟩; replace HR := Aside0.mk hR; clear hR) | (go_at_call 169; (with_reducible refine at_args #[.pointer (some ⟨c.p, 0, none⟩), .agg #[.int .u8 (nextSp st.sp).f0, .int .i64 (nextSp st.sp).f1]] ?_); (with_reducible refine (at_c HR.out ok (nextSp st.sp) (nextSp_b _ h0) (by omega)).mono ?_); rintro e wc ⟨rfl, hR⟩; replace HR := Aside0.mk hR; clear hR) | (go_at_call 34; (with_reducible refine at_args #[.int .u16 ((lookN st.r c.v (nextSp st.sp)).1)] ?_); (with_reducible refine (cor_c _ BY.out.1 (by have := BY.out.2; omega) _).mono ?_); rintro e wc ⟨rfl, hd⟩; replace HR := Aside0.mk (HR.out.drawn hd); clear hd) | (go_at_call 97; (with_reducible refine at_args #[.pointer (some ⟨c.p, 0, none⟩)] ?_); (with_reducible refine (read_c HR.out ok h0 (by omega)).mono ?_); rintro e wc ⟨rfl, hR⟩; replace HR := Aside0.mk hR; clear hR) | (refine HR.out.e0 rfl _ _ _ rfl rfl _ rfl ?hi ?_; (case hi => kernel_rfl); intro wc hR; replace HR := Aside0.mk hR; clear hR) | (refine HR.out.e1 rfl _ _ _ rfl rfl _ rfl ?hi ?_; (case hi => kernel_rfl); intro wc hR; replace HR := Aside0.mk hR; clear hR))
  first | (go_end0; exact ⟨rfl, HR.out⟩) | ((try simp only [Exit.inBlock, Exit.then]); refine bodyPost_ret (results_none rfl _ _ _) rfl ⟨rfl, HR.out⟩) | (go_ret; exact ⟨rfl, HR.out⟩)
set_option maxRecDepth 100000 in
set_option maxHeartbeats 4000000 in
theorem dca_c (h : c.P n st w) (ok : st.r.Ok) (h0 : 0 ≤ st.sp.f1) (h9 : st.sp.f1 < 40000) (hn : n ≤ 80) : Calls Tryz.prog 131 #[.pointer (some ⟨c.g, 0, none⟩)] w fun e w' => e = .returned (.tuple #[]) ∧ c.P (n + 1 + 1) (xDca st c.v) w' := by
  have HR := Aside0.mk h
  clear h
  have xb := HR.out.bx
  have hu0 := Tryz.underlying97
  have hu1 := Tryz.underlying26
  have hu2 := Tryz.underlying48
  have hu3 := Tryz.underlying64
  have hu4 := Tryz.underlying29
  go_enter Tryz.func131, Tryz.ntmps131
  go_wp2_with (first | (go_at_call 132; (with_reducible refine at_args #[.pointer (some ⟨c.p, 0, none⟩), .int .u16 0, .int .u16 0] ?_); (with_reducible refine (dca_d HR.out ok h0 h9 hn).mono ?_); rintro e wc ⟨rfl, hR⟩; replace HR := Aside0.mk hR; clear hR))
  first | (go_end0; exact ⟨rfl, HR.out⟩) | ((try simp only [Exit.inBlock, Exit.then]); refine bodyPost_ret (results_none rfl _ _ _) rfl ⟨rfl, HR.out⟩) | (go_ret; exact ⟨rfl, HR.out⟩)
set_option maxRecDepth 100000 in
set_option maxHeartbeats 4000000 in
theorem dcs_d (h : c.P n st w) (ok : st.r.Ok) (h0 : 0 ≤ st.sp.f1) (h9 : st.sp.f1 < 40000) (hn : n ≤ 80) : Calls Tryz.prog 132 #[.pointer (some ⟨c.p, 0, none⟩), .int .u16 65535, .int .u16 32767] w fun e w' => e = .returned (.tuple #[]) ∧ c.P (n + 1 + 1) (xDcs st c.v) w' := by
  have HR := Aside0.mk h
  clear h
  have BY := Aside0.mk (look_b ok c.v (nextSp st.sp))
  have e1 : Go.bits .xor .u16 (rdA st c.v) 65535 = negAccI (rdA st c.v) := xor_ff (rdA_b ok c.v).1 (rdA_b ok c.v).2
  have e2 : Go.bits .xor .u16 (corI ((lookN st.r c.v (nextSp st.sp)).1)) 32767 = negI (corI ((lookN st.r c.v (nextSp st.sp)).1)) := xor_7f (cor_b BY.out.1 BY.out.2).1 (cor_b BY.out.1 BY.out.2).2
  have hu0 := Tryz.underlying97
  have hu1 := Tryz.underlying26
  have hu2 := Tryz.underlying48
  have hu3 := Tryz.underlying64
  have hu4 := Tryz.underlying29
  go_enter Tryz.func132, Tryz.ntmps132
  go_wp2_with (first | (go_at_call 170; (with_reducible refine at_args #[.pointer (some ⟨c.p, 0, none⟩)] ?_); (with_reducible refine (next_c HR.out h0 h9).mono ?_); rintro e wc ⟨rfl, hR⟩; replace HR := Aside0.mk hR; clear hR) | (go_at_call 169; (with_reducible refine at_args #[.pointer (some ⟨c.p, 0, none⟩), .agg #[.int .u8 (nextSp st.sp).f0, .int .i64 (nextSp st.sp).f1]] ?_); (with_reducible refine (at_c HR.out ok (nextSp st.sp) (nextSp_b _ h0) (by omega)).mono ?_); rintro e wc ⟨rfl, hR⟩; replace HR := Aside0.mk hR; clear hR) | (go_at_call 34; (with_reducible refine at_args #[.int .u16 ((lookN st.r c.v (nextSp st.sp)).1)] ?_); (with_reducible refine (cor_c _ BY.out.1 (by have := BY.out.2; omega) _).mono ?_); rintro e wc ⟨rfl, hd⟩; replace HR := Aside0.mk (HR.out.drawn hd); clear hd) | (go_at_call 97; (with_reducible refine at_args #[.pointer (some ⟨c.p, 0, none⟩)] ?_); (with_reducible refine (read_c HR.out ok h0 (by omega)).mono ?_); rintro e wc ⟨rfl, hR⟩; replace HR := Aside0.mk hR; clear hR) | (refine HR.out.e0 rfl _ _ _ rfl rfl _ rfl ?hi ?_; (case hi => kernel_rfl); intro wc hR; replace HR := Aside0.mk hR; clear hR) | (refine HR.out.e1 rfl _ _ _ rfl rfl _ rfl ?hi ?_; (case hi => kernel_rfl); intro wc hR; replace HR := Aside0.mk hR; clear hR))
  first | (go_end0; exact ⟨rfl, HR.out⟩) | ((try simp only [Exit.inBlock, Exit.then]); refine bodyPost_ret (results_none rfl _ _ _) rfl ⟨rfl, HR.out⟩) | (go_ret; exact ⟨rfl, HR.out⟩)
set_option maxRecDepth 100000 in
set_option maxHeartbeats 4000000 in
theorem dcs_c (h : c.P n st w) (ok : st.r.Ok) (h0 : 0 ≤ st.sp.f1) (h9 : st.sp.f1 < 40000) (hn : n ≤ 80) : Calls Tryz.prog 133 #[.pointer (some ⟨c.g, 0, none⟩)] w fun e w' => e = .returned (.tuple #[]) ∧ c.P (n + 1 + 1) (xDcs st c.v) w' := by
  have HR := Aside0.mk h
  clear h
  have xb := HR.out.bx
  have hu0 := Tryz.underlying97
  have hu1 := Tryz.underlying26
  have hu2 := Tryz.underlying48
  have hu3 := Tryz.underlying64
  have hu4 := Tryz.underlying29
  go_enter Tryz.func133, Tryz.ntmps133
  go_wp2_with (first | (go_at_call 132; (with_reducible refine at_args #[.pointer (some ⟨c.p, 0, none⟩), .int .u16 65535, .int .u16 32767] ?_); (with_reducible refine (dcs_d HR.out ok h0 h9 hn).mono ?_); rintro e wc ⟨rfl, hR⟩; replace HR := Aside0.mk hR; clear hR))
  first | (go_end0; exact ⟨rfl, HR.out⟩) | ((try simp only [Exit.inBlock, Exit.then]); refine bodyPost_ret (results_none rfl _ _ _) rfl ⟨rfl, HR.out⟩) | (go_ret; exact ⟨rfl, HR.out⟩)
set_option maxRecDepth 100000 in
set_option maxHeartbeats 4000000 in
theorem dim_0 (h : c.P n st w) (ok : st.r.Ok) (h0 : 0 ≤ st.sp.f1) (hn : n ≤ 80) (hk : clsI (rdA st c.v) = 0) : Calls Tryz.prog 130 #[.pointer (some ⟨c.p, 0, none⟩)] w fun e w' => e = .returned (.tuple #[]) ∧ c.P (n + 1 + 1) (xDim st c.v) w' := by
  have HR := Aside0.mk h
  clear h
  have x23 := HR.out.c23
  have ra := rdA_b ok c.v
  have BV : Aside0 (0 ≤ rdA st c.v - 1 ∧ rdA st c.v - 1 ≤ 65535) := ⟨by have := cls0_b hk (rdA_b ok c.v).1; omega⟩
  have y0 : (clsI (rdA st c.v) == 0) = true := by rw [hk]; rfl
  have y1 : (clsI (rdA st c.v) == 2) = false := by rw [hk]; rfl
  have e1 : IntKind.u16.wrap (rdA st c.v - 1) = rdA st c.v - 1 := u16w BV.out.1 (by have := BV.out.2; omega)
  have HK := Aside0.mk hk
  clear hk ra
  have hu0 := Tryz.underlying97
  have hu1 := Tryz.underlying26
  have hu2 := Tryz.underlying48
  have hu3 := Tryz.underlying64
  have hu4 := Tryz.underlying29
  go_enter Tryz.func130, Tryz.ntmps130
  go_wp2_with (first | (go_at_call 97; (with_reducible refine at_args #[.pointer (some ⟨c.p, 0, none⟩)] ?_); (with_reducible refine (read_c HR.out ok h0 (by omega)).mono ?_); rintro e wc ⟨rfl, hR⟩; replace HR := Aside0.mk hR; clear hR; (try replace x23 : wc.cell? ⟨c.p, 23, none⟩ = some (.int .i64 st.sp.f1) := by first | exact HR.out.c23 | (have := HR.out.c23; simpa only [put_sp] using this))) | (go_at_call 168; (with_reducible refine at_args #[.int .u16 (rdA st c.v)] ?_); (with_reducible refine (cls_c _ (rdA_b ok c.v).1 (rdA_b ok c.v).2 _).mono ?_); rintro e wc ⟨rfl, hd⟩; replace HR := Aside0.mk (HR.out.drawn hd); clear hd; (try replace x23 : wc.cell? ⟨c.p, 23, none⟩ = some (.int .i64 st.sp.f1) := by first | exact HR.out.c23 | (have := HR.out.c23; simpa only [put_sp] using this))) | (go_at_call 172; (with_reducible refine at_args #[.pointer (some ⟨c.p, 0, none⟩), .int .i64 st.sp.f1, .int .u16 (rdA st c.v - 1)] ?_); (with_reducible refine (store_c HR.out _ (rdA st c.v - 1) h0 BV.out.1 BV.out.2 (by omega)).mono ?_); rintro e wc ⟨rfl, hR⟩; replace HR := Aside0.mk hR; clear hR))
  first | go_end0 | ((try simp only [Exit.inBlock, Exit.then]); refine bodyPost_ret (results_none rfl _ _ _) rfl ?_)
  refine ⟨rfl, ?_⟩
  unfold xDim
  rw [if_pos HK.out]
  exact HR.out
set_option maxRecDepth 100000 in
set_option maxHeartbeats 4000000 in
theorem dim_2 (h : c.P n st w) (ok : st.r.Ok) (h0 : 0 ≤ st.sp.f1) (hn : n ≤ 80) (hk : clsI (rdA st c.v) = 2) : Calls Tryz.prog 130 #[.pointer (some ⟨c.p, 0, none⟩)] w fun e w' => e = .returned (.tuple #[]) ∧ c.P (n + 1 + 1) (xDim st c.v) w' := by
  have HR := Aside0.mk h
  clear h
  have x23 := HR.out.c23
  have ra := rdA_b ok c.v
  have BV : Aside0 (0 ≤ rdA st c.v + 1 ∧ rdA st c.v + 1 ≤ 65535) := ⟨by have := cls2_b hk (rdA_b ok c.v).2; omega⟩
  have y0 : (clsI (rdA st c.v) == 0) = false := by rw [hk]; rfl
  have y1 : (clsI (rdA st c.v) == 2) = true := by rw [hk]; rfl
  have e1 : IntKind.u16.wrap (rdA st c.v + 1) = rdA st c.v + 1 := u16w BV.out.1 (by have := BV.out.2; omega)
  have HK := Aside0.mk hk
  clear hk ra
  have hu0 := Tryz.underlying97
  have hu1 := Tryz.underlying26
  have hu2 := Tryz.underlying48
  have hu3 := Tryz.underlying64
  have hu4 := Tryz.underlying29
  go_enter Tryz.func130, Tryz.ntmps130
  go_wp2_with (first | (go_at_call 97; (with_reducible refine at_args #[.pointer (some ⟨c.p, 0, none⟩)] ?_); (with_reducible refine (read_c HR.out ok h0 (by omega)).mono ?_); rintro e wc ⟨rfl, hR⟩; replace HR := Aside0.mk hR; clear hR; (try replace x23 : wc.cell? ⟨c.p, 23, none⟩ = some (.int .i64 st.sp.f1) := by first | exact HR.out.c23 | (have := HR.out.c23; simpa only [put_sp] using this))) | (go_at_call 168; (with_reducible refine at_args #[.int .u16 (rdA st c.v)] ?_); (with_reducible refine (cls_c _ (rdA_b ok c.v).1 (rdA_b ok c.v).2 _).mono ?_); rintro e wc ⟨rfl, hd⟩; replace HR := Aside0.mk (HR.out.drawn hd); clear hd; (try replace x23 : wc.cell? ⟨c.p, 23, none⟩ = some (.int .i64 st.sp.f1) := by first | exact HR.out.c23 | (have := HR.out.c23; simpa only [put_sp] using this))) | (go_at_call 172; (with_reducible refine at_args #[.pointer (some ⟨c.p, 0, none⟩), .int .i64 st.sp.f1, .int .u16 (rdA st c.v + 1)] ?_); (with_reducible refine (store_c HR.out _ (rdA st c.v + 1) h0 BV.out.1 BV.out.2 (by omega)).mono ?_); rintro e wc ⟨rfl, hR⟩; replace HR := Aside0.mk hR; clear hR))
  first | go_end0 | ((try simp only [Exit.inBlock, Exit.then]); refine bodyPost_ret (results_none rfl _ _ _) rfl ?_)
  refine ⟨rfl, ?_⟩
  unfold xDim
  rw [if_neg (by rw [HK.out]; decide), if_pos HK.out]
  exact HR.out
set_option maxRecDepth 100000 in
set_option maxHeartbeats 4000000 in
theorem dim_n (h : c.P n st w) (ok : st.r.Ok) (h0 : 0 ≤ st.sp.f1) (hn : n ≤ 80) (hk : clsI (rdA st c.v) ≠ 0) (hk2 : clsI (rdA st c.v) ≠ 2) : Calls Tryz.prog 130 #[.pointer (some ⟨c.p, 0, none⟩)] w fun e w' => e = .returned (.tuple #[]) ∧ c.P (n + 1 + 1) (xDim st c.v) w' := by
  have HR := Aside0.mk h
  clear h
  have x23 := HR.out.c23
  have ra := rdA_b ok c.v
  have BV : Aside0 (0 ≤ rdA st c.v ∧ rdA st c.v ≤ 65535) := ⟨by omega⟩
  have y0 : (clsI (rdA st c.v) == 0) = false := by simpa using hk
  have y1 : (clsI (rdA st c.v) == 2) = false := by simpa using hk2
  have HK := Aside0.mk hk
  have HK2 := Aside0.mk hk2
  clear hk ra hk2
  have hu0 := Tryz.underlying97
  have hu1 := Tryz.underlying26
  have hu2 := Tryz.underlying48
  have hu3 := Tryz.underlying64
  have hu4 := Tryz.underlying29
  go_enter Tryz.func130, Tryz.ntmps130
  go_wp2_with (first | (go_at_call 97; (with_reducible refine at_args #[.pointer (some ⟨c.p, 0, none⟩)] ?_); (with_reducible refine (read_c HR.out ok h0 (by omega)).mono ?_); rintro e wc ⟨rfl, hR⟩; replace HR := Aside0.mk hR; clear hR; (try replace x23 : wc.cell? ⟨c.p, 23, none⟩ = some (.int .i64 st.sp.f1) := by first | exact HR.out.c23 | (have := HR.out.c23; simpa only [put_sp] using this))) | (go_at_call 168; (with_reducible refine at_args #[.int .u16 (rdA st c.v)] ?_); (with_reducible refine (cls_c _ (rdA_b ok c.v).1 (rdA_b ok c.v).2 _).mono ?_); rintro e wc ⟨rfl, hd⟩; replace HR := Aside0.mk (HR.out.drawn hd); clear hd; (try replace x23 : wc.cell? ⟨c.p, 23, none⟩ = some (.int .i64 st.sp.f1) := by first | exact HR.out.c23 | (have := HR.out.c23; simpa only [put_sp] using this))) | (go_at_call 172; (with_reducible refine at_args #[.pointer (some ⟨c.p, 0, none⟩), .int .i64 st.sp.f1, .int .u16 (rdA st c.v)] ?_); (with_reducible refine (store_c HR.out _ (rdA st c.v) h0 BV.out.1 BV.out.2 (by omega)).mono ?_); rintro e wc ⟨rfl, hR⟩; replace HR := Aside0.mk hR; clear hR))
  first | go_end0 | ((try simp only [Exit.inBlock, Exit.then]); refine bodyPost_ret (results_none rfl _ _ _) rfl ?_)
  refine ⟨rfl, ?_⟩
  unfold xDim
  rw [if_neg HK.out, if_neg HK2.out]
  exact HR.out
theorem dim_i (h : c.P n st w) (ok : st.r.Ok) (h0 : 0 ≤ st.sp.f1) (hn : n ≤ 80) : Calls Tryz.prog 130 #[.pointer (some ⟨c.p, 0, none⟩)] w fun e w' => e = .returned (.tuple #[]) ∧ c.P (n + 1 + 1) (xDim st c.v) w' := by
  by_cases a : clsI (rdA st c.v) = 0
  · exact dim_0 h ok h0 hn a
  · by_cases b : clsI (rdA st c.v) = 2
    · exact dim_2 h ok h0 hn b
    · exact dim_n h ok h0 hn a b
end
end Go.Proofs.YthfobpkdloejfaaGreat.Cpu
end
section
namespace Go.Proofs.YthfobpkdloejfaaGreat.Cpu
open Go.RowKit Go.Proofs.YthfobpkdloejfaaGreat.PAll Go.Proofs.YthfobpkdloejfaaGreat.One Go.Proofs.YthfobpkdloejfaaGreat.Mem Go.Proofs.YthfobpkdloejfaaGreat.Row Go.Proofs.YthfobpkdloejfaaGreatW.PrintWords Go.Proofs.YthfobpkdloejfaaGreatW.PrintLast Go.Proofs.YthfobpkdloejfaaGreatW.PrintMore Go.Proofs.YthfobpkdloejfaaGreat.Plain
set_option linter.unusedVariables false
set_option linter.unusedSimpArgs false
set_option linter.unusedSectionVars false
section
variable {c : Cx} {n : Nat} {st : St} {w : World}
set_option maxRecDepth 100000 in
set_option maxHeartbeats 4000000 in
theorem xindex_c (h : c.P n st w) (ok : st.r.Ok) (h0 : 0 ≤ st.sp.f1) (hn : n ≤ 80) : Calls Tryz.prog 101 #[.pointer (some ⟨c.g, 0, none⟩)] w fun e w' => e = .returned (.tuple #[]) ∧ c.P (n + 1) (xXindex st c.v) w' := by
  have HR := Aside0.mk h
  clear h
  have xb := HR.out.bx
  have hu0 := Tryz.underlying97
  have hu1 := Tryz.underlying26
  have hu2 := Tryz.underlying48
  have hu3 := Tryz.underlying64
  have hu4 := Tryz.underlying29
  go_enter Tryz.func101, Tryz.ntmps101
  replace HR := Aside0.mk HR.out.drew
  refine start_ (n := 12) (S := fun w' => w'.cell? ⟨c.g, 0, none⟩ = some (.pointer (some ⟨c.p, 0, none⟩))) (ds := []) #[false, false, false, false, false, false, false, false, false, false, false, false] (by kernel_rfl) rfl rfl (HR.out.bx) (fun hHeld => ?_)
  generalize w.drew = wd at HR hHeld ⊢
  refine take_ (i := 0) (N := some 1) (v := ?_) (a' := ?_) #[true, false, false, false, false, false, false, false, false, false, false, false] rfl rfl (by kernel_rfl) (fun _ _ _ h => h) (Or.inl ⟨by rfl, ?_⟩) hHeld ?_ ?_
  rotate_left
  · intro w' s0
    go_simp
    with_reducible rfl
  rotate_left
  · simp only [Act.put, List.setIfInBounds_toArray, List.set_cons_zero, List.set_cons_succ, i64_w, i32_w]
    rfl
  refine take_ (i := 1) (N := some 2) (v := ?_) (a' := ?_) #[true, true, false, false, false, false, false, false, false, false, false, false] rfl rfl (by kernel_rfl) (fun _ _ _ h => h) (Or.inl ⟨by rfl, ?_⟩) hHeld ?_ ?_
  rotate_left
  · intro w' s0
    go_simp
    with_reducible rfl
  rotate_left
  · simp only [Act.put, List.setIfInBounds_toArray, List.set_cons_zero, List.set_cons_succ, i64_w, i32_w]
    rfl
  refine take_ (i := 2) (N := some 3) (v := ?_) (a' := ?_) #[true, true, true, false, false, false, false, false, false, false, false, false] rfl rfl (by kernel_rfl) (fun _ _ _ h => h) (Or.inl ⟨by rfl, ?_⟩) hHeld ?_ ?_
  rotate_left
  · intro w' s0
    go_simp
    with_reducible rfl
  rotate_left
  · simp only [Act.put, List.setIfInBounds_toArray, List.set_cons_zero, List.set_cons_succ, i64_w, i32_w]
    rfl
  refine one_ (i := 3) (N := some 4) #[true, true, true, true, false, false, false, false, false, false, false, false] rfl rfl (by kernel_rfl) (by decide) (fun K hK => ?_)
  refine goes_ Tryz.func100 (by kernel_rfl) rfl #[.pointer (some ⟨c.p, 0, none⟩)] (by rfl) rfl rfl (by simp only [List.map_toArray, List.map_cons, List.map_nil]; rfl) ?_
  with_reducible refine (word_c HR.out ok h0 (by omega)).mono ?_
  rintro e wc ⟨rfl, hR⟩
  refine ⟨_, rfl, ?_⟩
  replace HR := Aside0.mk hR
  clear hR
  refine hK.out _ _ (HR.out.bx) (fun hHeld => ?_)
  clear hK K
  refine norm_ (a' := ?_) ?_ ?_
  rotate_left
  · show Act.put _ (some 4) _ = _
    simp only [Act.put, List.setIfInBounds_toArray, List.set_cons_zero, List.set_cons_succ, i64_w, i32_w]
    rfl
  refine pure_ (i := 4) (N := some 5) (v := ?_) (a' := ?_) #[true, true, true, true, true, false, false, false, false, false, false, false] rfl rfl (by kernel_rfl) (fun _ _ _ h => h) (Or.inl ⟨by rfl, ?_⟩) ?_ ?_
  rotate_left
  · intro w'
    go_simp
    with_reducible rfl
  rotate_left
  · simp only [Act.put, List.setIfInBounds_toArray, List.set_cons_zero, List.set_cons_succ, i64_w, i32_w]
    rfl
  refine pure_ (i := 5) (N := some 6) (v := ?_) (a' := ?_) #[true, true, true, true, true, true, false, false, false, false, false, false] rfl rfl (by kernel_rfl) (fun _ _ _ h => h) (Or.inl ⟨by rfl, ?_⟩) ?_ ?_
  rotate_left
  · intro w'
    go_simp
    with_reducible rfl
  rotate_left
  · simp only [Act.put, List.setIfInBounds_toArray, List.set_cons_zero, List.set_cons_succ, i64_w, i32_w]
    rfl
  refine pure_ (i := 6) (N := some 7) (v := ?_) (a' := ?_) #[true, true, true, true, true, true, true, false, false, false, false, false] rfl rfl (by kernel_rfl) (fun _ _ _ h => h) (Or.inl ⟨by rfl, ?_⟩) ?_ ?_
  rotate_left
  · intro w'
    go_simp
    with_reducible rfl
  rotate_left
  · simp only [Act.put, List.setIfInBounds_toArray, List.set_cons_zero, List.set_cons_succ, i64_w, i32_w]
    rfl
  refine one_ (i := 7) (N := none) #[true, true, true, true, true, true, true, true, false, false, false, false] rfl rfl (by kernel_rfl) (by decide) (fun K hK => ?_)
  refine skip_ (w1 := World.setCell wc ⟨c.p, 8, none⟩ (.int .u16 (rdW st c.v))) (by rfl) rfl ?_ ?_
  · exact run_store_cell _ _ _ rfl c.p 8 rfl (.int .u16 (rdW st c.v)) rfl _ HR.out.c8 (HR.out.fz 8) rfl rfl (by kernel_rfl)
  replace HR := Aside0.mk (HR.out.s8 (rdW st c.v))
  generalize World.setCell _ _ _ = wc at HR ⊢
  refine hK.out _ _ (HR.out.bx) (fun hHeld => ?_)
  clear hK K
  refine pure_ (i := 8) (N := some 8) (v := ?_) (a' := ?_) #[true, true, true, true, true, true, true, true, true, false, false, false] rfl rfl (by kernel_rfl) (fun _ _ _ h => h) (Or.inl ⟨by rfl, ?_⟩) ?_ ?_
  rotate_left
  · intro w'
    go_simp
    with_reducible rfl
  rotate_left
  · simp only [Act.put, List.setIfInBounds_toArray, List.set_cons_zero, List.set_cons_succ, i64_w, i32_w]
    rfl
  refine pure_ (i := 9) (N := some 9) (v := ?_) (a' := ?_) #[true, true, true, true, true, true, true, true, true, true, false, false] rfl rfl (by kernel_rfl) (fun _ _ _ h => h) (Or.inl ⟨by rfl, ?_⟩) ?_ ?_
  rotate_left
  · intro w'
    go_simp
    with_reducible rfl
  rotate_left
  · simp only [Act.put, List.setIfInBounds_toArray, List.set_cons_zero, List.set_cons_succ, i64_w, i32_w]
    rfl
  refine pure_ (i := 10) (N := some 10) (v := ?_) (a' := ?_) #[true, true, true, true, true, true, true, true, true, true, true, false] rfl rfl (by kernel_rfl) (fun _ _ _ h => h) (Or.inl ⟨by rfl, ?_⟩) ?_ ?_
  rotate_left
  · intro w'
    go_simp
    with_reducible rfl
  rotate_left
  · simp only [Act.put, List.setIfInBounds_toArray, List.set_cons_zero, List.set_cons_succ, i64_w, i32_w]
    rfl
  refine one_ (i := 11) (N := none) #[true, true, true, true, true, true, true, true, true, true, true, true] rfl rfl (by kernel_rfl) (by decide) (fun K hK => ?_)
  refine skip_ (w1 := World.setCell wc ⟨c.p, 7, none⟩ (.bool (true))) (by rfl) rfl ?_ ?_
  · exact run_store_cell _ _ _ rfl c.p 7 rfl (.bool (true)) rfl _ HR.out.c7 (HR.out.fz 7) rfl rfl (by kernel_rfl)
  replace HR := Aside0.mk (HR.out.s7 (true))
  generalize World.setCell _ _ _ = wc at HR ⊢
  refine hK.out _ _ (HR.out.bx) (fun hHeld => ?_)
  clear hK K
  refine done_ (by kernel_rfl) ?_
  go_wp2
  first | (go_end0; exact ⟨rfl, HR.out⟩) | ((try simp only [Exit.inBlock, Exit.then]); refine bodyPost_ret (results_none rfl _ _ _) rfl ⟨rfl, HR.out⟩) | (go_ret; exact ⟨rfl, HR.out⟩)
def dQ (A M : Int) (lt : Bool) : Int := if lt = true then A / M else 16383
def dR (A M lo : Int) (lt mi : Bool) : Int := if lt = true then (if mi = true then negI (A % M) else A % M) else lo % 32768
set_option maxRecDepth 100000 in
set_option maxHeartbeats 4000000 in
theorem div_w (hi lo d : Int) (a0 : 0 ≤ hi) (a1 : hi < 65536) (b0 : 0 ≤ lo) (b1 : lo < 65536) (d0 : 0 ≤ d) (d1 : d < 65536) (z nn mm lt mi ag : Bool)
    (nv A M : Int) (hz : (valI hi == 0) = z) (hnv : 16384 * valI hi + valI lo = nv) (hnn : decide (nv < 0) = nn) (hmm : decide (valI d < 0) = mm)
    (hA : (if nn = true then -nv else nv) = A) (hM : (if mm = true then -(valI d) else valI d) = M) (hlt : decide (A < M * 16384) = lt)
    (hmi : (Go.bits .and .u16 (if z = true then lo else hi) 16384 != 0) = mi) (hag : (Go.bits .and .u16 (Go.bits .xor .u16 (if z = true then lo else hi) d) 16384 != 0) = ag) (w : World) :
    Calls Tryz.prog 26 #[.int .u16 hi, .int .u16 lo, .int .u16 d] w fun e w' => e = .returned (.tuple #[.int .u16 (if ag = true then negI (dQ A M lt) else dQ A M lt), .int .u16 (dR A M lo lt mi)]) ∧ Drawn0 w w' := by
  have vh := val_b hi
  have vl := val_b lo
  have vd := val_b d
  have hA0 : 0 ≤ A ∧ A ≤ 268451840 := by subst hA; cases nn <;> simp at hnn ⊢ <;> omega
  have hM0 : 0 ≤ M ∧ M ≤ 16384 := by subst hM; cases mm <;> simp at hmm ⊢ <;> omega
  have VA := Lib.hid (value_c hi a0 a1)
  have VB := Lib.hid (value_c lo b0 b1)
  have VD := Lib.hid (value_c d d0 d1)
  have w1 : wrap64 (valI hi * 16384) = valI hi * 16384 := by unfold wrap64; omega
  have w1b : IntKind.i64.wrap (valI hi * 16384) = valI hi * 16384 := by first | exact w1 | (rw [IntKind.wrap_i64]; omega)
  have w2 : wrap64 (valI hi * 16384 + valI lo) = nv := by unfold wrap64; omega
  have w3 : wrap64 (-nv) = -nv := by unfold wrap64; omega
  have w4 : wrap64 (-(valI d)) = -(valI d) := by unfold wrap64; omega
  have w5 : wrap64 (M * 16384) = M * 16384 := by unfold wrap64; omega
  have f0 : Go.bits .and .u16 lo 32767 = lo % 32768 := and_32767 b0 b1
  have hq : lt = true → 0 < M ∧ 0 ≤ A / M ∧ A / M < 16384 ∧ 0 ≤ A % M ∧ A % M < 16384 := by
    intro h; rw [h] at hlt; simp at hlt
    have hp : 0 < M := by omega
    refine ⟨hp, Int.ediv_nonneg hA0.1 hM0.1, Int.ediv_lt_of_lt_mul hp (by omega), Int.emod_nonneg _ (by omega), ?_⟩
    have := Int.emod_lt_of_pos A hp
    omega
  have bQ : 0 ≤ dQ A M lt ∧ dQ A M lt < 65536 := by unfold dQ; split; (next h => have := hq h; omega); omega
  have bR : 0 ≤ (if lt = true then A % M else lo % 32768) ∧ (if lt = true then A % M else lo % 32768) < 65536 := by split; (next h => have := hq h; omega); omega
  have NQ : ∀ w, Calls Tryz.prog 36 #[.int .u16 (dQ A M lt)] w fun e w' => e = .returned (.int .u16 (negI (dQ A M lt))) ∧ Drawn0 w w' := fun w => neg_c _ bQ.1 bQ.2 w
  have NR : ∀ w, Calls Tryz.prog 36 #[.int .u16 (if lt = true then A % M else lo % 32768)] w fun e w' => e = .returned (.int .u16 (negI (if lt = true then A % M else lo % 32768))) ∧ Drawn0 w w' := fun w => neg_c _ bR.1 bR.2 w
  have q1 : lt = true → wrap64 (Int.tdiv A M) = A / M ∧ IntKind.u16.wrap (A / M) = A / M ∧ Int.tmod A M = A % M ∧ IntKind.u16.wrap (A % M) = A % M ∧ M ≠ 0 := by
    intro h
    have := hq h
    have e1 : Int.tdiv A M = A / M := Int.tdiv_eq_ediv_of_nonneg hA0.1
    have e2 : Int.tmod A M = A % M := Int.tmod_eq_emod_of_nonneg hA0.1
    rw [e1, e2]
    exact ⟨by unfold wrap64; omega, u16w (by omega) (by omega), rfl, u16w (by omega) (by omega), by omega⟩
  clear hq hA0 hM0 bQ bR vh vl vd hnv
  cases z <;> cases nn <;> cases mm <;> cases lt <;> cases mi <;> cases ag
  all_goals
    simp only [Bool.false_eq_true, if_false, if_true, dQ, dR] at hA hM hmi hag NQ NR ⊢
    first | (replace w3 : wrap64 (-nv) = A := w3.trans hA; clear hA) | subst hA
    first | (replace w4 : wrap64 (-(valI d)) = M := w4.trans hM; clear hM) | subst hM
    replace NQ := Lib.hid NQ
    replace NR := Lib.hid NR
    try (obtain ⟨q2, q3, q4, q5, q6⟩ := q1 rfl)
    try clear q1
    go_enter Tryz.func26, Tryz.ntmps26
    first | go_upto_region 12 with (first | (go_at_call 29; (with_reducible refine at_args #[.int .u16 hi] ?_); (with_reducible refine (VA.out _).mono ?_); rintro e wc ⟨rfl, ⟨nd, rfl⟩⟩) | (go_at_call 29; (with_reducible refine at_args #[.int .u16 lo] ?_); (with_reducible refine (VB.out _).mono ?_); rintro e wc ⟨rfl, ⟨nd, rfl⟩⟩) | (go_at_call 29; (with_reducible refine at_args #[.int .u16 d] ?_); (with_reducible refine (VD.out _).mono ?_); rintro e wc ⟨rfl, ⟨nd, rfl⟩⟩) | (go_at_call 36; (with_reducible refine (NQ.out _).mono ?_); rintro e wc ⟨rfl, ⟨nd, rfl⟩⟩) | (go_at_call 36; (with_reducible refine (NR.out _).mono ?_); rintro e wc ⟨rfl, ⟨nd, rfl⟩⟩)) | skip
    first | (go_quiet (fail)) | skip
    go_wp2_with (first | (go_at_call 29; (with_reducible refine at_args #[.int .u16 hi] ?_); (with_reducible refine (VA.out _).mono ?_); rintro e wc ⟨rfl, ⟨nd, rfl⟩⟩) | (go_at_call 29; (with_reducible refine at_args #[.int .u16 lo] ?_); (with_reducible refine (VB.out _).mono ?_); rintro e wc ⟨rfl, ⟨nd, rfl⟩⟩) | (go_at_call 29; (with_reducible refine at_args #[.int .u16 d] ?_); (with_reducible refine (VD.out _).mono ?_); rintro e wc ⟨rfl, ⟨nd, rfl⟩⟩) | (go_at_call 36; (with_reducible refine (NQ.out _).mono ?_); rintro e wc ⟨rfl, ⟨nd, rfl⟩⟩) | (go_at_call 36; (with_reducible refine (NR.out _).mono ?_); rintro e wc ⟨rfl, ⟨nd, rfl⟩⟩))
    go_ret2
    exact ⟨rfl, by repeat (first | exact Drawn0.refl _ | apply Drawn0.step)⟩
end
end Go.Proofs.YthfobpkdloejfaaGreat.Cpu
end
section
namespace Go.Proofs.YthfobpkdloejfaaGreat.Cpu
open Go.RowKit Go.Proofs.YthfobpkdloejfaaGreat.PAll Go.Proofs.YthfobpkdloejfaaGreat.One Go.Proofs.YthfobpkdloejfaaGreat.Mem Go.Proofs.YthfobpkdloejfaaGreat.Row Go.Proofs.YthfobpkdloejfaaGreatW.PrintWords Go.Proofs.YthfobpkdloejfaaGreatW.PrintLast Go.Proofs.YthfobpkdloejfaaGreatW.PrintMore Go.Proofs.YthfobpkdloejfaaGreat.Plain
set_option linter.unusedVariables false
set_option linter.unusedSimpArgs false
set_option linter.unusedSectionVars false
section
variable {c : Cx} {n : Nat} {st : St} {w : World}
theorem and_14 {a : Int} (a0 : 0 ≤ a) (a1 : a < 65536) : (Go.bits .and .u16 a 16384 != 0) = negB a := by
  rw [and_16384 a0 a1]; unfold negB; rw [Bool.eq_iff_iff]; simp; omega
theorem div_c (hi lo d : Int) (a0 : 0 ≤ hi) (a1 : hi < 65536) (b0 : 0 ≤ lo) (b1 : lo < 65536) (d0 : 0 ≤ d) (d1 : d < 65536) (w : World) :
    Calls Tryz.prog 26 #[.int .u16 hi, .int .u16 lo, .int .u16 d] w fun e w' => e = .returned (.tuple #[.int .u16 (divQ hi lo d), .int .u16 (divR hi lo d)]) ∧ Drawn0 w w' := by
  have hL : negB (if (valI hi == 0) = true then lo else hi) = divM hi lo := by unfold divM; by_cases h : valI hi = 0 <;> simp [h]
  have l0 : 0 ≤ (if (valI hi == 0) = true then lo else hi) := by split <;> assumption
  have l1 : (if (valI hi == 0) = true then lo else hi) < 65536 := by split <;> assumption
  have h := div_w hi lo d a0 a1 b0 b1 d0 d1 (valI hi == 0) (decide (16384 * valI hi + valI lo < 0)) (decide (valI d < 0)) (decide (absI (16384 * valI hi + valI lo) < absI (valI d) * 16384)) (divM hi lo) (divM hi lo != negB d) (16384 * valI hi + valI lo) (absI (16384 * valI hi + valI lo)) (absI (valI d)) rfl rfl rfl rfl (by unfold absI; simp) (by unfold absI; simp) rfl ((and_14 l0 l1).trans hL) (by rw [xor_14 l0 l1 d0 d1, hL]) w
  have e1 : (if (divM hi lo != negB d) = true then negI (dQ (absI (16384 * valI hi + valI lo)) (absI (valI d)) (decide (absI (16384 * valI hi + valI lo) < absI (valI d) * 16384))) else dQ (absI (16384 * valI hi + valI lo)) (absI (valI d)) (decide (absI (16384 * valI hi + valI lo) < absI (valI d) * 16384))) = divQ hi lo d := by
    unfold divQ dQ
    rw [Int.mul_comm 16384 (absI (valI d))]
    by_cases g : divM hi lo = negB d
    · simp [g]
    · simp [g]
  have e2 : dR (absI (16384 * valI hi + valI lo)) (absI (valI d)) lo (decide (absI (16384 * valI hi + valI lo) < absI (valI d) * 16384)) (divM hi lo) = divR hi lo d := by
    unfold divR dR
    rw [Int.mul_comm 16384 (absI (valI d))]
    simp
  rw [e1, e2] at h
  exact h
theorem divQ_b (hi lo d : Int) : 0 ≤ divQ hi lo d ∧ divQ hi lo d < 65536 := by
  have h0 := abs_b (16384 * valI hi + valI lo)
  have h1 := abs_b (valI d)
  have hq : 0 ≤ (if absI (16384 * valI hi + valI lo) < 16384 * absI (valI d) then absI (16384 * valI hi + valI lo) / absI (valI d) else 16383) ∧ (if absI (16384 * valI hi + valI lo) < 16384 * absI (valI d) then absI (16384 * valI hi + valI lo) / absI (valI d) else 16383) < 65536 := by
    split
    · rename_i h
      have hp : 0 < absI (valI d) := by omega
      have := Int.ediv_lt_of_lt_mul (a := absI (16384 * valI hi + valI lo)) (b := 16384) hp (by omega)
      exact ⟨Int.ediv_nonneg h0 h1, by omega⟩
    · omega
  unfold divQ
  split
  · exact hq
  · have := neg_b (if absI (16384 * valI hi + valI lo) < 16384 * absI (valI d) then absI (16384 * valI hi + valI lo) / absI (valI d) else 16383)
    omega
set_option maxRecDepth 100000 in
set_option maxHeartbeats 4000000 in
theorem dv_c (h : c.P n st w) (ok : st.r.Ok) (h0 : 0 ≤ st.sp.f1) (hn : n ≤ 80) : Calls Tryz.prog 115 #[.pointer (some ⟨c.p, 0, none⟩)] w fun e w' => e = .returned (.tuple #[]) ∧ c.P (n + 1) (xDv st c.v) w' := by
  have HR := Aside0.mk h
  clear h
  have hu0 := Tryz.underlying97
  have hu1 := Tryz.underlying26
  have hu2 := Tryz.underlying48
  have hu3 := Tryz.underlying64
  have hu4 := Tryz.underlying29
  go_enter Tryz.func115, Tryz.ntmps115
  go_upto_region 0 with (first | fail)
  replace HR := Aside0.mk HR.out.drew
  refine start_ (n := 15) (S := fun w' => w'.cell? ⟨c.p, 1, none⟩ = some (.int .u16 st.r.l)) (ds := []) #[false, false, false, false, false, false, false, false, false, false, false, false, false, false, false] (by kernel_rfl) rfl rfl (HR.out.c1) (fun hHeld => ?_)
  generalize w.drew = wd at HR hHeld ⊢
  refine pure_ (i := 0) (N := some 5) (v := ?_) (a' := ?_) #[true, false, false, false, false, false, false, false, false, false, false, false, false, false, false] rfl rfl (by kernel_rfl) (fun _ _ _ h => h) (Or.inl ⟨by rfl, ?_⟩) ?_ ?_
  rotate_left
  · intro w'
    go_simp
    with_reducible rfl
  rotate_left
  · simp only [Act.put, List.setIfInBounds_toArray, List.set_cons_zero, List.set_cons_succ, i64_w, i32_w]
    rfl
  refine pure_ (i := 2) (N := some 7) (v := ?_) (a' := ?_) #[true, false, true, false, false, false, false, false, false, false, false, false, false, false, false] rfl rfl (by kernel_rfl) (fun _ _ _ h => h) (Or.inl ⟨by rfl, ?_⟩) ?_ ?_
  rotate_left
  · intro w'
    go_simp
    with_reducible rfl
  rotate_left
  · simp only [Act.put, List.setIfInBounds_toArray, List.set_cons_zero, List.set_cons_succ, i64_w, i32_w]
    rfl
  refine pure_ (i := 3) (N := some 8) (v := ?_) (a' := ?_) #[true, false, true, true, false, false, false, false, false, false, false, false, false, false, false] rfl rfl (by kernel_rfl) (fun _ _ _ h => h) (Or.inl ⟨by rfl, ?_⟩) ?_ ?_
  rotate_left
  · intro w'
    go_simp
    with_reducible rfl
  rotate_left
  · simp only [Act.put, List.setIfInBounds_toArray, List.set_cons_zero, List.set_cons_succ, i64_w, i32_w]
    rfl
  refine pure_ (i := 4) (N := some 9) (v := ?_) (a' := ?_) #[true, false, true, true, true, false, false, false, false, false, false, false, false, false, false] rfl rfl (by kernel_rfl) (fun _ _ _ h => h) (Or.inl ⟨by rfl, ?_⟩) ?_ ?_
  rotate_left
  · intro w'
    go_simp
    with_reducible rfl
  rotate_left
  · simp only [Act.put, List.setIfInBounds_toArray, List.set_cons_zero, List.set_cons_succ, i64_w, i32_w]
    rfl
  refine pure_ (i := 5) (N := some 10) (v := ?_) (a' := ?_) #[true, false, true, true, true, true, false, false, false, false, false, false, false, false, false] rfl rfl (by kernel_rfl) (fun _ _ _ h => h) (Or.inl ⟨by rfl, ?_⟩) ?_ ?_
  rotate_left
  · intro w'
    go_simp
    with_reducible rfl
  rotate_left
  · simp only [Act.put, List.setIfInBounds_toArray, List.set_cons_zero, List.set_cons_succ, i64_w, i32_w]
    rfl
  refine pure_ (i := 7) (N := some 12) (v := ?_) (a' := ?_) #[true, false, true, true, true, true, false, true, false, false, false, false, false, false, false] rfl rfl (by kernel_rfl) (fun _ _ _ h => h) (Or.inl ⟨by rfl, ?_⟩) ?_ ?_
  rotate_left
  · intro w'
    go_simp
    with_reducible rfl
  rotate_left
  · simp only [Act.put, List.setIfInBounds_toArray, List.set_cons_zero, List.set_cons_succ, i64_w, i32_w]
    rfl
  refine take_ (i := 6) (N := some 11) (v := ?_) (a' := ?_) #[true, false, true, true, true, true, true, true, false, false, false, false, false, false, false] rfl rfl (by kernel_rfl) (fun _ _ _ h => h) (Or.inl ⟨by rfl, ?_⟩) hHeld ?_ ?_
  rotate_left
  · intro w' s0
    go_simp
    with_reducible rfl
  rotate_left
  · simp only [Act.put, List.setIfInBounds_toArray, List.set_cons_zero, List.set_cons_succ, i64_w, i32_w]
    rfl
  refine one_ (i := 1) (N := some 6) #[true, true, true, true, true, true, true, true, false, false, false, false, false, false, false] rfl rfl (by kernel_rfl) (by decide) (fun K hK => ?_)
  refine goes_ Tryz.func111 (by kernel_rfl) rfl #[.pointer (some ⟨c.p, 0, none⟩)] (by rfl) rfl rfl (by simp only [List.map_toArray, List.map_cons, List.map_nil]; rfl) ?_
  with_reducible refine (a_c HR.out ok).mono ?_
  rintro e wc ⟨rfl, hR⟩
  refine ⟨_, rfl, ?_⟩
  replace HR := Aside0.mk hR
  clear hR
  refine hK.out _ _ (HR.out.c1) (fun hHeld => ?_)
  clear hK K
  refine norm_ (a' := ?_) ?_ ?_
  rotate_left
  · show Act.put _ (some 6) _ = _
    simp only [Act.put, List.setIfInBounds_toArray, List.set_cons_zero, List.set_cons_succ, i64_w, i32_w]
    rfl
  refine one_ (i := 8) (N := some 13) #[true, true, true, true, true, true, true, true, true, false, false, false, false, false, false] rfl rfl (by kernel_rfl) (by decide) (fun K hK => ?_)
  refine goes_ Tryz.func100 (by kernel_rfl) rfl #[.pointer (some ⟨c.p, 0, none⟩)] (by rfl) rfl rfl (by simp only [List.map_toArray, List.map_cons, List.map_nil]; rfl) ?_
  with_reducible refine (word_c HR.out ok h0 (by omega)).mono ?_
  rintro e wc ⟨rfl, hR⟩
  refine ⟨_, rfl, ?_⟩
  replace HR := Aside0.mk hR
  clear hR
  refine hK.out _ _ (HR.out.c1) (fun hHeld => ?_)
  clear hK K
  refine norm_ (a' := ?_) ?_ ?_
  rotate_left
  · show Act.put _ (some 13) _ = _
    simp only [Act.put, List.setIfInBounds_toArray, List.set_cons_zero, List.set_cons_succ, i64_w, i32_w]
    rfl
  refine one_ (i := 9) (N := some 14) #[true, true, true, true, true, true, true, true, true, true, false, false, false, false, false] rfl rfl (by kernel_rfl) (by decide) (fun K hK => ?_)
  refine goes_ Tryz.func26 (by kernel_rfl) rfl #[.int .u16 (corI st.r.a), .int .u16 st.r.l, .int .u16 (rdW st c.v)] (by rfl) rfl rfl (by simp only [List.map_toArray, List.map_cons, List.map_nil]; rfl) ?_
  with_reducible refine (div_c _ _ _ (cor_b ok.a0 ok.a1).1 (by have := (cor_b ok.a0 ok.a1).2; omega) ok.l0 (by have := ok.l1; omega) (rdW_b ok c.v).1 (rdW_b ok c.v).2 _).mono ?_
  rintro e wc ⟨rfl, hR⟩
  refine ⟨_, rfl, ?_⟩
  replace HR := Aside0.mk (HR.out.drawn hR)
  clear hR
  refine hK.out _ _ (HR.out.c1) (fun hHeld => ?_)
  clear hK K
  refine norm_ (a' := ?_) ?_ ?_
  rotate_left
  · show Act.put _ (some 14) _ = _
    simp only [Act.put, List.setIfInBounds_toArray, List.set_cons_zero, List.set_cons_succ, i64_w, i32_w]
    rfl
  refine pure_ (i := 10) (N := some 4) (v := ?_) (a' := ?_) #[true, true, true, true, true, true, true, true, true, true, true, false, false, false, false] rfl rfl (by kernel_rfl) (fun _ _ _ h => h) (Or.inl ⟨by rfl, ?_⟩) ?_ ?_
  rotate_left
  · intro w'
    go_simp
    with_reducible rfl
  rotate_left
  · simp only [Act.put, List.setIfInBounds_toArray, List.set_cons_zero, List.set_cons_succ, i64_w, i32_w]
    rfl
  refine pure_ (i := 11) (N := some 15) (v := ?_) (a' := ?_) #[true, true, true, true, true, true, true, true, true, true, true, true, false, false, false] rfl rfl (by kernel_rfl) (fun _ _ _ h => h) (Or.inl ⟨by rfl, ?_⟩) ?_ ?_
  rotate_left
  · intro w'
    go_simp
    with_reducible rfl
  rotate_left
  · simp only [Act.put, List.setIfInBounds_toArray, List.set_cons_zero, List.set_cons_succ, i64_w, i32_w]
    rfl
  refine pure_ (i := 12) (N := some 16) (v := ?_) (a' := ?_) #[true, true, true, true, true, true, true, true, true, true, true, true, true, false, false] rfl rfl (by kernel_rfl) (fun _ _ _ h => h) (Or.inl ⟨by rfl, ?_⟩) ?_ ?_
  rotate_left
  · intro w'
    go_simp
    with_reducible rfl
  rotate_left
  · simp only [Act.put, List.setIfInBounds_toArray, List.set_cons_zero, List.set_cons_succ, i64_w, i32_w]
    rfl
  refine pure_ (i := 13) (N := some 2) (v := ?_) (a' := ?_) #[true, true, true, true, true, true, true, true, true, true, true, true, true, true, false] rfl rfl (by kernel_rfl) (fun _ _ _ h => h) (Or.inl ⟨by rfl, ?_⟩) ?_ ?_
  rotate_left
  · intro w'
    go_simp
    with_reducible rfl
  rotate_left
  · simp only [Act.put, List.setIfInBounds_toArray, List.set_cons_zero, List.set_cons_succ, i64_w, i32_w]
    rfl
  refine pure_ (i := 14) (N := some 3) (v := ?_) (a' := ?_) #[true, true, true, true, true, true, true, true, true, true, true, true, true, true, true] rfl rfl (by kernel_rfl) (fun _ _ _ h => h) (Or.inl ⟨by rfl, ?_⟩) ?_ ?_
  rotate_left
  · intro w'
    go_simp
    with_reducible rfl
  rotate_left
  · simp only [Act.put, List.setIfInBounds_toArray, List.set_cons_zero, List.set_cons_succ, i64_w, i32_w]
    rfl
  refine done_ (by kernel_rfl) ?_
  go_wp2_with (first | (go_at_call 110; (with_reducible refine at_args #[.pointer (some ⟨c.p, 0, none⟩), .int .u16 (divQ (corI st.r.a) st.r.l (rdW st c.v))] ?_); (with_reducible refine (set_c HR.out (divQ (corI st.r.a) st.r.l (rdW st c.v)) (divQ_b _ _ _).1 (divQ_b _ _ _).2).mono ?_); rintro e wc ⟨rfl, hR⟩; replace HR := Aside0.mk hR; clear hR) | (refine HR.out.e1 rfl _ _ _ rfl rfl _ rfl ?hi ?_; (case hi => kernel_rfl); intro wc hR; replace HR := Aside0.mk hR; clear hR))
  first | (go_end0; exact ⟨rfl, HR.out⟩) | ((try simp only [Exit.inBlock, Exit.then]); refine bodyPost_ret (results_none rfl _ _ _) rfl ⟨rfl, HR.out⟩) | (go_ret; exact ⟨rfl, HR.out⟩)
end
end Go.Proofs.YthfobpkdloejfaaGreat.Cpu
end
