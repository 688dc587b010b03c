/- Chapter 5: a part of its proof (cut by program out of CpuRD); no condition. -/
import Derived.BigQuiet
import Derived.Deep.QuietTactic
import Derived.Test.YthfobpkdloejfaaGreatSa12
import Derived.Test.YthfobpkdloejfaaGreatSa44
section
namespace Go.Proofs.YthfobpkdloejfaaGreat.Cpu
open Go.RowKit Go.Proofs.YthfobpkdloejfaaGreat.PAll Go.Proofs.YthfobpkdloejfaaGreat.One Go.Proofs.YthfobpkdloejfaaGreat.Mem Go.Proofs.YthfobpkdloejfaaGreat.Row Go.Proofs.YthfobpkdloejfaaGreatW.PrintWords Go.Proofs.YthfobpkdloejfaaGreatW.PrintLast Go.Proofs.YthfobpkdloejfaaGreatW.PrintMore Go.Proofs.YthfobpkdloejfaaGreat.Plain
attribute [local go_sem] max2_int min2_int max_two max_three min_three
set_option linter.unusedVariables false
set_option linter.unusedSimpArgs false
theorem rng_c (x : Int) (h0 : 0 ≤ x) (h1 : x < 65536) (w : World) : Calls Tryz.prog 62 #[.int .u16 x] w fun e w' => e = .returned (.bool (negB x)) ∧ Drawn0 w w' :=
  periluneref05_negative.calls x _ w (by unfold periluneref05_negative.f; rw [low_f x h0 h1]; rfl)
theorem rlow_c (x : Int) (h0 : 0 ≤ x) (h1 : x < 65536) (w : World) : Calls Tryz.prog 64 #[.int .u16 x] w fun e w' => e = .returned (.int .i64 (x % 32768)) ∧ Drawn0 w w' := periluneref01_Low.calls x _ w (low_f x h0 h1)
set_option maxRecDepth 100000 in
set_option maxHeartbeats 4000000 in
theorem rdiv_w (hi lo d : Int) (a0 : 0 ≤ hi) (a1 : hi < 65536) (b0 : 0 ≤ lo) (b1 : lo < 65536) (d0 : 0 ≤ d) (d1 : d < 65536) (z lt mi dn : Bool) (nv A M : Int) (hz : (valI hi == 0) = z) (hnv : 16384 * valI hi + valI lo = nv)
    (hA : (if nv < -nv then -nv else nv) = A) (hM : (if valI d < -(valI d) then -(valI d) else valI d) = M) (hlt : decide (A < 16384 * M) = lt) (hmi : (if z = true then negB lo else negB hi) = mi) (hdn : negB d = dn) (w : World) :
    Calls Tryz.prog 27 #[.int .u16 hi, .int .u16 lo, .int .u16 d] w fun e w' => e = .returned (.tuple #[.int .u16 (if (mi != dn) = true then negI (dQ A M lt) else dQ A M lt), .int .u16 (dR A M lo lt mi)]) ∧ Drawn0 w w' := by
  have vh := val_lo hi
  have vl := val_lo lo
  have vd := val_lo d
  have hA0 : 0 ≤ A ∧ A ≤ 268451840 := by subst hA; split <;> omega
  have hM0 : 0 ≤ M ∧ M ≤ 16383 := by subst hM; split <;> omega
  have VA := Lib.hid (rvalue_c hi a0 a1)
  have VB := Lib.hid (rvalue_c lo b0 b1)
  have VD := Lib.hid (rvalue_c d d0 d1)
  have GA := rng_c hi a0 a1
  have GB := rng_c lo b0 b1
  have GD := rng_c d d0 d1
  have LO := Lib.hid (rlow_c lo b0 b1)
  have w1 : wrap64 (16384 * valI hi) = 16384 * valI hi := by unfold wrap64; omega
  have w2 : wrap64 (16384 * valI hi + valI lo) = nv := by unfold wrap64; omega
  have w3 : wrap64 (-nv) = -nv := by unfold wrap64; omega
  have w4 : wrap64 (-(valI d)) = -(valI d) := by unfold wrap64; omega
  have w5 : wrap64 (16384 * M) = 16384 * M := by unfold wrap64; omega
  have f0 : IntKind.u16.wrap (lo % 32768) = lo % 32768 := u16w (by omega) (by omega)
  have hq : lt = true → 0 < M ∧ 0 ≤ A / M ∧ A / M < 16384 ∧ 0 ≤ A % M ∧ A % M < 16384 := by
    intro h; rw [h] at hlt; simp at hlt
    have hp : 0 < M := by omega
    refine ⟨hp, Int.ediv_nonneg hA0.1 hM0.1, Int.ediv_lt_of_lt_mul hp (by omega), Int.emod_nonneg _ (by omega), ?_⟩
    have := Int.emod_lt_of_pos A hp
    omega
  have bQ : 0 ≤ dQ A M lt ∧ dQ A M lt < 65536 := by unfold dQ; split; (next h => have := hq h; omega); omega
  have bR : 0 ≤ (if lt = true then A % M else lo % 32768) ∧ (if lt = true then A % M else lo % 32768) < 65536 := by split; (next h => have := hq h; omega); omega
  have NQ : ∀ w, Calls Tryz.prog 63 #[.int .u16 (dQ A M lt)] w fun e w' => e = .returned (.int .u16 (negI (dQ A M lt))) ∧ Drawn0 w w' := fun w => rneg_c _ bQ.1 bQ.2 w
  have NR : ∀ w, Calls Tryz.prog 63 #[.int .u16 (if lt = true then A % M else lo % 32768)] w fun e w' => e = .returned (.int .u16 (negI (if lt = true then A % M else lo % 32768))) ∧ Drawn0 w w' := fun w => rneg_c _ bR.1 bR.2 w
  have q1 : lt = true → wrap64 (Int.tdiv A M) = A / M ∧ IntKind.u16.wrap (A / M) = A / M ∧ Int.tmod A M = A % M ∧ IntKind.u16.wrap (A % M) = A % M ∧ M ≠ 0 := by
    intro h
    have := hq h
    have e1 : Int.tdiv A M = A / M := Int.tdiv_eq_ediv_of_nonneg hA0.1
    have e2 : Int.tmod A M = A % M := Int.tmod_eq_emod_of_nonneg hA0.1
    rw [e1, e2]
    exact ⟨by unfold wrap64; omega, u16w (by omega) (by omega), rfl, u16w (by omega) (by omega), by omega⟩
  clear hq hA0 hM0 bQ bR vh vl vd hnv
  rw [hdn] at GD
  cases z <;> cases lt <;> cases mi <;> cases dn
  all_goals
    simp only [Bool.false_eq_true, if_false, if_true, dQ, dR] at hmi NQ NR ⊢
    first | (rw [hmi] at GA; clear hmi) | (rw [hmi] at GB; clear hmi)
    replace GA := Lib.hid GA
    replace GB := Lib.hid GB
    replace GD := Lib.hid GD
    replace NQ := Lib.hid NQ
    replace NR := Lib.hid NR
    try (obtain ⟨q2, q3, q4, q5, q6⟩ := q1 rfl)
    try clear q1
    clear hdn
    go_enter Tryz.func27, Tryz.ntmps27
    first | go_upto_region 10 with (first | (go_at_call 61; (with_reducible refine at_args #[.int .u16 hi] ?_); (with_reducible refine (VA.out _).mono ?_); rintro e wc ⟨rfl, ⟨nd, rfl⟩⟩) | (go_at_call 61; (with_reducible refine at_args #[.int .u16 lo] ?_); (with_reducible refine (VB.out _).mono ?_); rintro e wc ⟨rfl, ⟨nd, rfl⟩⟩) | (go_at_call 61; (with_reducible refine at_args #[.int .u16 d] ?_); (with_reducible refine (VD.out _).mono ?_); rintro e wc ⟨rfl, ⟨nd, rfl⟩⟩) | (go_at_call 62; (with_reducible refine at_args #[.int .u16 hi] ?_); (with_reducible refine (GA.out _).mono ?_); rintro e wc ⟨rfl, ⟨nd, rfl⟩⟩) | (go_at_call 62; (with_reducible refine at_args #[.int .u16 lo] ?_); (with_reducible refine (GB.out _).mono ?_); rintro e wc ⟨rfl, ⟨nd, rfl⟩⟩) | (go_at_call 62; (with_reducible refine at_args #[.int .u16 d] ?_); (with_reducible refine (GD.out _).mono ?_); rintro e wc ⟨rfl, ⟨nd, rfl⟩⟩) | (go_at_call 64; (with_reducible refine at_args #[.int .u16 lo] ?_); (with_reducible refine (LO.out _).mono ?_); rintro e wc ⟨rfl, ⟨nd, rfl⟩⟩) | (go_at_call 63; (with_reducible refine (NQ.out _).mono ?_); rintro e wc ⟨rfl, ⟨nd, rfl⟩⟩) | (go_at_call 63; (with_reducible refine (NR.out _).mono ?_); rintro e wc ⟨rfl, ⟨nd, rfl⟩⟩)) | skip
    first | (go_quiet (fail)) | skip
    go_wp2_with (first | (go_at_call 61; (with_reducible refine at_args #[.int .u16 hi] ?_); (with_reducible refine (VA.out _).mono ?_); rintro e wc ⟨rfl, ⟨nd, rfl⟩⟩) | (go_at_call 61; (with_reducible refine at_args #[.int .u16 lo] ?_); (with_reducible refine (VB.out _).mono ?_); rintro e wc ⟨rfl, ⟨nd, rfl⟩⟩) | (go_at_call 61; (with_reducible refine at_args #[.int .u16 d] ?_); (with_reducible refine (VD.out _).mono ?_); rintro e wc ⟨rfl, ⟨nd, rfl⟩⟩) | (go_at_call 62; (with_reducible refine at_args #[.int .u16 hi] ?_); (with_reducible refine (GA.out _).mono ?_); rintro e wc ⟨rfl, ⟨nd, rfl⟩⟩) | (go_at_call 62; (with_reducible refine at_args #[.int .u16 lo] ?_); (with_reducible refine (GB.out _).mono ?_); rintro e wc ⟨rfl, ⟨nd, rfl⟩⟩) | (go_at_call 62; (with_reducible refine at_args #[.int .u16 d] ?_); (with_reducible refine (GD.out _).mono ?_); rintro e wc ⟨rfl, ⟨nd, rfl⟩⟩) | (go_at_call 64; (with_reducible refine at_args #[.int .u16 lo] ?_); (with_reducible refine (LO.out _).mono ?_); rintro e wc ⟨rfl, ⟨nd, rfl⟩⟩) | (go_at_call 63; (with_reducible refine (NQ.out _).mono ?_); rintro e wc ⟨rfl, ⟨nd, rfl⟩⟩) | (go_at_call 63; (with_reducible refine (NR.out _).mono ?_); rintro e wc ⟨rfl, ⟨nd, rfl⟩⟩))
    go_ret2
    exact ⟨rfl, by repeat (first | exact Drawn0.refl _ | apply Drawn0.step)⟩
theorem rdiv_c (hi lo d : Int) (a0 : 0 ≤ hi) (a1 : hi < 65536) (b0 : 0 ≤ lo) (b1 : lo < 65536) (d0 : 0 ≤ d) (d1 : d < 65536) (w : World) :
    Calls Tryz.prog 27 #[.int .u16 hi, .int .u16 lo, .int .u16 d] w fun e w' => e = .returned (.tuple #[.int .u16 (divQ hi lo d), .int .u16 (divR hi lo d)]) ∧ Drawn0 w w' := by
  have hA : ∀ x : Int, (if x < -x then -x else x) = absI x := fun x => by unfold absI; split <;> split <;> omega
  have h := rdiv_w hi lo d a0 a1 b0 b1 d0 d1 (valI hi == 0) (decide (absI (16384 * valI hi + valI lo) < 16384 * absI (valI d))) (divM hi lo) (negB d) (16384 * valI hi + valI lo) (absI (16384 * valI hi + valI lo)) (absI (valI d)) rfl rfl (hA _) (hA _) rfl (by unfold divM; by_cases h : valI hi = 0 <;> simp [h]) rfl w
  have e1 : (if (divM hi lo != negB d) = true then negI (dQ (absI (16384 * valI hi + valI lo)) (absI (valI d)) (decide (absI (16384 * valI hi + valI lo) < 16384 * absI (valI d)))) else dQ (absI (16384 * valI hi + valI lo)) (absI (valI d)) (decide (absI (16384 * valI hi + valI lo) < 16384 * absI (valI d)))) = divQ hi lo d := by
    unfold divQ dQ
    by_cases g : divM hi lo = negB d
    · simp [g]
    · simp [g]
  have e2 : dR (absI (16384 * valI hi + valI lo)) (absI (valI d)) lo (decide (absI (16384 * valI hi + valI lo) < 16384 * absI (valI d))) (divM hi lo) = divR hi lo d := by
    unfold divR dR
    simp
  rw [e1, e2] at h
  exact h
theorem w64_ {x : Int} (h0 : -9223372036854775808 ≤ x) (h1 : x < 9223372036854775808) : wrap64 x = x := by unfold wrap64; omega
theorem rmul_f (a b : Int) (a0 : 0 ≤ a) (a1 : a < 65536) (b0 : 0 ≤ b) (b1 : b < 65536) : periluneref05_Multiply.f a b = some (mulH a b, mulL a b) := by
  have va := val_lo a; have vb := val_lo b
  have hA : ∀ x : Int, -16383 ≤ x → x ≤ 16383 → mx x (wrap64 (-x)) = absI x := fun x h0 h1 => by unfold mx absI wrap64; split <;> split <;> omega
  have hp := prod_abs a b
  have h0 := abs_b (valI a * valI b)
  have n1 : periluneref05_negative.f a = some (negB a) := by unfold periluneref05_negative.f; rw [low_f a a0 a1]; rfl
  have n2 : periluneref05_negative.f b = some (negB b) := by unfold periluneref05_negative.f; rw [low_f b b0 b1]; rfl
  have v1 : periluneref01_Value.f a = some (valI a) := by unfold periluneref01_Value.f valI; rw [low_f a a0 a1]; simp only [Option.bind_some]; by_cases c : a % 32768 > 16383 <;> simp [c, w64_ (x := a % 32768 - 32767) (by omega) (by omega)]
  have v2 : periluneref01_Value.f b = some (valI b) := by unfold periluneref01_Value.f valI; rw [low_f b b0 b1]; simp only [Option.bind_some]; by_cases c : b % 32768 > 16383 <;> simp [c, w64_ (x := b % 32768 - 32767) (by omega) (by omega)]
  have ng : ∀ x : Int, 0 ≤ x → x < 65536 → periluneref01_Neg.f x = some (negI x) := fun x g0 g1 => by unfold periluneref01_Neg.f negI; rw [low_f x g0 g1]; simp only [Option.bind_some]; rw [w64_ (by omega) (by omega), u16w (by omega) (by omega)]
  unfold periluneref05_Multiply.f
  rw [v1, v2, n1, n2]
  simp only [Option.bind_some]
  rw [hA _ va.1 va.2, hA _ vb.1 vb.2, ← mul_abs, w64_ (x := absI (valI a * valI b)) (by omega) (by omega), Int.tdiv_eq_ediv_of_nonneg h0, Int.tmod_eq_emod_of_nonneg h0, w64_ (x := absI (valI a * valI b) / 16384) (by omega) (by omega), u16w (n := absI (valI a * valI b) / 16384) (by omega) (by omega), u16w (n := absI (valI a * valI b) % 16384) (by omega) (by omega), ng _ (by omega) (by omega), ng _ (by omega) (by omega)]
  unfold mulH mulL
  by_cases h : negB a = negB b
  · rw [if_pos h, if_pos h, if_neg (by simp [h])]
  · rw [if_neg h, if_neg h, if_pos (by simpa using h)]; rfl
set_option maxRecDepth 100000 in
set_option maxHeartbeats 4000000 in
theorem arith_law (a0 a1 a2 : Int) (w : World) (w0 : (Lit.int .u16 a0).wf = true) (w1 : (Lit.int .u16 a1).wf = true) (w2 : (Lit.int .u16 a2).wf = true) : Calls Tryz.prog 5 #[.int .u16 a0, .int .u16 a1, .int .u16 a2] w fun e w' => e = .returned (.bool true) ∧ Below w.heap.size w w' := by
  have HB := Aside0.mk (Below.refl w.heap.size w)
  simp [Lit.wf, IntKind.min, IntKind.max, IntKind.signed, IntKind.bits] at w0 w1 w2
  have KM := Aside0.mk (fun w : World => mult_c a0 a1 (by omega) (by omega) (by omega) (by omega) w)
  have KR := Aside0.mk (fun w : World => periluneref05_Multiply.calls a0 a1 _ _ w (rmul_f a0 a1 (by omega) (by omega) (by omega) (by omega)))
  have KD := Aside0.mk (fun w : World => div_c a0 a1 a2 (by omega) (by omega) (by omega) (by omega) (by omega) (by omega) w)
  have KE := Aside0.mk (fun w : World => rdiv_c a0 a1 a2 (by omega) (by omega) (by omega) (by omega) (by omega) (by omega) w)
  clear w0 w1 w2
  go_enter Tryz.func5, Tryz.ntmps5
  go_wp2_with (first | (go_at_call 24; (with_reducible refine (KM.out _).mono ?_); rintro e wd ⟨rfl, hd⟩; have hb := drawn_below hd; clear hd; replace HB := Aside0.mk (below_step HB.out hb); clear hb) | (go_at_call 25; (with_reducible refine (KR.out _).mono ?_); rintro e wd ⟨rfl, hb⟩; replace HB := Aside0.mk (below_step HB.out hb); clear hb) | (go_at_call 26; (with_reducible refine (KD.out _).mono ?_); rintro e wd ⟨rfl, hd⟩; have hb := drawn_below hd; clear hd; replace HB := Aside0.mk (below_step HB.out hb); clear hb) | (go_at_call 27; (with_reducible refine (KE.out _).mono ?_); rintro e wd ⟨rfl, hd⟩; have hb := drawn_below hd; clear hd; replace HB := Aside0.mk (below_step HB.out hb); clear hb) | (go_at_call 20; (with_reducible refine (works_c _).mono ?_); rintro e wd ⟨rfl, hb⟩; replace HB := Aside0.mk (below_step HB.out hb); clear hb))
  go_ret
  exact ⟨rfl, HB.out⟩
end Go.Proofs.YthfobpkdloejfaaGreat.Cpu
end
