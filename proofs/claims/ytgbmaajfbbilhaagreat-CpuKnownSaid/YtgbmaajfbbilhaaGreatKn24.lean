/- Chapter 5: a part of its proof (cut by program out of CpuL3, CpuL4); no condition. -/
import Derived.BigQuiet
import Derived.Deep.QuietTactic
import Derived.Test.YtgbmaajfbbilhaaGreatKn19
import Derived.Test.YtgbmaajfbbilhaaGreatKn23
set_option linter.unusedVariables false
set_option linter.unusedSimpArgs false
set_option linter.unusedSectionVars false
set_option maxRecDepth 100000
set_option maxHeartbeats 8000000
section
namespace Go.Proofs.YtgbmaajfbbilhaaGreat.Cpu
open Go.RowKit Go.Proofs.YtgbmaajfbbilhaaGreat.PAll Go.Proofs.YtgbmaajfbbilhaaGreat.One Go.Proofs.YtgbmaajfbbilhaaGreat.Mem Go.Proofs.YtgbmaajfbbilhaaGreat.Row Go.Proofs.YtgbmaajfbbilhaaGreatW.PrintWords Go.Proofs.YtgbmaajfbbilhaaGreatW.PrintLast Go.Proofs.YtgbmaajfbbilhaaGreatW.PrintMore Go.Proofs.YtgbmaajfbbilhaaGreat.Plain
section
variable {c : Cx} {n : Nat} {st : St} {w : World}
theorem xindex_c (h : c.P n st w) (ok : st.r.Ok) (h0 : 0 ≤ st.sp.f1) (hn : n ≤ 80) : Calls Tryz.prog 123 #[.pointer (some ⟨c.g, 0, none⟩)] w fun e w' => e = .returned (.tuple #[]) ∧ c.P (n + 1) (xXindex st c.v) w' := by
 have HR := Aside0.mk h
 clear h
 have xb := HR.out.bx
 have hu0 := Tryz.underlying124
 have hu1 := Tryz.underlying26
 have hu2 := Tryz.underlying34
 have hu3 := Tryz.underlying103
 have hu4 := Tryz.underlying29
 go_enter Tryz.func123, Tryz.ntmps123
 replace HR := Aside0.mk HR.out.drew
 refine start_ (n := 12) (S := fun w' => w'.cell? ⟨c.g, 0, none⟩ = some (.pointer (some ⟨c.p, 0, none⟩))) (ds := []) #[false, false, false, false, false, false, false, false, false, false, false, false] (by kernel_rfl) rfl rfl (HR.out.bx) (fun hHeld => ?_)
 generalize w.drew = wd at HR hHeld ⊢
 refine tkq_ 0 (some 1) rfl rfl hHeld ?_
 refine tkq_ 1 (some 2) rfl rfl hHeld ?_
 refine tkq_ 2 (some 3) rfl rfl hHeld ?_
 refine onq_ 3 (some 4) rfl rfl (fun K hK => ?_)
 refine goq_ Tryz.func122 #[.pointer (some ⟨c.p, 0, none⟩)] ?_
 with_reducible refine (word_c HR.out ok h0 (by omega)).mono ?_
 rintro e wc ⟨rfl, hR⟩
 refine ⟨_, rfl, ?_⟩
 replace HR := Aside0.mk hR
 clear hR
 refine hK.out _ _ (HR.out.bx) (fun hHeld => ?_)
 clear hK K
 refine nmq_ (some 4) ?_
 refine pvq_ 4 (some 5) rfl rfl ?_
 refine pvq_ 5 (some 6) rfl rfl ?_
 refine pvq_ 6 (some 7) rfl rfl ?_
 refine onq_ 7 none rfl rfl (fun K hK => ?_)
 refine skip_ (w1 := World.setCell wc ⟨c.p, 8, none⟩ (.int .u16 (rdW st c.v))) (by rfl) rfl ?_ ?_
 · exact run_store_cell _ _ _ rfl c.p 8 rfl (.int .u16 (rdW st c.v)) rfl _ HR.out.c8 (HR.out.fz 8) rfl rfl (by kernel_rfl)
 replace HR := Aside0.mk (HR.out.s8 (rdW st c.v))
 generalize World.setCell _ _ _ = wc at HR ⊢
 refine hK.out _ _ (HR.out.bx) (fun hHeld => ?_)
 clear hK K
 refine pvq_ 8 (some 8) rfl rfl ?_
 refine pvq_ 9 (some 9) rfl rfl ?_
 refine pvq_ 10 (some 10) rfl rfl ?_
 refine onq_ 11 none rfl rfl (fun K hK => ?_)
 refine skip_ (w1 := World.setCell wc ⟨c.p, 7, none⟩ (.bool (true))) (by rfl) rfl ?_ ?_
 · exact run_store_cell _ _ _ rfl c.p 7 rfl (.bool (true)) rfl _ HR.out.c7 (HR.out.fz 7) rfl rfl (by kernel_rfl)
 replace HR := Aside0.mk (HR.out.s7 (true))
 generalize World.setCell _ _ _ = wc at HR ⊢
 refine hK.out _ _ (HR.out.bx) (fun hHeld => ?_)
 clear hK K
 refine done_ (by kernel_rfl) ?_
 go_wp2
 first | (go_end0; exact ⟨rfl, HR.out⟩) | ((try simp only [Exit.inBlock, Exit.then]); refine bodyPost_ret (results_none rfl _ _ _) rfl ⟨rfl, HR.out⟩) | (go_ret; exact ⟨rfl, HR.out⟩)
def dQ (A M : Int) (lt : Bool) : Int := if lt = true then A / M else 16383
def dR (A M lo : Int) (lt mi : Bool) : Int := if lt = true then (if mi = true then negI (A % M) else A % M) else lo % 32768
theorem div_w (hi lo d : Int) (a0 : 0 ≤ hi) (a1 : hi < 65536) (b0 : 0 ≤ lo) (b1 : lo < 65536) (d0 : 0 ≤ d) (d1 : d < 65536) (z nn mm lt mi ag : Bool)
 (nv A M : Int) (hz : (valI hi == 0) = z) (hnv : 16384 * valI hi + valI lo = nv) (hnn : decide (nv < 0) = nn) (hmm : decide (valI d < 0) = mm)
 (hA : (if nn = true then -nv else nv) = A) (hM : (if mm = true then -(valI d) else valI d) = M) (hlt : decide (A < M * 16384) = lt)
 (hmi : (Go.bits .and .u16 (if z = true then lo else hi) 16384 != 0) = mi) (hag : (Go.bits .and .u16 (Go.bits .xor .u16 (if z = true then lo else hi) d) 16384 != 0) = ag) (w : World) :
 Calls Tryz.prog 22 #[.int .u16 hi, .int .u16 lo, .int .u16 d] w fun e w' => e = .returned (.tuple #[.int .u16 (if ag = true then negI (dQ A M lt) else dQ A M lt), .int .u16 (dR A M lo lt mi)]) ∧ Drawn0 w w' := by
 have vh := val_b hi
 have vl := val_b lo
 have vd := val_b d
 have hA0 : 0 ≤ A ∧ A ≤ 268451840 := by subst hA; cases nn <;> simp at hnn ⊢ <;> omega
 have hM0 : 0 ≤ M ∧ M ≤ 16384 := by subst hM; cases mm <;> simp at hmm ⊢ <;> omega
 have VA := Lib.hid (value_c hi a0 a1)
 have VB := Lib.hid (value_c lo b0 b1)
 have VD := Lib.hid (value_c d d0 d1)
 have w1 : wrap64 (valI hi * 16384) = valI hi * 16384 := by unfold wrap64; omega
 have w1b : IntKind.i64.wrap (valI hi * 16384) = valI hi * 16384 := by first | exact w1 | (rw [IntKind.wrap_i64]; omega)
 have w2 : wrap64 (valI hi * 16384 + valI lo) = nv := by unfold wrap64; omega
 have w3 : wrap64 (-nv) = -nv := by unfold wrap64; omega
 have w4 : wrap64 (-(valI d)) = -(valI d) := by unfold wrap64; omega
 have w5 : wrap64 (M * 16384) = M * 16384 := by unfold wrap64; omega
 have f0 : Go.bits .and .u16 lo 32767 = lo % 32768 := and_32767 b0 b1
 have hq : lt = true → 0 < M ∧ 0 ≤ A / M ∧ A / M < 16384 ∧ 0 ≤ A % M ∧ A % M < 16384 := by
  intro h; rw [h] at hlt; simp at hlt
  have hp : 0 < M := by omega
  refine ⟨hp, Int.ediv_nonneg hA0.1 hM0.1, Int.ediv_lt_of_lt_mul hp (by omega), Int.emod_nonneg _ (by omega), ?_⟩
  have := Int.emod_lt_of_pos A hp
  omega
 have bQ : 0 ≤ dQ A M lt ∧ dQ A M lt < 65536 := by unfold dQ; split; (next h => have := hq h; omega); omega
 have bR : 0 ≤ (if lt = true then A % M else lo % 32768) ∧ (if lt = true then A % M else lo % 32768) < 65536 := by split; (next h => have := hq h; omega); omega
 have NQ : ∀ w, Calls Tryz.prog 70 #[.int .u16 (dQ A M lt)] w fun e w' => e = .returned (.int .u16 (negI (dQ A M lt))) ∧ Drawn0 w w' := fun w => neg_c _ bQ.1 bQ.2 w
 have NR : ∀ w, Calls Tryz.prog 70 #[.int .u16 (if lt = true then A % M else lo % 32768)] w fun e w' => e = .returned (.int .u16 (negI (if lt = true then A % M else lo % 32768))) ∧ Drawn0 w w' := fun w => neg_c _ bR.1 bR.2 w
 have q1 : lt = true → wrap64 (Int.tdiv A M) = A / M ∧ IntKind.u16.wrap (A / M) = A / M ∧ Int.tmod A M = A % M ∧ IntKind.u16.wrap (A % M) = A % M ∧ M ≠ 0 := by
  intro h
  have := hq h
  have e1 : Int.tdiv A M = A / M := Int.tdiv_eq_ediv_of_nonneg hA0.1
  have e2 : Int.tmod A M = A % M := Int.tmod_eq_emod_of_nonneg hA0.1
  rw [e1, e2]
  exact ⟨by unfold wrap64; omega, u16w (by omega) (by omega), rfl, u16w (by omega) (by omega), by omega⟩
 clear hq hA0 hM0 bQ bR vh vl vd hnv
 cases z <;> cases nn <;> cases mm <;> cases lt <;> cases mi <;> cases ag
 all_goals
  simp only [Bool.false_eq_true, if_false, if_true, dQ, dR] at hA hM hmi hag NQ NR ⊢
  first | (replace w3 : wrap64 (-nv) = A := w3.trans hA; clear hA) | subst hA
  first | (replace w4 : wrap64 (-(valI d)) = M := w4.trans hM; clear hM) | subst hM
  replace NQ := Lib.hid NQ
  replace NR := Lib.hid NR
  try (obtain ⟨q2, q3, q4, q5, q6⟩ := q1 rfl)
  try clear q1
  go_enter Tryz.func22, Tryz.ntmps22
  first | go_upto_region 12 with (first | (go_at_call 69; (with_reducible refine at_args #[.int .u16 hi] ?_); (with_reducible refine (VA.out _).mono ?_); rintro e wc ⟨rfl, ⟨nd, rfl⟩⟩) | (go_at_call 69; (with_reducible refine at_args #[.int .u16 lo] ?_); (with_reducible refine (VB.out _).mono ?_); rintro e wc ⟨rfl, ⟨nd, rfl⟩⟩) | (go_at_call 69; (with_reducible refine at_args #[.int .u16 d] ?_); (with_reducible refine (VD.out _).mono ?_); rintro e wc ⟨rfl, ⟨nd, rfl⟩⟩) | (go_at_call 70; (with_reducible refine (NQ.out _).mono ?_); rintro e wc ⟨rfl, ⟨nd, rfl⟩⟩) | (go_at_call 70; (with_reducible refine (NR.out _).mono ?_); rintro e wc ⟨rfl, ⟨nd, rfl⟩⟩)) | skip
  first | (go_quiet (fail)) | skip
  go_wp2_with (first | (go_at_call 69; (with_reducible refine at_args #[.int .u16 hi] ?_); (with_reducible refine (VA.out _).mono ?_); rintro e wc ⟨rfl, ⟨nd, rfl⟩⟩) | (go_at_call 69; (with_reducible refine at_args #[.int .u16 lo] ?_); (with_reducible refine (VB.out _).mono ?_); rintro e wc ⟨rfl, ⟨nd, rfl⟩⟩) | (go_at_call 69; (with_reducible refine at_args #[.int .u16 d] ?_); (with_reducible refine (VD.out _).mono ?_); rintro e wc ⟨rfl, ⟨nd, rfl⟩⟩) | (go_at_call 70; (with_reducible refine (NQ.out _).mono ?_); rintro e wc ⟨rfl, ⟨nd, rfl⟩⟩) | (go_at_call 70; (with_reducible refine (NR.out _).mono ?_); rintro e wc ⟨rfl, ⟨nd, rfl⟩⟩))
  go_ret2
  exact ⟨rfl, by repeat (first | exact Drawn0.refl _ | apply Drawn0.step)⟩
end
end Go.Proofs.YtgbmaajfbbilhaaGreat.Cpu
end
section
namespace Go.Proofs.YtgbmaajfbbilhaaGreat.Cpu
open Go.RowKit Go.Proofs.YtgbmaajfbbilhaaGreat.PAll Go.Proofs.YtgbmaajfbbilhaaGreat.One Go.Proofs.YtgbmaajfbbilhaaGreat.Mem Go.Proofs.YtgbmaajfbbilhaaGreat.Row Go.Proofs.YtgbmaajfbbilhaaGreatW.PrintWords Go.Proofs.YtgbmaajfbbilhaaGreatW.PrintLast Go.Proofs.YtgbmaajfbbilhaaGreatW.PrintMore Go.Proofs.YtgbmaajfbbilhaaGreat.Plain
section
variable {c : Cx} {n : Nat} {st : St} {w : World}
theorem and_14 {a : Int} (a0 : 0 ≤ a) (a1 : a < 65536) : (Go.bits .and .u16 a 16384 != 0) = negB a := by
 rw [and_16384 a0 a1]; unfold negB; rw [Bool.eq_iff_iff]; simp; omega
theorem div_c (hi lo d : Int) (a0 : 0 ≤ hi) (a1 : hi < 65536) (b0 : 0 ≤ lo) (b1 : lo < 65536) (d0 : 0 ≤ d) (d1 : d < 65536) (w : World) :
 Calls Tryz.prog 22 #[.int .u16 hi, .int .u16 lo, .int .u16 d] w fun e w' => e = .returned (.tuple #[.int .u16 (divQ hi lo d), .int .u16 (divR hi lo d)]) ∧ Drawn0 w w' := by
 have hL : negB (if (valI hi == 0) = true then lo else hi) = divM hi lo := by unfold divM; by_cases h : valI hi = 0 <;> simp [h]
 have l0 : 0 ≤ (if (valI hi == 0) = true then lo else hi) := by split <;> assumption
 have l1 : (if (valI hi == 0) = true then lo else hi) < 65536 := by split <;> assumption
 have h := div_w hi lo d a0 a1 b0 b1 d0 d1 (valI hi == 0) (decide (16384 * valI hi + valI lo < 0)) (decide (valI d < 0)) (decide (absI (16384 * valI hi + valI lo) < absI (valI d) * 16384)) (divM hi lo) (divM hi lo != negB d) (16384 * valI hi + valI lo) (absI (16384 * valI hi + valI lo)) (absI (valI d)) rfl rfl rfl rfl (by unfold absI; simp) (by unfold absI; simp) rfl ((and_14 l0 l1).trans hL) (by rw [xor_14 l0 l1 d0 d1, hL]) w
 have e1 : (if (divM hi lo != negB d) = true then negI (dQ (absI (16384 * valI hi + valI lo)) (absI (valI d)) (decide (absI (16384 * valI hi + valI lo) < absI (valI d) * 16384))) else dQ (absI (16384 * valI hi + valI lo)) (absI (valI d)) (decide (absI (16384 * valI hi + valI lo) < absI (valI d) * 16384))) = divQ hi lo d := by
  unfold divQ dQ
  rw [Int.mul_comm 16384 (absI (valI d))]
  by_cases g : divM hi lo = negB d
  · simp [g]
  · simp [g]
 have e2 : dR (absI (16384 * valI hi + valI lo)) (absI (valI d)) lo (decide (absI (16384 * valI hi + valI lo) < absI (valI d) * 16384)) (divM hi lo) = divR hi lo d := by
  unfold divR dR
  rw [Int.mul_comm 16384 (absI (valI d))]
  simp
 rw [e1, e2] at h
 exact h
theorem divQ_b (hi lo d : Int) : 0 ≤ divQ hi lo d ∧ divQ hi lo d < 65536 := by
 have h0 := abs_b (16384 * valI hi + valI lo)
 have h1 := abs_b (valI d)
 have hq : 0 ≤ (if absI (16384 * valI hi + valI lo) < 16384 * absI (valI d) then absI (16384 * valI hi + valI lo) / absI (valI d) else 16383) ∧ (if absI (16384 * valI hi + valI lo) < 16384 * absI (valI d) then absI (16384 * valI hi + valI lo) / absI (valI d) else 16383) < 65536 := by
  split
  · rename_i h
    have hp : 0 < absI (valI d) := by omega
    have := Int.ediv_lt_of_lt_mul (a := absI (16384 * valI hi + valI lo)) (b := 16384) hp (by omega)
    exact ⟨Int.ediv_nonneg h0 h1, by omega⟩
  · omega
 unfold divQ
 split
 · exact hq
 · have := neg_b (if absI (16384 * valI hi + valI lo) < 16384 * absI (valI d) then absI (16384 * valI hi + valI lo) / absI (valI d) else 16383)
   omega
theorem dv_c (h : c.P n st w) (ok : st.r.Ok) (h0 : 0 ≤ st.sp.f1) (hn : n ≤ 80) : Calls Tryz.prog 137 #[.pointer (some ⟨c.p, 0, none⟩)] w fun e w' => e = .returned (.tuple #[]) ∧ c.P (n + 1) (xDv st c.v) w' := by
 have HR := Aside0.mk h
 clear h
 have hu0 := Tryz.underlying124
 have hu1 := Tryz.underlying26
 have hu2 := Tryz.underlying34
 have hu3 := Tryz.underlying103
 have hu4 := Tryz.underlying29
 go_enter Tryz.func137, Tryz.ntmps137
 go_upto_region 0 with (first | fail)
 replace HR := Aside0.mk HR.out.drew
 refine start_ (n := 15) (S := fun w' => w'.cell? ⟨c.p, 1, none⟩ = some (.int .u16 st.r.l)) (ds := []) #[false, false, false, false, false, false, false, false, false, false, false, false, false, false, false] (by kernel_rfl) rfl rfl (HR.out.c1) (fun hHeld => ?_)
 generalize w.drew = wd at HR hHeld ⊢
 refine pvq_ 0 (some 5) rfl rfl ?_
 refine pvq_ 2 (some 7) rfl rfl ?_
 refine pvq_ 3 (some 8) rfl rfl ?_
 refine pvq_ 4 (some 9) rfl rfl ?_
 refine pvq_ 5 (some 10) rfl rfl ?_
 refine pvq_ 7 (some 12) rfl rfl ?_
 refine tkq_ 6 (some 11) rfl rfl hHeld ?_
 refine onq_ 1 (some 6) rfl rfl (fun K hK => ?_)
 refine goq_ Tryz.func133 #[.pointer (some ⟨c.p, 0, none⟩)] ?_
 with_reducible refine (a_c HR.out ok).mono ?_
 rintro e wc ⟨rfl, hR⟩
 refine ⟨_, rfl, ?_⟩
 replace HR := Aside0.mk hR
 clear hR
 refine hK.out _ _ (HR.out.c1) (fun hHeld => ?_)
 clear hK K
 refine nmq_ (some 6) ?_
 refine onq_ 8 (some 13) rfl rfl (fun K hK => ?_)
 refine goq_ Tryz.func122 #[.pointer (some ⟨c.p, 0, none⟩)] ?_
 with_reducible refine (word_c HR.out ok h0 (by omega)).mono ?_
 rintro e wc ⟨rfl, hR⟩
 refine ⟨_, rfl, ?_⟩
 replace HR := Aside0.mk hR
 clear hR
 refine hK.out _ _ (HR.out.c1) (fun hHeld => ?_)
 clear hK K
 refine nmq_ (some 13) ?_
 refine onq_ 9 (some 14) rfl rfl (fun K hK => ?_)
 refine goq_ Tryz.func22 #[.int .u16 (corI st.r.a), .int .u16 st.r.l, .int .u16 (rdW st c.v)] ?_
 with_reducible refine (div_c _ _ _ (cor_b ok.a0 ok.a1).1 (by have := (cor_b ok.a0 ok.a1).2; omega) ok.l0 (by have := ok.l1; omega) (rdW_b ok c.v).1 (rdW_b ok c.v).2 _).mono ?_
 rintro e wc ⟨rfl, hR⟩
 refine ⟨_, rfl, ?_⟩
 replace HR := Aside0.mk (HR.out.drawn hR)
 clear hR
 refine hK.out _ _ (HR.out.c1) (fun hHeld => ?_)
 clear hK K
 refine nmq_ (some 14) ?_
 refine pvq_ 10 (some 4) rfl rfl ?_
 refine pvq_ 11 (some 15) rfl rfl ?_
 refine pvq_ 12 (some 16) rfl rfl ?_
 refine pvq_ 13 (some 2) rfl rfl ?_
 refine pvq_ 14 (some 3) rfl rfl ?_
 refine done_ (by kernel_rfl) ?_
 go_wp2_with (first | (go_at_call 132; (with_reducible refine at_args #[.pointer (some ⟨c.p, 0, none⟩), .int .u16 (divQ (corI st.r.a) st.r.l (rdW st c.v))] ?_); (with_reducible refine (set_c HR.out (divQ (corI st.r.a) st.r.l (rdW st c.v)) (divQ_b _ _ _).1 (divQ_b _ _ _).2).mono ?_); rintro e wc ⟨rfl, hR⟩; replace HR := Aside0.mk hR; clear hR) | (refine HR.out.e1 rfl _ _ _ rfl rfl _ rfl ?hi ?_; (case hi => kernel_rfl); intro wc hR; replace HR := Aside0.mk hR; clear hR))
 first | (go_end0; exact ⟨rfl, HR.out⟩) | ((try simp only [Exit.inBlock, Exit.then]); refine bodyPost_ret (results_none rfl _ _ _) rfl ⟨rfl, HR.out⟩) | (go_ret; exact ⟨rfl, HR.out⟩)
end
end Go.Proofs.YtgbmaajfbbilhaaGreat.Cpu
end
