/- Chapter 5: a part of its proof (cut by program out of CpuCa); no condition. -/
import Derived.Test.YthfobpkdloejfaaGreatSa37
section
namespace Go.Proofs.YthfobpkdloejfaaGreat.Cpu
open Go.RowKit Go.Proofs.YthfobpkdloejfaaGreat.PAll Go.Proofs.YthfobpkdloejfaaGreat.One Go.Proofs.YthfobpkdloejfaaGreat.Mem Go.Proofs.YthfobpkdloejfaaGreatW.PrintWords Go.Proofs.YthfobpkdloejfaaGreatW.PrintLast Go.Proofs.YthfobpkdloejfaaGreatW.PrintMore Go.Proofs.YthfobpkdloejfaaGreat.Plain
set_option linter.unusedVariables false
set_option linter.unusedSimpArgs false
set_option linter.unusedSectionVars false
theorem ext_small {x : Int} (h0 : 0 ≤ x) (h1 : x ≤ 16383) : extI x = x := by unfold extI; rw [if_neg (by omega)]; omega
theorem cor_small {x : Int} (h0 : 0 ≤ x) (h1 : x ≤ 16383) : corI x = x := by unfold corI; omega
theorem add_zero_ {x : Int} (h0 : 0 ≤ x) (h1 : x ≤ 32767) : addI x 0 = x := by unfold addI; rw [if_neg (by omega)]; omega
theorem dec_tc {w : Int} (h0 : 0 ≤ w) (h1 : w < 4096) (n3 : w ≠ 3) (n4 : w ≠ 4) (n6 : w ≠ 6) : Isa.decN w false = 1 := by
  unfold Isa.decN Isa.decB
  rw [if_neg (by decide), if_neg n3, if_neg n4, if_neg n6, if_neg (by omega), if_pos h1]
theorem base_1 : Isa.baseN 1 = 0 := by kernel_rfl
theorem spot_1 : spotted 1 = false := by kernel_rfl
theorem cyc_1 : cycN 1 = 1 := by kernel_rfl
theorem tc_gen {r : Rg} {v : Vw} {w : Int} {l : List Sp} (hw : fW r v = w) (hx : r.ext = false) (h0 : 0 ≤ w) (h1 : w < 4096) (n3 : w ≠ 3) (n4 : w ≠ 4) (n6 : w ≠ 6) (he : fErr r v = 0) (hl : fLst r v = l) :
    sErr r v = 0 ∧ stepN r v = ⟨{ nxR r with b := if w = 2 then r.q else 0, held := if w = 2 then true else false, q := (r.z + 1) % 4096, z := w }, [], [], l, 1, 1, w, ⟨0, 0⟩⟩ := by
  have hc : fC r v = 1 := by unfold fC; rw [hw, hx]; exact dec_tc h0 h1 n3 n4 n6
  have hk : fK r v = w := by unfold fK; rw [hc, hw, base_1]; omega
  refine ⟨?_, ?_⟩
  · unfold sErr; rw [if_neg (by omega), hc, spot_1]; rfl
  · unfold stepN st1
    rw [hc, spot_1]
    rw [if_neg (by decide)]
    unfold st0
    rw [hc, hk, hl, cyc_1]
    rfl
theorem loc_ff {r : Rg} (ok : r.Ok) {k : Int} (h0 : 2048 ≤ k) (h1 : k ≤ 4095) : locN r k = (⟨2, k⟩, 0) := by
  have := ok.e0; have := ok.e1; have := ok.f0; have := ok.f1; have := ok.s0; have := ok.s1
  have hb : 0 ≤ bankN r.fb r.su ∧ bankN r.fb r.su ≤ 35 := by unfold bankN; repeat' split
                                                             all_goals omega
  have hg : ¬ (k < 0 ∨ k > 4095 ∨ r.eb < 0 ∨ r.eb > 7 ∨ bankN r.fb r.su < 0 ∨ bankN r.fb r.su > 35) := by omega
  unfold locN absX absA absE
  rw [if_neg (by omega), if_neg hg, if_neg hg, if_neg hg, if_neg (by omega), if_neg (by omega), if_neg (by omega), if_neg (by omega)]
theorem fetch_ff {r : Rg} (ok : r.Ok) (v : Vw) (hh : r.held = false) (hi : r.idx = 0) (h0 : 2048 ≤ r.z) {x : Int} (hx : rd v.f r.z = x) (hl : r.z < (v.f.length : Int)) (x0 : 0 ≤ x) (x1 : x ≤ 16383) :
    fW r v = x ∧ fErr r v = 0 ∧ fLst r v = [⟨2, r.z⟩] := by
  have hm := ok.may
  have lk : lookN r v ⟨2, r.z⟩ = (x, true) := by
    unfold lookN elemN
    rw [if_pos rfl, if_pos hl, hx]
    have : x % 32768 = x := by omega
    rw [this, ext_small x0 x1]
  have ld : loadN r v r.z = (x, [⟨2, r.z⟩], 0) := by
    unfold loadN
    rw [if_neg (by simp [hm]), loc_ff ok h0 ok.z1, if_neg (by simp), lk]; rfl
  refine ⟨?_, ?_, ?_⟩
  · unfold fW wdN; rw [if_neg (by simp [hh]), ld, hi, cor_small x0 x1, add_zero_ x0 (by omega)]
  · unfold fErr; rw [if_neg (by simp [hm]), if_neg (by simp [hh]), ld]
  · unfold fLst; rw [if_neg (by simp [hh]), ld]
def caF (a b : Int) : List Int := ((List.replicate 4096 0).set b.toNat 2).set a.toNat b
def caV (a b : Int) : Vw := ⟨[], caF a b, []⟩
def caR (a : Int) : Rg := ⟨5, 0, 0, a, 0, 0, 0, false, 0, false, 0, false, false⟩
section
variable {a b : Int} (a0 : 2048 ≤ a) (a1 : a ≤ 4094) (b0 : 2048 ≤ b) (b1 : b ≤ 4095)
include a0 a1 b0 b1
theorem ca_len : ((caF a b).length : Int) = 4096 := by unfold caF; rw [List.length_set, List.length_set, List.length_replicate]; rfl
theorem ca_a : rd (caF a b) a = b := by
  unfold rd caF
  rw [List.getD_eq_getElem?_getD, List.getElem?_set_self (by rw [List.length_set, List.length_replicate]; omega)]
  rfl
theorem ca_b (hn : a ≠ b) : rd (caF a b) b = 2 := by
  unfold rd caF
  rw [List.getD_eq_getElem?_getD, List.getElem?_set_ne (by omega), List.getElem?_set_self (by rw [List.length_replicate]; omega)]
  rfl
theorem ok_1 : (caR a).Ok := by
  constructor <;> (first | (simp only [caR]; omega) | simp [caR])
def caR1 (a b : Int) : Rg := ⟨5, 0, a + 1, b, 0, 0, 0, false, 0, false, 0, false, false⟩
def caR2 (a b : Int) : Rg := ⟨5, 0, (b + 1) % 4096, 2, 0, 0, 0, false, 0, true, a + 1, false, false⟩
def caR3 (a : Int) : Rg := ⟨5, 0, 3, a + 1, 0, 0, 0, false, 0, false, 0, false, false⟩
theorem ca_1 : sErr (caR a) (caV a b) = 0 ∧ stepN (caR a) (caV a b) = ⟨caR1 a b, [], [], [⟨2, a⟩], 1, 1, b, ⟨0, 0⟩⟩ := by
  have ok := ok_1 a0 a1 b0 b1
  obtain ⟨f1, f2, f3⟩ := fetch_ff ok (caV a b) rfl rfl a0 (x := b) (ca_a a0 a1 b0 b1) (by have := ca_len a0 a1 b0 b1; show a < ((caF a b).length : Int); omega) (by omega) (by omega)
  obtain ⟨g1, g2⟩ := tc_gen f1 rfl (by omega) (by omega) (by omega) (by omega) (by omega) f2 f3
  refine ⟨g1, ?_⟩
  rw [g2, if_neg (by omega), if_neg (by omega)]
  have : (a + 1) % 4096 = a + 1 := by omega
  show (⟨⟨5, 0, (a + 1) % 4096, b, 0, 0, 0, false, 0, false, 0, false, false⟩, [], [], [⟨2, a⟩], 1, 1, b, ⟨0, 0⟩⟩ : St) = _
  rw [this]; rfl
theorem ok_2 : (caR1 a b).Ok := by
  constructor <;> (first | (simp only [caR1]; omega) | simp [caR1])
theorem ca_2 (hn : a ≠ b) : sErr (caR1 a b) (caV a b) = 0 ∧ stepN (caR1 a b) (caV a b) = ⟨caR2 a b, [], [], [⟨2, b⟩], 1, 1, 2, ⟨0, 0⟩⟩ := by
  have ok := ok_2 a0 a1 b0 b1
  obtain ⟨f1, f2, f3⟩ := fetch_ff ok (caV a b) rfl rfl b0 (x := 2) (ca_b a0 a1 b0 b1 hn) (by have := ca_len a0 a1 b0 b1; show b < ((caF a b).length : Int); omega) (by decide) (by decide)
  obtain ⟨g1, g2⟩ := tc_gen f1 rfl (by decide) (by decide) (by decide) (by decide) (by decide) f2 f3
  exact ⟨g1, g2⟩
theorem ok_3 : (caR2 a b).Ok := by
  constructor <;> (first | (simp only [caR2]; omega) | simp [caR2])
theorem ca_3 : sErr (caR2 a b) (caV a b) = 0 ∧ stepN (caR2 a b) (caV a b) = ⟨caR3 a, [], [], [], 1, 1, a + 1, ⟨0, 0⟩⟩ := by
  have ok := ok_3 a0 a1 b0 b1
  have f1 : fW (caR2 a b) (caV a b) = a + 1 := by
    show addI (a + 1) 0 = a + 1
    exact add_zero_ (by omega) (by omega)
  have f2 : fErr (caR2 a b) (caV a b) = 0 := by unfold fErr; rw [if_neg (by simp [ok.may])]; rfl
  obtain ⟨g1, g2⟩ := tc_gen f1 rfl (by omega) (by omega) (by omega) (by omega) (by omega) f2 (l := []) rfl
  refine ⟨g1, ?_⟩
  rw [g2, if_neg (by omega), if_neg (by omega)]
  rfl
theorem enc_b : (Isa.encN 1 b).1 = b := by
  unfold Isa.encN
  rw [if_pos (by decide), if_pos ⟨by rw [Isa.tb_1.1]; omega, by rw [Isa.tb_1.2.1]; omega, by simp [Isa.resN]; omega⟩, base_1]
  omega
end
end Go.Proofs.YthfobpkdloejfaaGreat.Cpu
end
