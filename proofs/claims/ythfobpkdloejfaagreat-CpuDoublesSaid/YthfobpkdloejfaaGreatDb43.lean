/- Chapter 5: a part of its proof (cut by program out of CpuDb); no condition. -/
import Derived.Test.YthfobpkdloejfaaGreatDb40
import Derived.Test.YthfobpkdloejfaaGreatDb42
section
namespace Go.Proofs.YthfobpkdloejfaaGreat.Cpu
open Go.RowKit Go.Proofs.YthfobpkdloejfaaGreat.PAll Go.Proofs.YthfobpkdloejfaaGreat.One Go.Proofs.YthfobpkdloejfaaGreat.Mem Go.Proofs.YthfobpkdloejfaaGreatW.PrintWords Go.Proofs.YthfobpkdloejfaaGreatW.PrintLast Go.Proofs.YthfobpkdloejfaaGreatW.PrintMore Go.Proofs.YthfobpkdloejfaaGreat.Plain
set_option linter.unusedVariables false
set_option linter.unusedSimpArgs false
set_option linter.unusedSectionVars false
def accV (t : Int) : Int := if t ≤ 32767 then t else t - 65535
def ovS (t : Int) : Int := if t / 16384 = 1 then 1 else if t / 16384 = 2 then -1 else 0
theorem acc_ext {x : Int} (h0 : 0 ≤ x) (h1 : x ≤ 32767) : accV (extI x) = valI x := by
  unfold accV extI valI
  repeat' split
  all_goals omega
theorem acc_add {a b : Int} (a0 : 0 ≤ a) (a1 : a ≤ 65535) (b0 : 0 ≤ b) (b1 : b ≤ 65535) (hs : -32767 ≤ accV a + accV b) (ht : accV a + accV b ≤ 32767) : accV (addAccI a b) = accV a + accV b := by
  unfold accV addAccI at *
  split at hs <;> split at hs <;> split <;> split <;> omega
theorem acc_unit (t : Int) : accV (unitI t) = ovS t := by
  unfold accV unitI ovS
  split <;> (try split) <;> (try split) <;> omega
theorem acc_split {t : Int} (h0 : 0 ≤ t) (h1 : t ≤ 65535) : accV t = valI (corI t) + 16384 * ovS t := by
  unfold accV valI corI ovS
  split <;> split <;> (try split) <;> (try split) <;> omega
theorem over_val (t : Int) : valI (corI (unitI t)) = ovS t := by
  unfold unitI ovS
  split
  · rfl
  · split
    · rfl
    · rfl
theorem ovS_b (t : Int) : -1 ≤ ovS t ∧ ovS t ≤ 1 := by unfold ovS; split <;> (try split) <;> omega
def dT (l y : Int) : Int := addAccI (extI y) (extI l)
def dU (a l x y : Int) : Int := addAccI (addAccI (extI x) (extI a)) (unitI (dT l y))
section
variable {a l x y : Int} (a0 : 0 ≤ a) (a1 : a ≤ 32767) (l0 : 0 ≤ l) (l1 : l ≤ 32767) (x0 : 0 ≤ x) (x1 : x ≤ 32767) (y0 : 0 ≤ y) (y1 : y ≤ 32767)
include a0 a1 l0 l1 x0 x1 y0 y1
theorem dT_b : 0 ≤ dT l y ∧ dT l y ≤ 65535 := addAcc_b (ext_b y).1 (ext_b y).2 (ext_b l).1 (ext_b l).2
theorem dU_b : 0 ≤ dU a l x y ∧ dU a l x y ≤ 65535 := by
  have h := addAcc_b (ext_b x).1 (ext_b x).2 (ext_b a).1 (ext_b a).2
  have u := unit_b (dT l y)
  exact addAcc_b h.1 h.2 u.1 u.2
theorem das_sum : 16384 * (valI a + valI x) + valI l + valI y = 16384 * valI (corI (dU a l x y)) + valI (corI (dT l y)) + valI (corI (unitI (dU a l x y))) * 268435456 := by
  have va := val_lo a; have vl := val_lo l; have vx := val_lo x; have vy := val_lo y
  have eb := ext_b
  have e1 : accV (dT l y) = valI y + valI l := by
    have := acc_add (ext_b y).1 (ext_b y).2 (ext_b l).1 (ext_b l).2 (by rw [acc_ext y0 y1, acc_ext l0 l1]; omega) (by rw [acc_ext y0 y1, acc_ext l0 l1]; omega)
    rw [acc_ext y0 y1, acc_ext l0 l1] at this; exact this
  have h := addAcc_b (ext_b x).1 (ext_b x).2 (ext_b a).1 (ext_b a).2
  have e2 : accV (addAccI (extI x) (extI a)) = valI x + valI a := by
    have := acc_add (ext_b x).1 (ext_b x).2 (ext_b a).1 (ext_b a).2 (by rw [acc_ext x0 x1, acc_ext a0 a1]; omega) (by rw [acc_ext x0 x1, acc_ext a0 a1]; omega)
    rw [acc_ext x0 x1, acc_ext a0 a1] at this; exact this
  have ob := ovS_b (dT l y)
  have e3 : accV (dU a l x y) = valI x + valI a + ovS (dT l y) := by
    have := acc_add h.1 h.2 (unit_b (dT l y)).1 (unit_b (dT l y)).2 (by rw [e2, acc_unit]; omega) (by rw [e2, acc_unit]; omega)
    rw [e2, acc_unit] at this; exact this
  have s1 := acc_split (dT_b a0 a1 l0 l1 x0 x1 y0 y1).1 (dT_b a0 a1 l0 l1 x0 x1 y0 y1).2
  have s2 := acc_split (dU_b a0 a1 l0 l1 x0 x1 y0 y1).1 (dU_b a0 a1 l0 l1 x0 x1 y0 y1).2
  rw [over_val]
  omega
theorem das_over : -1 ≤ valI (corI (unitI (dU a l x y))) ∧ valI (corI (unitI (dU a l x y))) ≤ 1 := by rw [over_val]; exact ovS_b _
end
theorem cor_ext {y : Int} (h0 : 0 ≤ y) (h1 : y ≤ 32767) : corI (extI y) = y := by unfold corI extI; split <;> omega
def dbR (a l : Int) : Rg := ⟨extI a, l, 0, 2048, 0, 0, 0, false, 0, false, 0, false, false⟩
def dbX : Rg := ⟨0, 0, 0, 2048, 0, 0, 0, true, 0, false, 0, false, false⟩
def loadM (r : Rg) (v : Vw) (k : Int) : Int × List Sp × Int := if (locN r k).2 ≠ 0 then (0, [], (locN r k).2) else ((lookN r v (locN r k).1).1, if (lookN r v (locN r k).1).2 then [(locN r k).1] else [], 0)
theorem load_may {r : Rg} (hm : r.may = true) (v : Vw) (k : Int) : loadN r v k = loadM r v k := by unfold loadN loadM; rw [if_neg (by simp [hm])]
section
variable {a l : Int} (l0 : 0 ≤ l) (l1 : l ≤ 32767) (x y : Int)
include l0 l1
theorem das_m : (dbR a l).may = true := decide_eq_true ⟨l1, (by decide : (0 : Int) ≤ 32767), (by decide : (0 : Int) ≤ 32767), (by decide : (0 : Int) ≤ 32767), (by decide : (0 : Int) ≤ 2048 ∧ (2048 : Int) ≤ 4095), (by decide : (0 : Int) ≤ 0 ∧ (0 : Int) ≤ 7), (by decide : (0 : Int) ≤ 0 ∧ (0 : Int) ≤ 31), (by decide : (0 : Int) ≤ 0 ∧ (0 : Int) ≤ 7)⟩
theorem das_w : wdN (dbR a l) (atV 8292 x y) = 8292 := by unfold wdN; rw [if_neg (by simp [dbR]), load_may (das_m l0 l1)]; kernel_rfl
theorem das_l : fLst (dbR a l) (atV 8292 x y) = [⟨2, 2048⟩] := by unfold fLst; rw [if_neg (by simp [dbR]), load_may (das_m l0 l1)]; kernel_rfl
theorem das_f : fErr (dbR a l) (atV 8292 x y) = 0 := by unfold fErr; rw [if_neg (by simp [das_m l0 l1]), if_neg (by simp [dbR]), load_may (das_m l0 l1)]; kernel_rfl
theorem das_C : fC (dbR a l) (atV 8292 x y) = 7 := by unfold fC fW; rw [das_w l0 l1]; kernel_rfl
theorem das_K : fK (dbR a l) (atV 8292 x y) = 100 := by unfold fK fW; rw [das_w l0 l1, das_C l0 l1]; kernel_rfl
theorem das_e : sErr (dbR a l) (atV 8292 x y) = 0 := by unfold sErr; rw [das_f l0 l1, das_C l0 l1, das_K l0 l1]; kernel_rfl
theorem das_s : stepN (dbR a l) (atV 8292 x y) = ⟨⟨unitI (dU a l (x % 32768) (y % 32768)), 0, 0, 2049, 0, 0, 0, false, 0, false, 0, false, false⟩, [⟨101, corI (dT l (y % 32768)) % 32768⟩, ⟨100, corI (dU a l (x % 32768) (y % 32768)) % 32768⟩], [], [⟨2, 2048⟩, ⟨1, 101⟩, ⟨1, 100⟩], 3, 7, 100, ⟨1, 100⟩⟩ := by
  unfold stepN st1 st0
  rw [das_C l0 l1, das_K l0 l1, das_l l0 l1]
  kernel_rfl
end
theorem dca_e (x y : Int) : sErr dbX (atV 12388 x y) = 0 := by kernel_rfl
theorem dca_s (x y : Int) : stepN dbX (atV 12388 x y) = ⟨⟨extI (x % 32768), corI (extI (y % 32768)), 0, 2049, 0, 0, 0, false, 0, false, 0, false, false⟩, [], [], [⟨2, 2048⟩, ⟨1, 101⟩, ⟨1, 100⟩], 3, 34, 100, ⟨1, 100⟩⟩ := by kernel_rfl
theorem dcs_e (x y : Int) : sErr dbX (atV 16484 x y) = 0 := by kernel_rfl
theorem dcs_s (x y : Int) : stepN dbX (atV 16484 x y) = ⟨⟨negAccI (extI (x % 32768)), negI (corI (extI (y % 32768))), 0, 2049, 0, 0, 0, false, 0, false, 0, false, false⟩, [], [], [⟨2, 2048⟩, ⟨1, 101⟩, ⟨1, 100⟩], 3, 35, 100, ⟨1, 100⟩⟩ := by kernel_rfl
end Go.Proofs.YthfobpkdloejfaaGreat.Cpu
end
