/- What the functions of onescomp and of its reference compute, as whole numbers, and their contracts; no condition but the ranges of the kinds. -/
import Derived.Test.YtipcnefiadnlmaaF3
import Derived.Test.YtipcnefiadnlmaaBits2
import Derived.Lib.Hide
import Derived.Laws.EntriesVeiled
namespace Go.Proofs.Ytipcnefiadnlmaa.One
open Go.RowKit Go.Proofs.Ytipcnefiadnlmaa.PAll Go.Proofs.YtipcnefiadnlmaaW.PrintWords Go.Proofs.YtipcnefiadnlmaaW.PrintLast Go.Proofs.YtipcnefiadnlmaaW.PrintMore Go.Proofs.Ytipcnefiadnlmaa.Plain
set_option linter.unusedVariables false
set_option linter.unusedSimpArgs false
set_option linter.unusedSectionVars false
def valI (x : Int) : Int := if x % 32768 > 16383 then x % 32768 - 32767 else x % 32768
def negI (x : Int) : Int := 32767 - x % 32768
def addI (a b : Int) : Int := if a % 32768 + b % 32768 > 32767 then a % 32768 + b % 32768 - 32767 else a % 32768 + b % 32768
def extI (x : Int) : Int := if x % 32768 > 16383 then x % 32768 + 32768 else x % 32768
def addAccI (a b : Int) : Int := if a + b > 65535 then a + b - 65535 else a + b
def negAccI (a : Int) : Int := 65535 - a
def ovI (a : Int) : Int := a / 16384 % 2 - a / 32768
def corI (a : Int) : Int := a / 32768 * 16384 + a % 16384
def clsI (a : Int) : Int := if a = 0 then 1 else if a = 65535 then 3 else if a ≤ 32767 then 0 else 2
def dimI (a : Int) : Int := if a ≤ 32767 then (if a = 0 then 0 else a - 1) else (if a = 65535 then 0 else 65534 - a)
def crI (x : Int) : Int := x % 2 * 16384 + x % 32768 / 2
def clI (x : Int) : Int := x % 16384 * 2 + x % 32768 / 16384
def srI (x : Int) : Int := x % 32768 / 16384 * 16384 + x % 32768 / 2
def opI (x : Int) : Int := x % 32768 / 128 % 128
def editI (k x : Int) : Int := if k = 16 then crI x else if k = 17 then srI x else if k = 18 then clI x else if k = 19 then opI x else x % 32768
def tdI (a b : Int) : Int := if (a % 32768 - b % 32768 + 32768) % 32768 ≤ 16384 then (a % 32768 - b % 32768 + 32768) % 32768 else (a % 32768 - b % 32768 + 32768) % 32768 - 1
def ofI (n : Int) : Int := if n < -16383 ∨ n > 16383 then 0 else if n < 0 then n + 32767 else n
def ofE (n : Int) : Int := if n < -16383 ∨ n > 16383 then 3 else 0
section
variable (x y : Int) (h0 : 0 ≤ x) (h1 : x < 65536) (k0 : 0 ≤ y) (k1 : y < 65536) (w : World)
include h0 h1
theorem low_f : periluneref01_Low.f x = some (x % 32768) := by
  unfold periluneref01_Low.f; rw [w64 (by omega) (by omega), tmodp h0]
theorem value_f : onescomp_Value.f x = some (valI x) := by
  unfold onescomp_Value.f valI
  have a : 0 ≤ x % 32768 ∧ x % 32768 < 32768 := by omega
  rw [and_32767 h0 h1, and_16384 (x := x % 32768) (by omega) (by omega), u16w (n := 32767 - x % 32768) (by omega) (by omega)]
  by_cases c : x % 32768 > 16383
  · rw [if_neg (by omega), if_pos c, w64 (n := 32767 - x % 32768) (by omega) (by omega), w64 (by omega) (by omega)]; congr 1; omega
  · rw [if_pos (by omega), if_neg c, w64 (by omega) (by omega)]
theorem value_c : Calls Try.prog 26 #[.int .u16 x] w fun e w' => e = .returned (.int .i64 (valI x)) ∧ Drawn0 w w' := onescomp_Value.calls _ _ w (value_f x h0 h1)
theorem rvalue_c : Calls Try.prog 27 #[.int .u16 x] w fun e w' => e = .returned (.int .i64 (valI x)) ∧ Drawn0 w w' := by
  refine periluneref01_Value.calls _ _ w ?_
  unfold periluneref01_Value.f valI
  rw [low_f x h0 h1]; simp only [Option.bind_some]
  by_cases c : x % 32768 > 16383
  · rw [if_pos c, if_pos c, w64 (by omega) (by omega)]
  · rw [if_neg c, if_neg c]
theorem rneg_c : Calls Try.prog 29 #[.int .u16 x] w fun e w' => e = .returned (.int .u16 (negI x)) ∧ Drawn0 w w' := by
  refine periluneref01_Neg.calls _ _ w ?_
  unfold periluneref01_Neg.f negI
  rw [low_f x h0 h1]; simp only [Option.bind_some]
  rw [w64 (by omega) (by omega), u16w (by omega) (by omega)]
theorem neg_c : Calls Try.prog 28 #[.int .u16 x] w fun e w' => e = .returned (.int .u16 (negI x)) ∧ Drawn0 w w' := by
  have hs : IntKind.u16.signed = false := rfl
  have hn := not16 h0 h1
  have hm : Go.bits .and .u16 (65535 - x) 32767 = negI x := by rw [and_32767 (by omega) (by omega)]; unfold negI; omega
  go_enter Try.func28, Try.ntmps28
  go_wp2
  go_ret
  exact ⟨by simp, Drawn0.refl _⟩
theorem ext_f : onescomp_Extend.f x = some (extI x) := by
  unfold onescomp_Extend.f extI
  have a : 0 ≤ x % 32768 ∧ x % 32768 < 32768 := by omega
  rw [and_32767 h0 h1, and_16384 (x := x % 32768) (by omega) (by omega), u16w (by omega) (by omega)]
  by_cases c : x % 32768 > 16383
  · rw [if_pos c, or_low 15 (by omega) (by omega) (by omega) (by omega) (by omega) (by omega)]; congr 1; omega
  · rw [if_neg c, or_low 15 (by omega) (by omega) (by omega) (by omega) (by omega) (by omega)]; congr 1; omega
theorem ext_c : Calls Try.prog 32 #[.int .u16 x] w fun e w' => e = .returned (.int .u16 (extI x)) ∧ Drawn0 w w' := onescomp_Extend.calls _ _ w (ext_f x h0 h1)
theorem rext_c : Calls Try.prog 33 #[.int .u16 x] w fun e w' => e = .returned (.int .u16 (extI x)) ∧ Drawn0 w w' := by
  refine periluneref01_Extend.calls _ _ w ?_
  unfold periluneref01_Extend.f extI
  rw [low_f x h0 h1]; simp only [Option.bind_some]
  by_cases c : x % 32768 > 16383
  · rw [if_pos c, if_pos c, w64 (by omega) (by omega), u16w (by omega) (by omega)]
  · rw [if_neg c, if_neg c, u16w (by omega) (by omega)]
theorem rnegAcc_c : Calls Try.prog 37 #[.int .u16 x] w fun e w' => e = .returned (.int .u16 (negAccI x)) ∧ Drawn0 w w' := by
  refine periluneref01_NegAcc.calls _ _ w ?_
  unfold periluneref01_NegAcc.f negAccI
  rw [w64 (n := x) (by omega) (by omega), w64 (by omega) (by omega), u16w (by omega) (by omega)]
theorem negAcc_c : Calls Try.prog 36 #[.int .u16 x] w fun e w' => e = .returned (.int .u16 (negAccI x)) ∧ Drawn0 w w' := by
  have hs : IntKind.u16.signed = false := rfl
  have hn : Go.bits .xor .u16 IntKind.u16.max x = negAccI x := not16 h0 h1
  go_enter Try.func36, Try.ntmps36
  go_wp2
  go_ret
  exact ⟨by simp, Drawn0.refl _⟩
theorem ov_c : Calls Try.prog 38 #[.int .u16 x] w fun e w' => e = .returned (.int .i64 (ovI x)) ∧ Drawn0 w w' := by
  refine onescomp_Overflow.calls _ _ w ?_
  unfold onescomp_Overflow.f ovI
  by_cases c : x / 16384 = 1
  · rw [if_pos c]; congr 1; omega
  · rw [if_neg c]
    by_cases d : x / 16384 = 2
    · rw [if_pos d]; congr 1; omega
    · rw [if_neg d]; congr 1; omega
theorem rov_c : Calls Try.prog 39 #[.int .u16 x] w fun e w' => e = .returned (.int .i64 (ovI x)) ∧ Drawn0 w w' := by
  refine periluneref01_Overflow.calls _ _ w ?_
  unfold periluneref01_Overflow.f ovI
  rw [w64 (n := x) (by omega) (by omega), tdivp h0, tdivp h0, w64 (n := x / 16384) (by omega) (by omega), w64 (n := x / 32768) (by omega) (by omega), tmodp (by omega), w64 (by omega) (by omega)]
theorem cor_c : Calls Try.prog 40 #[.int .u16 x] w fun e w' => e = .returned (.int .u16 (corI x)) ∧ Drawn0 w w' := by
  refine onescomp_Correct.calls _ _ w ?_
  unfold onescomp_Correct.f corI
  rw [and_16383 h0 h1, u16w (by omega) (by omega), or_high 14 (by omega) (by omega) (by omega) (by omega) (by omega) (by omega)]
theorem rcor_c : Calls Try.prog 41 #[.int .u16 x] w fun e w' => e = .returned (.int .u16 (corI x)) ∧ Drawn0 w w' := by
  refine periluneref01_Correct.calls _ _ w ?_
  unfold periluneref01_Correct.f corI
  rw [w64 (n := x) (by omega) (by omega), tdivp h0, tmodp h0, w64 (n := x / 32768) (by omega) (by omega), w64 (n := x / 32768 * 16384) (by omega) (by omega), w64 (by omega) (by omega), u16w (by omega) (by omega)]
theorem cls_c : Calls Try.prog 42 #[.int .u16 x] w fun e w' => e = .returned (.int .i64 (clsI x)) ∧ Drawn0 w w' := by
  have hs : IntKind.u16.signed = false := rfl
  have hn := not16 h0 h1
  unfold clsI
  by_cases c : x = 0
  · subst c
    rw [if_pos rfl]
    clear hn hs
    go_enter Try.func42, Try.ntmps42
    go_wp2
    go_ret
    exact ⟨rfl, Drawn0.refl _⟩
  · rw [if_neg c]
    have b0 : (x == 0) = false := beq_eq_false_iff_ne.mpr c
    by_cases d : x = 65535
    · rw [if_pos d]
      have b1 : (65535 - x == 0) = true := by rw [beq_iff_eq]; omega
      clear c d
      go_enter Try.func42, Try.ntmps42
      go_wp2
      go_ret
      exact ⟨rfl, Drawn0.refl _⟩
    · rw [if_neg d]
      have b1 : (65535 - x == 0) = false := by rw [beq_eq_false_iff_ne]; omega
      by_cases e : x ≤ 32767
      · rw [if_pos e]
        have b2 : (x / 32768 == 0) = true := by rw [beq_iff_eq]; omega
        clear c d
        go_enter Try.func42, Try.ntmps42
        go_wp2
        go_ret
        exact ⟨rfl, Drawn0.refl _⟩
      · rw [if_neg e]
        have b2 : (x / 32768 == 0) = false := by rw [beq_eq_false_iff_ne]; omega
        clear c d
        go_enter Try.func42, Try.ntmps42
        go_wp2
        go_ret
        exact ⟨rfl, Drawn0.refl _⟩
theorem rcls_c : Calls Try.prog 43 #[.int .u16 x] w fun e w' => e = .returned (.int .i64 (clsI x)) ∧ Drawn0 w w' := by
  refine periluneref01_Class.calls _ _ w ?_
  unfold periluneref01_Class.f clsI
  by_cases c : x = 0
  · rw [if_pos c, if_pos c]
  · rw [if_neg c, if_neg c]
    by_cases d : x = 65535
    · rw [if_pos d, if_pos d]
    · rw [if_neg d, if_neg d]; split <;> rfl
theorem dim_c : Calls Try.prog 44 #[.int .u16 x] w fun e w' => e = .returned (.int .u16 (dimI x)) ∧ Drawn0 w w' := by
  have hs : IntKind.u16.signed = false := rfl
  have hn := not16 h0 h1
  by_cases e : x ≤ 32767
  · have b2 : (x / 32768 == 0) = true := by rw [beq_iff_eq]; omega
    have b3 : (x / 32768 != 0) = false := by rw [bne_eq_false_iff_eq]; omega
    by_cases c : x = 0
    · subst c
      have hd : dimI 0 = 0 := rfl
      rw [hd]
      clear hn hs b2 b3 hd
      go_enter Try.func44, Try.ntmps44
      go_wp2
      go_ret
      exact ⟨rfl, Drawn0.refl _⟩
    · have hd : dimI x = x - 1 := by unfold dimI; rw [if_pos e, if_neg c]
      rw [hd]
      have u : IntKind.u16.wrap (x - 1) = x - 1 := u16w (by omega) (by omega)
      have b4 : decide (0 < x) = true := decide_eq_true (by omega)
      clear c
      go_enter Try.func44, Try.ntmps44
      go_wp2
      go_ret
      exact ⟨by simp [*], Drawn0.refl _⟩
  · have b2 : (x / 32768 == 0) = false := by rw [beq_eq_false_iff_ne]; omega
    have b3 : (x / 32768 != 0) = true := by rw [bne_iff_ne]; omega
    by_cases c : x = 65535
    · subst c
      have hd : dimI 65535 = 0 := rfl
      rw [hd]
      have b4 : decide ((0 : Int) < 65535 - 65535) = false := by decide
      clear hd e
      go_enter Try.func44, Try.ntmps44
      go_wp2
      go_ret
      exact ⟨rfl, Drawn0.refl _⟩
    · have hd : dimI x = 65534 - x := by unfold dimI; rw [if_neg e, if_neg c]
      rw [hd]
      have u : IntKind.u16.wrap (65535 - x - 1) = 65534 - x := by rw [u16w (by omega) (by omega)]; omega
      have b4 : decide (x < 65535) = true := decide_eq_true (by omega)
      clear c
      go_enter Try.func44, Try.ntmps44
      go_wp2
      go_ret
      exact ⟨by simp [*], Drawn0.refl _⟩
theorem rdim_c : Calls Try.prog 45 #[.int .u16 x] w fun e w' => e = .returned (.int .u16 (dimI x)) ∧ Below w.heap.size w w' := by
  refine periluneref01_Diminish.calls _ _ w ?_
  unfold periluneref01_Diminish.f periluneref01_Magnitude.f dimI
  rw [w64 (n := x) (by omega) (by omega), w64 (n := 65535 - x) (by omega) (by omega)]
  by_cases c : x ≤ 32767
  · rw [if_pos c, if_pos c]; simp only [Option.bind_some]
    rw [w64 (by omega) (by omega)]
    by_cases d : x = 0
    · subst d; rfl
    · have e : mx 0 (x - 1) = x - 1 := by unfold mx; split <;> omega
      rw [if_neg d, e, u16w (by omega) (by omega)]
  · rw [if_neg c, if_neg c]; simp only [Option.bind_some]
    rw [w64 (by omega) (by omega)]
    by_cases d : x = 65535
    · subst d; rfl
    · have e : mx 0 (65535 - x - 1) = 65534 - x := by unfold mx; split <;> omega
      rw [if_neg d, e, u16w (by omega) (by omega)]
theorem cr_c : Calls Try.prog 11 #[.int .u16 x] w fun e w' => e = .returned (.int .u16 (crI x)) ∧ Drawn0 w w' := by
  refine onescomp_CycleRight.calls _ _ w ?_
  unfold onescomp_CycleRight.f crI
  rw [and_32767 h0 h1, and_1 (x := x % 32768) (by omega) (by omega), u16w (by omega) (by omega), or_low 14 (by omega) (by omega) (by omega) (by omega) (by omega) (by omega)]
  congr 1; omega
theorem rcr_f : periluneref01_CycleRight.f x = some (crI x) := by
  unfold periluneref01_CycleRight.f crI
  have a : 0 ≤ x % 32768 ∧ x % 32768 < 32768 := by omega
  rw [low_f x h0 h1]; simp only [Option.bind_some]
  rw [tmodp a.1, tdivp a.1, w64 (n := x % 32768 % 2 * 16384) (by omega) (by omega), w64 (n := x % 32768 / 2) (by omega) (by omega), w64 (by omega) (by omega), u16w (by omega) (by omega)]
  congr 1; omega
theorem rcr_c : Calls Try.prog 12 #[.int .u16 x] w fun e w' => e = .returned (.int .u16 (crI x)) ∧ Drawn0 w w' := periluneref01_CycleRight.calls _ _ w (rcr_f x h0 h1)
theorem cl_c : Calls Try.prog 13 #[.int .u16 x] w fun e w' => e = .returned (.int .u16 (clI x)) ∧ Drawn0 w w' := by
  refine onescomp_CycleLeft.calls _ _ w ?_
  unfold onescomp_CycleLeft.f clI
  rw [and_32767 h0 h1, u16w (n := x % 32768 * 2) (by omega) (by omega), and_32767 (x := x % 32768 * 2) (by omega) (by omega), or_high 1 (by omega) (by omega) (by omega) (by omega) (by omega) (by omega)]
  congr 1; omega
theorem rcl_f : periluneref01_CycleLeft.f x = some (clI x) := by
  unfold periluneref01_CycleLeft.f clI
  have a : 0 ≤ x % 32768 ∧ x % 32768 < 32768 := by omega
  rw [low_f x h0 h1]; simp only [Option.bind_some]
  rw [tmodp a.1, tdivp a.1, w64 (n := x % 32768 % 16384 * 2) (by omega) (by omega), w64 (n := x % 32768 / 16384) (by omega) (by omega), w64 (by omega) (by omega), u16w (by omega) (by omega)]
  congr 1; omega
theorem rcl_c : Calls Try.prog 14 #[.int .u16 x] w fun e w' => e = .returned (.int .u16 (clI x)) ∧ Drawn0 w w' := periluneref01_CycleLeft.calls _ _ w (rcl_f x h0 h1)
theorem sr_c : Calls Try.prog 15 #[.int .u16 x] w fun e w' => e = .returned (.int .u16 (srI x)) ∧ Drawn0 w w' := by
  refine onescomp_ShiftRight.calls _ _ w ?_
  unfold onescomp_ShiftRight.f srI
  rw [and_32767 h0 h1, and_16384 (x := x % 32768) (by omega) (by omega), or_low 14 (by omega) (by omega) (by omega) (by omega) (by omega) (by omega)]
  congr 1; omega
theorem rsr_f : periluneref01_ShiftRight.f x = some (srI x) := by
  unfold periluneref01_ShiftRight.f srI
  have a : 0 ≤ x % 32768 ∧ x % 32768 < 32768 := by omega
  rw [low_f x h0 h1]; simp only [Option.bind_some]
  rw [tdivp a.1, tdivp a.1, w64 (n := x % 32768 / 16384) (by omega) (by omega), w64 (n := x % 32768 / 16384 * 16384) (by omega) (by omega), w64 (n := x % 32768 / 2) (by omega) (by omega), w64 (by omega) (by omega), u16w (by omega) (by omega)]
theorem rsr_c : Calls Try.prog 16 #[.int .u16 x] w fun e w' => e = .returned (.int .u16 (srI x)) ∧ Drawn0 w w' := periluneref01_ShiftRight.calls _ _ w (rsr_f x h0 h1)
theorem op_c : Calls Try.prog 17 #[.int .u16 x] w fun e w' => e = .returned (.int .u16 (opI x)) ∧ Drawn0 w w' := by
  refine onescomp_Opcode.calls _ _ w ?_
  unfold onescomp_Opcode.f opI
  rw [and_32767 h0 h1, and_127 (x := x % 32768 / 128) (by omega) (by omega)]
theorem rop_f : periluneref01_Opcode.f x = some (opI x) := by
  unfold periluneref01_Opcode.f opI
  have a : 0 ≤ x % 32768 ∧ x % 32768 < 32768 := by omega
  rw [low_f x h0 h1]; simp only [Option.bind_some]
  rw [tdivp a.1, w64 (n := x % 32768 / 128) (by omega) (by omega), tmodp (by omega), u16w (by omega) (by omega)]
theorem rop_c : Calls Try.prog 18 #[.int .u16 x] w fun e w' => e = .returned (.int .u16 (opI x)) ∧ Drawn0 w w' := periluneref01_Opcode.calls _ _ w (rop_f x h0 h1)
theorem redit_c (k : Int) : Calls Try.prog 20 #[.int .i64 k, .int .u16 x] w fun e w' => e = .returned (.int .u16 (editI k x)) ∧ Drawn0 w w' := by
  refine periluneref01_Edit.calls _ _ _ w ?_
  unfold periluneref01_Edit.f editI
  rw [rcr_f x h0 h1, rsr_f x h0 h1, rcl_f x h0 h1, rop_f x h0 h1, low_f x h0 h1]
  simp only [Option.bind_some]
  rw [u16w (n := x % 32768) (by omega) (by omega)]
  repeat' split
  all_goals rfl
include k0 k1 in
theorem endW_c (hx : x < 32768) (hy : y < 32768) : Calls Try.prog 50 #[.int .u16 x, .int .u16 y, .int .u32 32767] w fun e w' => e = .returned (.int .u16 (addI x y)) ∧ Drawn0 w w' := by
  have u1 : IntKind.u32.wrap x = x := by rw [IntKind.wrap_u32]; omega
  have u2 : IntKind.u32.wrap y = y := by rw [IntKind.wrap_u32]; omega
  have m1 : x % 4294967296 = x := by omega
  have m2 : y % 4294967296 = y := by omega
  have m3 : (x + y) % 4294967296 = x + y := by omega
  unfold addI
  by_cases c : x % 32768 + y % 32768 > 32767
  · rw [if_pos c]
    have b0 : decide (32767 < x + y) = true := decide_eq_true (by omega)
    have m4 : (x + y - 32767) % 4294967296 = x + y - 32767 := by omega
    have u3 : IntKind.u16.wrap (x + y - 32767) = x % 32768 + y % 32768 - 32767 := by rw [u16w (by omega) (by omega)]; omega
    clear c
    go_enter Try.func50, Try.ntmps50
    go_wp2
    go_ret
    exact ⟨by simp [*], Drawn0.refl _⟩
  · rw [if_neg c]
    have b0 : decide (32767 < x + y) = false := decide_eq_false (by omega)
    have u3 : IntKind.u16.wrap (x + y) = x % 32768 + y % 32768 := by rw [u16w (by omega) (by omega)]; omega
    clear c
    go_enter Try.func50, Try.ntmps50
    go_wp2
    go_ret
    exact ⟨by simp [*], Drawn0.refl _⟩
include k0 k1 in
theorem add_c : Calls Try.prog 30 #[.int .u16 x, .int .u16 y] w fun e w' => e = .returned (.int .u16 (addI x y)) ∧ Drawn0 w w' := by
  have e1 := and_32767 h0 h1
  have e2 := and_32767 k0 k1
  have e3 : addI (x % 32768) (y % 32768) = addI x y := by unfold addI; rw [Int.emod_emod_of_dvd _ (Int.dvd_refl _), Int.emod_emod_of_dvd _ (Int.dvd_refl _)]
  have K := endW_c (x % 32768) (y % 32768) (by omega) (by omega) (by omega) (by omega)
  have K2 := Lib.hid fun w => K w (by omega) (by omega)
  clear K
  rw [← e3]
  clear e3
  go_enter Try.func30, Try.ntmps30
  go_wp2_with ((go_at_call 50; (with_reducible refine (K2.out _).mono ?_); rintro e w' ⟨rfl, ⟨nd, rfl⟩⟩))
  go_ret
  exact ⟨rfl, by repeat (first | exact Drawn0.refl _ | apply Drawn0.step)⟩
include k0 k1 in
theorem radd_c : Calls Try.prog 31 #[.int .u16 x, .int .u16 y] w fun e w' => e = .returned (.int .u16 (addI x y)) ∧ Drawn0 w w' := by
  refine periluneref01_Add.calls _ _ _ w ?_
  unfold periluneref01_Add.f addI
  rw [low_f x h0 h1, low_f y k0 k1]; simp only [Option.bind_some]
  rw [w64 (n := x % 32768 + y % 32768) (by omega) (by omega)]
  by_cases c : x % 32768 + y % 32768 > 32767
  · rw [if_pos c, if_pos c, w64 (by omega) (by omega), u16w (by omega) (by omega)]
  · rw [if_neg c, if_neg c, u16w (by omega) (by omega)]
include k0 k1 in
theorem endA_c : Calls Try.prog 51 #[.int .u16 x, .int .u16 y, .int .u32 65535] w fun e w' => e = .returned (.int .u16 (addAccI x y)) ∧ Drawn0 w w' := by
  have u1 : IntKind.u32.wrap x = x := by rw [IntKind.wrap_u32]; omega
  have u2 : IntKind.u32.wrap y = y := by rw [IntKind.wrap_u32]; omega
  have m1 : x % 4294967296 = x := by omega
  have m2 : y % 4294967296 = y := by omega
  have m3 : (x + y) % 4294967296 = x + y := by omega
  unfold addAccI
  by_cases c : x + y > 65535
  · rw [if_pos c]
    have b0 : decide (65535 < x + y) = true := decide_eq_true (by omega)
    have m4 : (x + y - 65535) % 4294967296 = x + y - 65535 := by omega
    have u3 : IntKind.u16.wrap (x + y - 65535) = x + y - 65535 := u16w (by omega) (by omega)
    clear c
    go_enter Try.func51, Try.ntmps51
    go_wp2
    go_ret
    exact ⟨by simp [*], Drawn0.refl _⟩
  · rw [if_neg c]
    have b0 : decide (65535 < x + y) = false := decide_eq_false (by omega)
    have u3 : IntKind.u16.wrap (x + y) = x + y := u16w (by omega) (by omega)
    clear c
    go_enter Try.func51, Try.ntmps51
    go_wp2
    go_ret
    exact ⟨by simp [*], Drawn0.refl _⟩
include k0 k1 in
theorem addAcc_c : Calls Try.prog 34 #[.int .u16 x, .int .u16 y] w fun e w' => e = .returned (.int .u16 (addAccI x y)) ∧ Drawn0 w w' := by
  have K2 := Lib.hid (endA_c x y h0 h1 k0 k1)
  go_enter Try.func34, Try.ntmps34
  go_wp2_with ((go_at_call 51; (with_reducible refine (K2.out _).mono ?_); rintro e w' ⟨rfl, ⟨nd, rfl⟩⟩))
  go_ret
  exact ⟨rfl, by repeat (first | exact Drawn0.refl _ | apply Drawn0.step)⟩
include k0 k1 in
theorem raddAcc_c : Calls Try.prog 35 #[.int .u16 x, .int .u16 y] w fun e w' => e = .returned (.int .u16 (addAccI x y)) ∧ Drawn0 w w' := by
  refine periluneref01_AddAcc.calls _ _ _ w ?_
  unfold periluneref01_AddAcc.f addAccI
  rw [w64 (n := x) (by omega) (by omega), w64 (n := y) (by omega) (by omega), w64 (n := x + y) (by omega) (by omega)]
  by_cases c : x + y > 65535
  · rw [if_pos c, if_pos c, w64 (by omega) (by omega), u16w (by omega) (by omega)]
  · rw [if_neg c, if_neg c, u16w (by omega) (by omega)]
include k0 k1 in
theorem td_c : Calls Try.prog 21 #[.int .u16 x, .int .u16 y] w fun e w' => e = .returned (.int .u16 (tdI x y)) ∧ Drawn0 w w' := by
  refine onescomp_TwosDiff.calls _ _ _ w ?_
  unfold onescomp_TwosDiff.f tdI
  have e : Go.bits .and .u16 (IntKind.u16.wrap (x - y)) 32767 = (x % 32768 - y % 32768 + 32768) % 32768 := by
    rw [IntKind.wrap_u16, and_32767 (by omega) (by omega)]; omega
  rw [e]
  by_cases c : (x % 32768 - y % 32768 + 32768) % 32768 ≤ 16384
  · rw [if_pos c, if_pos c]
  · rw [if_neg c, if_neg c, u16w (by omega) (by omega)]
include k0 k1 in
theorem rtd_c : Calls Try.prog 22 #[.int .u16 x, .int .u16 y] w fun e w' => e = .returned (.int .u16 (tdI x y)) ∧ Drawn0 w w' := by
  refine periluneref01_TwosDiff.calls _ _ _ w ?_
  unfold periluneref01_TwosDiff.f tdI
  rw [low_f x h0 h1, low_f y k0 k1]; simp only [Option.bind_some]
  rw [w64 (n := x % 32768 - y % 32768) (by omega) (by omega), w64 (n := x % 32768 - y % 32768 + 32768) (by omega) (by omega), tmodp (by omega)]
  obtain ⟨d, hd⟩ : ∃ d, (x % 32768 - y % 32768 + 32768) % 32768 = d := ⟨_, rfl⟩
  have d0 : 0 ≤ d ∧ d < 32768 := by omega
  rw [hd]
  by_cases c : d ≤ 16383
  · rw [if_pos c, if_pos (by omega), u16w (by omega) (by omega)]
  · rw [if_neg c]
    by_cases z : d = 16384
    · rw [if_pos z, if_pos (by omega), z]
    · rw [if_neg z, if_neg (by omega), w64 (by omega) (by omega), u16w (by omega) (by omega)]
end
theorem rof_c (n : Int) (w : World) : Calls Try.prog 25 #[.int .i64 n] w fun e w' => e = .returned (.tuple #[.int .u16 (ofI n), .int .i64 (ofE n)]) ∧ Drawn0 w w' := by
  refine periluneref01_Of.calls 3 _ _ _ w ?_
  unfold periluneref01_Of.f ofI ofE
  by_cases a : n < -16383
  · rw [if_pos a, if_pos (.inl a), if_pos (.inl a)]; simp [periluneref01_Of.j0]
  · rw [if_neg a]
    by_cases b : n > 16383
    · rw [if_pos (.inr b), if_pos (.inr b), decide_eq_true b]; simp [periluneref01_Of.j0]
    · have c : ¬ (n < -16383 ∨ n > 16383) := by omega
      rw [if_neg c, if_neg c, decide_eq_false b]
      simp only [periluneref01_Of.j0]
      rw [if_neg (by decide)]
      by_cases d : n < 0
      · rw [if_pos d, if_pos d, w64 (by omega) (by omega), u16w (by omega) (by omega)]
      · rw [if_neg d, if_neg d, u16w (by omega) (by omega)]
theorem of_c (n : Int) (w : World) : Calls Try.prog 24 #[.int .i64 n] w fun e w' => e = .returned (.tuple #[.int .u16 (ofI n), .int .i64 (ofE n)]) ∧ Drawn0 w w' := by
  by_cases a : n > 16383
  · have hI : ofI n = 0 := by unfold ofI; rw [if_pos (.inr a)]
    have hE : ofE n = 3 := by unfold ofE; rw [if_pos (.inr a)]
    rw [hI, hE]
    have b0 : decide (16383 < n) = true := decide_eq_true a
    go_enter Try.func24, Try.ntmps24
    go_wp2
    go_ret2
    exact ⟨rfl, Drawn0.refl _⟩
  · have b0 : decide (16383 < n) = false := decide_eq_false a
    by_cases b : n < -16383
    · have hI : ofI n = 0 := by unfold ofI; rw [if_pos (.inl b)]
      have hE : ofE n = 3 := by unfold ofE; rw [if_pos (.inl b)]
      rw [hI, hE]
      have b1 : decide (n < -16383) = true := decide_eq_true b
      go_enter Try.func24, Try.ntmps24
      go_wp2
      go_ret2
      exact ⟨rfl, Drawn0.refl _⟩
    · have b1 : decide (n < -16383) = false := decide_eq_false b
      have hE : ofE n = 0 := by unfold ofE; rw [if_neg (by omega)]
      rw [hE]
      by_cases c : n < 0
      · have hI : ofI n = negI (-n) := by unfold ofI negI; rw [if_neg (by omega), if_pos c]; omega
        rw [hI]
        have b2 : decide (n < 0) = true := decide_eq_true c
        have u : IntKind.u16.wrap (-n) = -n := u16w (by omega) (by omega)
        have K := Lib.hid (neg_c (-n) (by omega) (by omega))
        go_enter Try.func24, Try.ntmps24
        go_wp2_with ((go_at_call 28; (with_reducible refine (K.out _).mono ?_); rintro e w' ⟨rfl, ⟨nd, rfl⟩⟩))
        go_ret2
        exact ⟨rfl, by repeat (first | exact Drawn0.refl _ | apply Drawn0.step)⟩
      · have hI : ofI n = n := by unfold ofI; rw [if_neg (by omega), if_neg c]
        rw [hI]
        have b2 : decide (n < 0) = false := decide_eq_false c
        have u : IntKind.u16.wrap n = n := u16w (by omega) (by omega)
        go_enter Try.func24, Try.ntmps24
        go_wp2
        go_ret2
        exact ⟨rfl, Drawn0.refl _⟩
theorem editing_c (w : World) : Calls Try.prog 49 #[] w fun e w' => e = .returned (.agg #[.func (.func 11) #[] #[], .func (.func 15) #[] #[], .func (.func 13) #[] #[], .func (.func 17) #[] #[]]) ∧ Below w.heap.size w w' := by
  go_enter Try.func49, Try.ntmps49
  go_wp2
  exact bodyPost_ret (v := .agg #[.func (.func 11) #[] #[], .func (.func 15) #[] #[], .func (.func 13) #[] #[], .func (.func 17) #[] #[]]) (by simp [results, Try.results49, go_sem]) rfl ⟨rfl, by repeat (first | exact Below.refl _ _ | apply below_alloc | apply below_set)⟩
theorem edit16_c (x : Int) (h0 : 0 ≤ x) (h1 : x < 65536) (w : World) : Calls Try.prog 19 #[.int .i64 16, .int .u16 x] w fun e w' => e = .returned (.int .u16 (crI x)) ∧ Below w.heap.size w w' := by
  have HB := Aside0.mk (Below.refl w.heap.size w)
  have hix : ∀ W : World, (Instr.index 50 (.agg #[.func (.func 11) #[] #[], .func (.func 15) #[] #[], .func (.func 13) #[] #[], .func (.func 17) #[] #[]]) (.int .i64 0)).run Try.prog W = .ok (.func (.func 11) #[] #[]) W := fun _ => by kernel_rfl
  have K := Lib.hid (cr_c x h0 h1)
  go_enter Try.func19, Try.ntmps19
  go_wp2_with (first | (go_at_call 49; (with_reducible refine (editing_c _).mono ?_); rintro e w' ⟨rfl, hb⟩; have HBn := Aside0.mk (below_step (by repeat (first | (with_reducible first | exact HB.out | apply below_alloc | apply pw_below_drewN | apply below_drew1) | exact HB.out)) hb); clear HB hb; have HB := HBn; clear HBn) | (go_at_call 11; (with_reducible refine (K.out _).mono ?_); rintro e w' ⟨rfl, ⟨nd, rfl⟩⟩))
  go_ret
  exact ⟨rfl, by repeat (first | (with_reducible first | exact HB.out | apply below_alloc | apply pw_below_drewN | apply below_drew1) | exact HB.out)⟩
theorem edit17_c (x : Int) (h0 : 0 ≤ x) (h1 : x < 65536) (w : World) : Calls Try.prog 19 #[.int .i64 17, .int .u16 x] w fun e w' => e = .returned (.int .u16 (srI x)) ∧ Below w.heap.size w w' := by
  have HB := Aside0.mk (Below.refl w.heap.size w)
  have hix : ∀ W : World, (Instr.index 50 (.agg #[.func (.func 11) #[] #[], .func (.func 15) #[] #[], .func (.func 13) #[] #[], .func (.func 17) #[] #[]]) (.int .i64 1)).run Try.prog W = .ok (.func (.func 15) #[] #[]) W := fun _ => by kernel_rfl
  have K := Lib.hid (sr_c x h0 h1)
  go_enter Try.func19, Try.ntmps19
  go_wp2_with (first | (go_at_call 49; (with_reducible refine (editing_c _).mono ?_); rintro e w' ⟨rfl, hb⟩; have HBn := Aside0.mk (below_step (by repeat (first | (with_reducible first | exact HB.out | apply below_alloc | apply pw_below_drewN | apply below_drew1) | exact HB.out)) hb); clear HB hb; have HB := HBn; clear HBn) | (go_at_call 15; (with_reducible refine (K.out _).mono ?_); rintro e w' ⟨rfl, ⟨nd, rfl⟩⟩))
  go_ret
  exact ⟨rfl, by repeat (first | (with_reducible first | exact HB.out | apply below_alloc | apply pw_below_drewN | apply below_drew1) | exact HB.out)⟩
theorem edit18_c (x : Int) (h0 : 0 ≤ x) (h1 : x < 65536) (w : World) : Calls Try.prog 19 #[.int .i64 18, .int .u16 x] w fun e w' => e = .returned (.int .u16 (clI x)) ∧ Below w.heap.size w w' := by
  have HB := Aside0.mk (Below.refl w.heap.size w)
  have hix : ∀ W : World, (Instr.index 50 (.agg #[.func (.func 11) #[] #[], .func (.func 15) #[] #[], .func (.func 13) #[] #[], .func (.func 17) #[] #[]]) (.int .i64 2)).run Try.prog W = .ok (.func (.func 13) #[] #[]) W := fun _ => by kernel_rfl
  have K := Lib.hid (cl_c x h0 h1)
  go_enter Try.func19, Try.ntmps19
  go_wp2_with (first | (go_at_call 49; (with_reducible refine (editing_c _).mono ?_); rintro e w' ⟨rfl, hb⟩; have HBn := Aside0.mk (below_step (by repeat (first | (with_reducible first | exact HB.out | apply below_alloc | apply pw_below_drewN | apply below_drew1) | exact HB.out)) hb); clear HB hb; have HB := HBn; clear HBn) | (go_at_call 13; (with_reducible refine (K.out _).mono ?_); rintro e w' ⟨rfl, ⟨nd, rfl⟩⟩))
  go_ret
  exact ⟨rfl, by repeat (first | (with_reducible first | exact HB.out | apply below_alloc | apply pw_below_drewN | apply below_drew1) | exact HB.out)⟩
theorem edit19_c (x : Int) (h0 : 0 ≤ x) (h1 : x < 65536) (w : World) : Calls Try.prog 19 #[.int .i64 19, .int .u16 x] w fun e w' => e = .returned (.int .u16 (opI x)) ∧ Below w.heap.size w w' := by
  have HB := Aside0.mk (Below.refl w.heap.size w)
  have hix : ∀ W : World, (Instr.index 50 (.agg #[.func (.func 11) #[] #[], .func (.func 15) #[] #[], .func (.func 13) #[] #[], .func (.func 17) #[] #[]]) (.int .i64 3)).run Try.prog W = .ok (.func (.func 17) #[] #[]) W := fun _ => by kernel_rfl
  have K := Lib.hid (op_c x h0 h1)
  go_enter Try.func19, Try.ntmps19
  go_wp2_with (first | (go_at_call 49; (with_reducible refine (editing_c _).mono ?_); rintro e w' ⟨rfl, hb⟩; have HBn := Aside0.mk (below_step (by repeat (first | (with_reducible first | exact HB.out | apply below_alloc | apply pw_below_drewN | apply below_drew1) | exact HB.out)) hb); clear HB hb; have HB := HBn; clear HBn) | (go_at_call 17; (with_reducible refine (K.out _).mono ?_); rintro e w' ⟨rfl, ⟨nd, rfl⟩⟩))
  go_ret
  exact ⟨rfl, by repeat (first | (with_reducible first | exact HB.out | apply below_alloc | apply pw_below_drewN | apply below_drew1) | exact HB.out)⟩
theorem edit_c (k x : Int) (h0 : 0 ≤ x) (h1 : x < 65536) (w : World) : Calls Try.prog 19 #[.int .i64 k, .int .u16 x] w fun e w' => e = .returned (.int .u16 (editI k x)) ∧ Below w.heap.size w w' := by
  unfold editI
  by_cases a : k = 16
  · subst a; rw [if_pos rfl]; exact edit16_c x h0 h1 w
  · rw [if_neg a]
    by_cases b : k = 17
    · subst b; rw [if_pos rfl]; exact edit17_c x h0 h1 w
    · rw [if_neg b]
      by_cases c : k = 18
      · subst c; rw [if_pos rfl]; exact edit18_c x h0 h1 w
      · rw [if_neg c]
        by_cases d : k = 19
        · subst d; rw [if_pos rfl]; exact edit19_c x h0 h1 w
        · rw [if_neg d]
          have m := and_32767 h0 h1
          by_cases e : k < 16
          · have b0 : decide (k < 16) = true := decide_eq_true e
            clear a b c d
            go_enter Try.func19, Try.ntmps19
            go_wp2
            go_ret
            exact ⟨rfl, by repeat (first | exact Below.refl _ _ | apply below_alloc)⟩
          · have b0 : decide (k < 16) = false := decide_eq_false e
            have b1 : decide (19 < k) = true := decide_eq_true (by omega)
            clear a b c d
            go_enter Try.func19, Try.ntmps19
            go_wp2
            go_ret
            exact ⟨rfl, by repeat (first | exact Below.refl _ _ | apply below_alloc)⟩
end Go.Proofs.Ytipcnefiadnlmaa.One
