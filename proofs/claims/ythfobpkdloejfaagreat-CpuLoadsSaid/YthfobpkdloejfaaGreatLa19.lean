/- Chapter 5: a part of its proof (cut by program out of One); no condition. -/
import Derived.Laws.EntriesVeiled
import Derived.Lib.Hide
import Derived.Test.YthfobpkdloejfaaGreatLa17
import Derived.Test.YthfobpkdloejfaaGreatLa18
set_option linter.unusedVariables false
set_option linter.unusedSimpArgs false
set_option linter.unusedSectionVars false
set_option maxRecDepth 100000
set_option maxHeartbeats 8000000
section
namespace Go.Proofs.YthfobpkdloejfaaGreat.One
open Go.RowKit Go.Proofs.YthfobpkdloejfaaGreat.PAll Go.Proofs.YthfobpkdloejfaaGreatW.PrintWords Go.Proofs.YthfobpkdloejfaaGreatW.PrintLast Go.Proofs.YthfobpkdloejfaaGreatW.PrintMore Go.Proofs.YthfobpkdloejfaaGreat.Plain
def valI (x : Int) : Int := if x % 32768 > 16383 then x % 32768 - 32767 else x % 32768
def negI (x : Int) : Int := 32767 - x % 32768
def addI (a b : Int) : Int := if a % 32768 + b % 32768 > 32767 then a % 32768 + b % 32768 - 32767 else a % 32768 + b % 32768
def extI (x : Int) : Int := if x % 32768 > 16383 then x % 32768 + 32768 else x % 32768
def addAccI (a b : Int) : Int := if a + b > 65535 then a + b - 65535 else a + b
def negAccI (a : Int) : Int := 65535 - a
def corI (a : Int) : Int := a / 32768 * 16384 + a % 16384
def clsI (a : Int) : Int := if a = 0 then 1 else if a = 65535 then 3 else if a ≤ 32767 then 0 else 2
def dimI (a : Int) : Int := if a ≤ 32767 then (if a = 0 then 0 else a - 1) else (if a = 65535 then 0 else 65534 - a)
def crI (x : Int) : Int := x % 2 * 16384 + x % 32768 / 2
def clI (x : Int) : Int := x % 16384 * 2 + x % 32768 / 16384
def srI (x : Int) : Int := x % 32768 / 16384 * 16384 + x % 32768 / 2
def opI (x : Int) : Int := x % 32768 / 128 % 128
def editI (k x : Int) : Int := if k = 16 then crI x else if k = 17 then srI x else if k = 18 then clI x else if k = 19 then opI x else x % 32768
def tdI (a b : Int) : Int := if (a % 32768 - b % 32768 + 32768) % 32768 ≤ 16384 then (a % 32768 - b % 32768 + 32768) % 32768 else (a % 32768 - b % 32768 + 32768) % 32768 - 1
section
variable (x y : Int) (h0 : 0 ≤ x) (h1 : x < 65536) (k0 : 0 ≤ y) (k1 : y < 65536) (w : World)
include h0 h1
theorem low_f : periluneref01_Low.f x = some (x % 32768) := by
 unfold periluneref01_Low.f; rw [w64 (by omega) (by omega), tmodp h0]
theorem value_f : onescomp_Value.f x = some (valI x) := by
 unfold onescomp_Value.f valI
 have a : 0 ≤ x % 32768 ∧ x % 32768 < 32768 := by omega
 rw [and_32767 h0 h1, and_16384 (x := x % 32768) (by omega) (by omega), u16w (n := 32767 - x % 32768) (by omega) (by omega)]
 by_cases c : x % 32768 > 16383
 · rw [if_neg (by omega), if_pos c, w64 (n := 32767 - x % 32768) (by omega) (by omega), w64 (by omega) (by omega)]; congr 1; omega
 · rw [if_pos (by omega), if_neg c, w64 (by omega) (by omega)]
theorem value_c : Calls Tryz.prog 29 #[.int .u16 x] w fun e w' => e = .returned (.int .i64 (valI x)) ∧ Drawn0 w w' := onescomp_Value.calls _ _ w (value_f x h0 h1)
theorem neg_c : Calls Tryz.prog 36 #[.int .u16 x] w fun e w' => e = .returned (.int .u16 (negI x)) ∧ Drawn0 w w' := by
 have hs : IntKind.u16.signed = false := rfl
 have hn := not16 h0 h1
 have hm : Go.bits .and .u16 (65535 - x) 32767 = negI x := by rw [and_32767 (by omega) (by omega)]; unfold negI; omega
 go_enter Tryz.func36, Tryz.ntmps36
 go_wp2
 go_ret
 exact ⟨by simp, Drawn0.refl _⟩
theorem ext_f : onescomp_Extend.f x = some (extI x) := by
 unfold onescomp_Extend.f extI
 have a : 0 ≤ x % 32768 ∧ x % 32768 < 32768 := by omega
 rw [and_32767 h0 h1, and_16384 (x := x % 32768) (by omega) (by omega), u16w (by omega) (by omega)]
 by_cases c : x % 32768 > 16383
 · rw [if_pos c, or_low 15 (by omega) (by omega) (by omega) (by omega) (by omega) (by omega)]; congr 1; omega
 · rw [if_neg c, or_low 15 (by omega) (by omega) (by omega) (by omega) (by omega) (by omega)]; congr 1; omega
theorem ext_c : Calls Tryz.prog 33 #[.int .u16 x] w fun e w' => e = .returned (.int .u16 (extI x)) ∧ Drawn0 w w' := onescomp_Extend.calls _ _ w (ext_f x h0 h1)
theorem rext_c : Calls Tryz.prog 75 #[.int .u16 x] w fun e w' => e = .returned (.int .u16 (extI x)) ∧ Drawn0 w w' := by
 refine periluneref01_Extend.calls _ _ w ?_
 unfold periluneref01_Extend.f extI
 rw [low_f x h0 h1]; simp only [Option.bind_some]
 by_cases c : x % 32768 > 16383
 · rw [if_pos c, if_pos c, w64 (by omega) (by omega), u16w (by omega) (by omega)]
 · rw [if_neg c, if_neg c, u16w (by omega) (by omega)]
theorem cor_c : Calls Tryz.prog 34 #[.int .u16 x] w fun e w' => e = .returned (.int .u16 (corI x)) ∧ Drawn0 w w' := by
 refine onescomp_Correct.calls _ _ w ?_
 unfold onescomp_Correct.f corI
 rw [and_16383 h0 h1, u16w (by omega) (by omega), or_high 14 (by omega) (by omega) (by omega) (by omega) (by omega) (by omega)]
theorem rcor_c : Calls Tryz.prog 47 #[.int .u16 x] w fun e w' => e = .returned (.int .u16 (corI x)) ∧ Drawn0 w w' := by
 refine periluneref01_Correct.calls _ _ w ?_
 unfold periluneref01_Correct.f corI
 rw [w64 (n := x) (by omega) (by omega), tdivp h0, tmodp h0, w64 (n := x / 32768) (by omega) (by omega), w64 (n := x / 32768 * 16384) (by omega) (by omega), w64 (by omega) (by omega), u16w (by omega) (by omega)]
theorem cls_c : Calls Tryz.prog 168 #[.int .u16 x] w fun e w' => e = .returned (.int .i64 (clsI x)) ∧ Drawn0 w w' := by
 have hs : IntKind.u16.signed = false := rfl
 have hn := not16 h0 h1
 unfold clsI
 by_cases c : x = 0
 · subst c
   rw [if_pos rfl]
   clear hn hs
   go_enter Tryz.func168, Tryz.ntmps168
   go_wp2
   go_ret
   exact ⟨rfl, Drawn0.refl _⟩
 · rw [if_neg c]
   have b0 : (x == 0) = false := beq_eq_false_iff_ne.mpr c
   by_cases d : x = 65535
   · rw [if_pos d]
     have b1 : (65535 - x == 0) = true := by rw [beq_iff_eq]; omega
     clear c d
     go_enter Tryz.func168, Tryz.ntmps168
     go_wp2
     go_ret
     exact ⟨rfl, Drawn0.refl _⟩
   · rw [if_neg d]
     have b1 : (65535 - x == 0) = false := by rw [beq_eq_false_iff_ne]; omega
     by_cases e : x ≤ 32767
     · rw [if_pos e]
       have b2 : (x / 32768 == 0) = true := by rw [beq_iff_eq]; omega
       clear c d
       go_enter Tryz.func168, Tryz.ntmps168
       go_wp2
       go_ret
       exact ⟨rfl, Drawn0.refl _⟩
     · rw [if_neg e]
       have b2 : (x / 32768 == 0) = false := by rw [beq_eq_false_iff_ne]; omega
       clear c d
       go_enter Tryz.func168, Tryz.ntmps168
       go_wp2
       go_ret
       exact ⟨rfl, Drawn0.refl _⟩
theorem dim_c : Calls Tryz.prog 166 #[.int .u16 x] w fun e w' => e = .returned (.int .u16 (dimI x)) ∧ Drawn0 w w' := by
 have hs : IntKind.u16.signed = false := rfl
 have hn := not16 h0 h1
 by_cases e : x ≤ 32767
 · have b2 : (x / 32768 == 0) = true := by rw [beq_iff_eq]; omega
   have b3 : (x / 32768 != 0) = false := by rw [bne_eq_false_iff_eq]; omega
   by_cases c : x = 0
   · subst c
     have hd : dimI 0 = 0 := rfl
     rw [hd]
     clear hn hs b2 b3 hd
     go_enter Tryz.func166, Tryz.ntmps166
     go_wp2
     go_ret
     exact ⟨rfl, Drawn0.refl _⟩
   · have hd : dimI x = x - 1 := by unfold dimI; rw [if_pos e, if_neg c]
     rw [hd]
     have u : IntKind.u16.wrap (x - 1) = x - 1 := u16w (by omega) (by omega)
     have b4 : decide (0 < x) = true := decide_eq_true (by omega)
     clear c
     go_enter Tryz.func166, Tryz.ntmps166
     go_wp2
     go_ret
     exact ⟨by simp [*], Drawn0.refl _⟩
 · have b2 : (x / 32768 == 0) = false := by rw [beq_eq_false_iff_ne]; omega
   have b3 : (x / 32768 != 0) = true := by rw [bne_iff_ne]; omega
   by_cases c : x = 65535
   · subst c
     have hd : dimI 65535 = 0 := rfl
     rw [hd]
     have b4 : decide ((0 : Int) < 65535 - 65535) = false := by decide
     clear hd e
     go_enter Tryz.func166, Tryz.ntmps166
     go_wp2
     go_ret
     exact ⟨rfl, Drawn0.refl _⟩
   · have hd : dimI x = 65534 - x := by unfold dimI; rw [if_neg e, if_neg c]
     rw [hd]
     have u : IntKind.u16.wrap (65535 - x - 1) = 65534 - x := by rw [u16w (by omega) (by omega)]; omega
     have b4 : decide (x < 65535) = true := decide_eq_true (by omega)
     clear c
     go_enter Tryz.func166, Tryz.ntmps166
     go_wp2
     go_ret
     exact ⟨by simp [*], Drawn0.refl _⟩
include k0 k1 in
theorem endW_c (hx : x < 32768) (hy : y < 32768) : Calls Tryz.prog 80 #[.int .u16 x, .int .u16 y, .int .u32 32767] w fun e w' => e = .returned (.int .u16 (addI x y)) ∧ Drawn0 w w' := by
 have u1 : IntKind.u32.wrap x = x := by rw [IntKind.wrap_u32]; omega
 have u2 : IntKind.u32.wrap y = y := by rw [IntKind.wrap_u32]; omega
 have m1 : x % 4294967296 = x := by omega
 have m2 : y % 4294967296 = y := by omega
 have m3 : (x + y) % 4294967296 = x + y := by omega
 unfold addI
 by_cases c : x % 32768 + y % 32768 > 32767
 · rw [if_pos c]
   have b0 : decide (32767 < x + y) = true := decide_eq_true (by omega)
   have m4 : (x + y - 32767) % 4294967296 = x + y - 32767 := by omega
   have u3 : IntKind.u16.wrap (x + y - 32767) = x % 32768 + y % 32768 - 32767 := by rw [u16w (by omega) (by omega)]; omega
   clear c
   go_enter Tryz.func80, Tryz.ntmps80
   go_wp2
   go_ret
   exact ⟨by simp [*], Drawn0.refl _⟩
 · rw [if_neg c]
   have b0 : decide (32767 < x + y) = false := decide_eq_false (by omega)
   have u3 : IntKind.u16.wrap (x + y) = x % 32768 + y % 32768 := by rw [u16w (by omega) (by omega)]; omega
   clear c
   go_enter Tryz.func80, Tryz.ntmps80
   go_wp2
   go_ret
   exact ⟨by simp [*], Drawn0.refl _⟩
include k0 k1 in
theorem add_c : Calls Tryz.prog 46 #[.int .u16 x, .int .u16 y] w fun e w' => e = .returned (.int .u16 (addI x y)) ∧ Drawn0 w w' := by
 have e1 := and_32767 h0 h1
 have e2 := and_32767 k0 k1
 have e3 : addI (x % 32768) (y % 32768) = addI x y := by unfold addI; rw [Int.emod_emod_of_dvd _ (Int.dvd_refl _), Int.emod_emod_of_dvd _ (Int.dvd_refl _)]
 have K := endW_c (x % 32768) (y % 32768) (by omega) (by omega) (by omega) (by omega)
 have K2 := Lib.hid fun w => K w (by omega) (by omega)
 clear K
 rw [← e3]
 clear e3
 go_enter Tryz.func46, Tryz.ntmps46
 go_wp2_with ((go_at_call 80; (with_reducible refine (K2.out _).mono ?_); rintro e w' ⟨rfl, ⟨nd, rfl⟩⟩))
 go_ret
 exact ⟨rfl, by repeat (first | exact Drawn0.refl _ | apply Drawn0.step)⟩
include k0 k1 in
theorem radd_c : Calls Tryz.prog 49 #[.int .u16 x, .int .u16 y] w fun e w' => e = .returned (.int .u16 (addI x y)) ∧ Drawn0 w w' := by
 refine periluneref01_Add.calls _ _ _ w ?_
 unfold periluneref01_Add.f addI
 rw [low_f x h0 h1, low_f y k0 k1]; simp only [Option.bind_some]
 rw [w64 (n := x % 32768 + y % 32768) (by omega) (by omega)]
 by_cases c : x % 32768 + y % 32768 > 32767
 · rw [if_pos c, if_pos c, w64 (by omega) (by omega), u16w (by omega) (by omega)]
 · rw [if_neg c, if_neg c, u16w (by omega) (by omega)]
end
end Go.Proofs.YthfobpkdloejfaaGreat.One
end
