/- Chapter 5: a part of its proof (cut by program out of One0); no condition. -/
import Derived.Test.YthfobpkdloejfaaGreatLo13
set_option linter.unusedVariables false
set_option linter.unusedSimpArgs false
set_option linter.unusedSectionVars false
set_option maxRecDepth 100000
set_option maxHeartbeats 8000000
section
namespace Go.Proofs.YthfobpkdloejfaaGreat.PAll
open Go.RowKit Go.Proofs.YthfobpkdloejfaaGreatW.PrintWords Go.Proofs.YthfobpkdloejfaaGreatW.PrintLast Go.Proofs.YthfobpkdloejfaaGreatW.PrintMore
def onescomp_CycleRight.f (a0 : Int) : Option (Int) := some (Go.bits .or .u16 ((Go.bits .and .u16 a0 32767) / 2) (IntKind.u16.wrap ((Go.bits .and .u16 (Go.bits .and .u16 a0 32767) 1) * 16384)))
theorem onescomp_CycleRight.calls (a0 : Int) (r : Int) (w : World) (h : onescomp_CycleRight.f a0 = some r) :
 Calls Tryz.prog 187 #[.int .u16 a0] w fun e w' => e = .returned (.int .u16 r) ∧ Drawn0 w w' := by
 have H : (some (Go.bits .or .u16 ((Go.bits .and .u16 a0 32767) / 2) (IntKind.u16.wrap ((Go.bits .and .u16 (Go.bits .and .u16 a0 32767) 1) * 16384)))) = some r := h
 clear h
 obtain rfl := Option.some.inj H
 go_enter Tryz.func187, Tryz.ntmps187
 go_wp2
 go_ret
 exact ⟨by first | rfl | (simp; done) | (simp [*]; done), by repeat (first | exact Drawn0.refl _ | apply Drawn0.step)⟩
def onescomp_CycleLeft.f (a0 : Int) : Option (Int) := some (Go.bits .or .u16 (Go.bits .and .u16 (IntKind.u16.wrap ((Go.bits .and .u16 a0 32767) * 2)) 32767) ((Go.bits .and .u16 a0 32767) / 16384))
theorem onescomp_CycleLeft.calls (a0 : Int) (r : Int) (w : World) (h : onescomp_CycleLeft.f a0 = some r) :
 Calls Tryz.prog 189 #[.int .u16 a0] w fun e w' => e = .returned (.int .u16 r) ∧ Drawn0 w w' := by
 have H : (some (Go.bits .or .u16 (Go.bits .and .u16 (IntKind.u16.wrap ((Go.bits .and .u16 a0 32767) * 2)) 32767) ((Go.bits .and .u16 a0 32767) / 16384))) = some r := h
 clear h
 obtain rfl := Option.some.inj H
 go_enter Tryz.func189, Tryz.ntmps189
 go_wp2
 go_ret
 exact ⟨by first | rfl | (simp; done) | (simp [*]; done), by repeat (first | exact Drawn0.refl _ | apply Drawn0.step)⟩
def onescomp_ShiftRight.f (a0 : Int) : Option (Int) := some (Go.bits .or .u16 ((Go.bits .and .u16 a0 32767) / 2) (Go.bits .and .u16 (Go.bits .and .u16 a0 32767) 16384))
theorem onescomp_ShiftRight.calls (a0 : Int) (r : Int) (w : World) (h : onescomp_ShiftRight.f a0 = some r) :
 Calls Tryz.prog 188 #[.int .u16 a0] w fun e w' => e = .returned (.int .u16 r) ∧ Drawn0 w w' := by
 have H : (some (Go.bits .or .u16 ((Go.bits .and .u16 a0 32767) / 2) (Go.bits .and .u16 (Go.bits .and .u16 a0 32767) 16384))) = some r := h
 clear h
 obtain rfl := Option.some.inj H
 go_enter Tryz.func188, Tryz.ntmps188
 go_wp2
 go_ret
 exact ⟨by first | rfl | (simp; done) | (simp [*]; done), by repeat (first | exact Drawn0.refl _ | apply Drawn0.step)⟩
def onescomp_Opcode.f (a0 : Int) : Option (Int) := some (Go.bits .and .u16 ((Go.bits .and .u16 a0 32767) / 128) 127)
theorem onescomp_Opcode.calls (a0 : Int) (r : Int) (w : World) (h : onescomp_Opcode.f a0 = some r) :
 Calls Tryz.prog 190 #[.int .u16 a0] w fun e w' => e = .returned (.int .u16 r) ∧ Drawn0 w w' := by
 have H : (some (Go.bits .and .u16 ((Go.bits .and .u16 a0 32767) / 128) 127)) = some r := h
 clear h
 obtain rfl := Option.some.inj H
 go_enter Tryz.func190, Tryz.ntmps190
 go_wp2
 go_ret
 exact ⟨by first | rfl | (simp; done) | (simp [*]; done), by repeat (first | exact Drawn0.refl _ | apply Drawn0.step)⟩
def onescomp_TwosDiff.f (a0 : Int) (a1 : Int) : Option (Int) := if (Go.bits .and .u16 (IntKind.u16.wrap (a0 - a1)) 32767) ≤ 16384 then (some (Go.bits .and .u16 (IntKind.u16.wrap (a0 - a1)) 32767)) else (some (IntKind.u16.wrap ((Go.bits .and .u16 (IntKind.u16.wrap (a0 - a1)) 32767) - 1)))
theorem onescomp_TwosDiff.calls (a0 : Int) (a1 : Int) (r : Int) (w : World) (h : onescomp_TwosDiff.f a0 a1 = some r) :
 Calls Tryz.prog 113 #[.int .u16 a0, .int .u16 a1] w fun e w' => e = .returned (.int .u16 r) ∧ Drawn0 w w' := by
 have H : (if (Go.bits .and .u16 (IntKind.u16.wrap (a0 - a1)) 32767) ≤ 16384 then (some (Go.bits .and .u16 (IntKind.u16.wrap (a0 - a1)) 32767)) else (some (IntKind.u16.wrap ((Go.bits .and .u16 (IntKind.u16.wrap (a0 - a1)) 32767) - 1)))) = some r := h
 clear h
 by_cases c3 : (Go.bits .and .u16 (IntKind.u16.wrap (a0 - a1)) 32767) ≤ 16384
 · rw [if_pos c3] at H
   have c3b0 : decide ((Go.bits .and .u16 (IntKind.u16.wrap (a0 - a1)) 32767) ≤ 16384) = true := decide_eq_true c3
   clear c3
   obtain rfl := Option.some.inj H
   go_enter Tryz.func113, Tryz.ntmps113
   go_wp2
   go_ret
   exact ⟨by first | rfl | (simp; done) | (simp [*]; done), by repeat (first | exact Drawn0.refl _ | apply Drawn0.step)⟩
 · rw [if_neg c3] at H
   have c3b0 : decide ((Go.bits .and .u16 (IntKind.u16.wrap (a0 - a1)) 32767) ≤ 16384) = false := decide_eq_false c3
   clear c3
   obtain rfl := Option.some.inj H
   go_enter Tryz.func113, Tryz.ntmps113
   go_wp2
   go_ret
   exact ⟨by first | rfl | (simp; done) | (simp [*]; done), by repeat (first | exact Drawn0.refl _ | apply Drawn0.step)⟩
end Go.Proofs.YthfobpkdloejfaaGreat.PAll
end
