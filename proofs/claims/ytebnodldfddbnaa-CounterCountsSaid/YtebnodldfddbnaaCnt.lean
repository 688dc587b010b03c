/- counter.Apply: what it computes, and its contract; no condition but the ranges of the kinds. -/
import Derived.Test.YtebnodldfddbnaaOne
import Derived.Test.YtebnodldfddbnaaLit
namespace Go.Proofs.Ytebnodldfddbnaa.Cnt
open Go.RowKit Go.Proofs.Ytebnodldfddbnaa.PAll Go.Proofs.YtebnodldfddbnaaW.PrintWords Go.Proofs.YtebnodldfddbnaaW.PrintLast Go.Proofs.YtebnodldfddbnaaW.PrintMore Go.Proofs.Ytebnodldfddbnaa.Plain Go.Proofs.Ytebnodldfddbnaa.One
set_option linter.unusedVariables false
set_option linter.unusedSimpArgs false
theorem step1_c (x un en th sg : Int) (x0 : 0 ≤ x) (x1 : x < 65536) (n0 : 0 ≤ un) (n1 : un < 65536) (a1 a2 a3 a4 : Addr) (w : World) (h1 : w.cell? a1 = some (.int .u16 en)) (h2 : w.cell? a2 = some (.int .u16 th)) (h3 : w.cell? a3 = some (.int .i64 sg)) (h4 : w.cell? a4 = some (.int .u16 un)) :
    Calls Try.prog 37 #[.int .u16 x, .pointer (some a1), .pointer (some a2), .pointer (some a3), .pointer (some a4)] w fun e w' => e = .returned (.tuple #[.int .u16 (if x = en then th else addI x un), .int .i64 (if x = en then sg else 0)]) ∧ Drawn0 w w' := by
  by_cases c : x = en
  · have b0 : (x == en) = true := by rw [beq_iff_eq]; exact c
    rw [if_pos c, if_pos c]
    clear c
    go_enter Try.func37, Try.ntmps37
    go_wp2
    go_quiet (fail)
    go_wp2
    go_ret2
    exact ⟨rfl, by repeat (first | exact Drawn0.refl _ | apply Drawn0.step)⟩
  · have b0 : (x == en) = false := by rw [beq_eq_false_iff_ne]; exact c
    rw [if_neg c, if_neg c]
    clear c
    have K := Lib.hid (add_c x un x0 x1 n0 n1)
    go_enter Try.func37, Try.ntmps37
    go_wp2_with (go_at_call 38; (with_reducible refine (K.out _).mono ?_); rintro e w' ⟨rfl, ⟨nd, rfl⟩⟩)
    go_ret2
    exact ⟨rfl, by repeat (first | exact Drawn0.refl _ | apply Drawn0.step)⟩
theorem turn1_c (x un : Int) (x0 : 0 ≤ x) (x1 : x < 32768) (n0 : 0 ≤ un) (n1 : un < 32768) (a1 : Addr) (w : World) (h1 : w.cell? a1 = some (.int .u16 un)) :
    Calls Try.prog 39 #[.int .u16 x, .pointer (some a1)] w fun e w' => e = .returned (.tuple #[.int .u16 ((x + un) % 32768), .int .i64 0]) ∧ Drawn0 w w' := by
  have u0 : IntKind.u16.wrap (x + un) = x + un := u16w (by omega) (by omega)
  have u1 : Go.bits .and .u16 (x + un) 32767 = (x + un) % 32768 := and_32767 (by omega) (by omega)
  go_enter Try.func39, Try.ntmps39
  go_wp2
  go_ret2
  exact ⟨rfl, by repeat (first | exact Drawn0.refl _ | apply Drawn0.step)⟩
theorem shift1_c (x b : Int) (x0 : 0 ≤ x) (x1 : x < 32768) (n0 : 0 ≤ b) (n1 : b < 2) (a1 : Addr) (w : World) (h1 : w.cell? a1 = some (.int .u16 b)) :
    Calls Try.prog 42 #[.int .u16 x, .pointer (some a1)] w fun e w' => e = .returned (.tuple #[.int .u16 ((2 * x + b) % 32768), .int .i64 (x / 16384)]) ∧ Drawn0 w w' := by
  have u0 : IntKind.u16.wrap (x * 2) = x * 2 := u16w (by omega) (by omega)
  have u1 : Go.bits .or .u16 (x * 2) b = x * 2 + b := or_high 1 (by omega) (by omega) (by omega) (by omega) (by omega) (by omega)
  have u2 : Go.bits .and .u16 (x * 2 + b) 32767 = (2 * x + b) % 32768 := by rw [Int.mul_comm 2 x]; exact and_32767 (by omega) (by omega)
  go_enter Try.func42, Try.ntmps42
  go_wp2
  go_ret2
  exact ⟨by simp, by repeat (first | exact Drawn0.refl _ | apply Drawn0.step)⟩
def dmN (n : Int) : Int := if 1 ≤ n ∧ n ≤ 16383 then n - 1 else if 16384 ≤ n ∧ n ≤ 32766 then n + 1 else n
def dmS (n : Int) : Int := if 1 ≤ n ∧ n ≤ 16383 then 1 else if 16384 ≤ n ∧ n ≤ 32766 then -1 else 0
theorem dim_c (x : Int) (x0 : 0 ≤ x) (x1 : x < 32768) (w : World) :
    Calls Try.prog 35 #[.int .u16 x] w fun e w' => e = .returned (.tuple #[.int .u16 (dmN x), .int .i64 (dmS x)]) ∧ Drawn0 w w' := by
  have hx : extI x = if x > 16383 then x + 32768 else x := by unfold extI; rw [show x % 32768 = x by omega]
  have K1 := Lib.hid (ext_c x x0 (by omega))
  have e0 : 0 ≤ extI x := by rw [hx]; split <;> omega
  have e1 : extI x < 65536 := by rw [hx]; split <;> omega
  have K2 := cls_c (extI x) e0 e1
  unfold dmN dmS
  by_cases c1 : 1 ≤ x ∧ x ≤ 16383
  · have hc : clsI (extI x) = 0 := by rw [hx]; unfold clsI; repeat' split; all_goals omega
    rw [hc] at K2
    replace K2 := Lib.hid K2
    rw [if_pos c1, if_pos c1]
    have u0 : IntKind.u16.wrap (x - 1) = x - 1 := u16w (by omega) (by omega)
    clear hx e0 e1 hc c1
    go_enter Try.func35, Try.ntmps35
    go_wp2_with (first | (go_at_call 41; (with_reducible refine (K1.out _).mono ?_); rintro e w' ⟨rfl, ⟨nd, rfl⟩⟩) | (go_at_call 40; (with_reducible refine (K2.out _).mono ?_); rintro e w' ⟨rfl, ⟨nd, rfl⟩⟩))
    go_ret2
    exact ⟨rfl, by repeat (first | exact Drawn0.refl _ | apply Drawn0.step)⟩
  · rw [if_neg c1, if_neg c1]
    by_cases c2 : 16384 ≤ x ∧ x ≤ 32766
    · have hc : clsI (extI x) = 2 := by rw [hx]; unfold clsI; repeat' split; all_goals omega
      rw [hc] at K2
      replace K2 := Lib.hid K2
      rw [if_pos c2, if_pos c2]
      have u0 : IntKind.u16.wrap (x + 1) = x + 1 := u16w (by omega) (by omega)
      clear hx e0 e1 hc c1 c2
      go_enter Try.func35, Try.ntmps35
      go_wp2_with (first | (go_at_call 41; (with_reducible refine (K1.out _).mono ?_); rintro e w' ⟨rfl, ⟨nd, rfl⟩⟩) | (go_at_call 40; (with_reducible refine (K2.out _).mono ?_); rintro e w' ⟨rfl, ⟨nd, rfl⟩⟩))
      go_ret2
      exact ⟨rfl, by repeat (first | exact Drawn0.refl _ | apply Drawn0.step)⟩
    · obtain ⟨c, hcc, hcx⟩ : ∃ c, clsI (extI x) = c ∧ (c = 1 ∨ c = 3) := ⟨_, rfl, by rw [hx]; unfold clsI; repeat' split; all_goals omega⟩
      rw [hcc] at K2
      replace K2 := Lib.hid K2
      rw [if_neg c2, if_neg c2]
      have b0 : (c == 0) = false := by rw [beq_eq_false_iff_ne]; omega
      have b1 : (c == 2) = false := by rw [beq_eq_false_iff_ne]; omega
      clear hx e0 e1 hcc c1 c2 hcx
      go_enter Try.func35, Try.ntmps35
      go_wp2_with (first | (go_at_call 41; (with_reducible refine (K1.out _).mono ?_); rintro e w' ⟨rfl, ⟨nd, rfl⟩⟩) | (go_at_call 40; (with_reducible refine (K2.out _).mono ?_); rintro e w' ⟨rfl, ⟨nd, rfl⟩⟩))
      go_ret2
      exact ⟨rfl, by repeat (first | exact Drawn0.refl _ | apply Drawn0.step)⟩

/-! ### The table of the pulses -/
theorem step_c (un en th sg : Int) (w : World) : Calls Try.prog 33 #[.int .u16 un, .int .u16 en, .int .u16 th, .int .i64 sg] w fun e w' =>
    e = .returned (.func (.func 37) #[] #[.pointer (some ⟨w.heap.size + 1, 0, none⟩), .pointer (some ⟨w.heap.size + 2, 0, none⟩), .pointer (some ⟨w.heap.size + 3, 0, none⟩), .pointer (some ⟨w.heap.size, 0, none⟩)]) ∧
      (w'.cell? ⟨w.heap.size + 1, 0, none⟩ = some (.int .u16 en) ∧ w'.cell? ⟨w.heap.size + 2, 0, none⟩ = some (.int .u16 th) ∧ w'.cell? ⟨w.heap.size + 3, 0, none⟩ = some (.int .i64 sg) ∧ w'.cell? ⟨w.heap.size, 0, none⟩ = some (.int .u16 un)) ∧ Below w.heap.size w w' := by
  go_enter Try.func33, Try.ntmps33
  go_wp2
  go_ret
  refine ⟨rfl, ⟨?_, ?_, ?_, ?_⟩, by repeat (first | exact Below.refl _ _ | apply below_alloc)⟩
  all_goals go_simp
theorem turn_c (un : Int) (w : World) : Calls Try.prog 34 #[.int .u16 un] w fun e w' =>
    e = .returned (.func (.func 39) #[] #[.pointer (some ⟨w.heap.size, 0, none⟩)]) ∧ w'.cell? ⟨w.heap.size, 0, none⟩ = some (.int .u16 un) ∧ Below w.heap.size w w' := by
  go_enter Try.func34, Try.ntmps34
  go_wp2
  go_ret
  refine ⟨rfl, ?_, by repeat (first | exact Below.refl _ _ | apply below_alloc)⟩
  go_simp
theorem shift_c (un : Int) (w : World) : Calls Try.prog 36 #[.int .u16 un] w fun e w' =>
    e = .returned (.func (.func 42) #[] #[.pointer (some ⟨w.heap.size, 0, none⟩)]) ∧ w'.cell? ⟨w.heap.size, 0, none⟩ = some (.int .u16 un) ∧ Below w.heap.size w w' := by
  go_enter Try.func36, Try.ntmps36
  go_wp2
  go_ret
  refine ⟨rfl, ?_, by repeat (first | exact Below.refl _ _ | apply below_alloc)⟩
  go_simp
end Go.Proofs.Ytebnodldfddbnaa.Cnt
