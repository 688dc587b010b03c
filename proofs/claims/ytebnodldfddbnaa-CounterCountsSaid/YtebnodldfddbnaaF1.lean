/- Functions of the program as plain Lean functions, each with the proof that its call computes it (printed by program, cut by leaf.py): counter_known, onescomp_Extend, periluneref01_Low, periluneref01_Add, periluneref06_bit. -/
import Derived.Test.YtebnodldfddbnaaF0
namespace Go.Proofs.Ytebnodldfddbnaa.PAll
open Go.RowKit Go.Proofs.YtebnodldfddbnaaW.PrintWords Go.Proofs.YtebnodldfddbnaaW.PrintLast Go.Proofs.YtebnodldfddbnaaW.PrintMore
attribute [local go_sem] max2_int min2_int max_two min_two max_three min_three max_four min_four   -- for this text's walks alone
set_option linter.unusedVariables false
set_option linter.unusedSimpArgs false

theorem eqA26 (d : Nat) (w : World) (x0 y0 : Int) (x1 y1 : Int) :
    (Op.equalIn (d + 2) 26 (.agg #[.int .i64 x0, .int .u8 x1]) (.agg #[.int .i64 y0, .int .u8 y1])).run Try.prog w = .ok (x0 == y0 && (x1 == y1)) w := by
  refine eqA_of Try.underlying26 (by kernel_rfl) ?_
  refine eqf_cons (by rfl) (by go_simp; rfl) (by go_simp; rfl) (by go_simp) ?_
  exact eqf_last (by rfl) (by go_simp; rfl) (by go_simp; rfl) (by go_simp)
/-! ### counter_known: function 28 -/
def counter_known.f (a0 : Int) : Option (Bool) := if a0 > 0 then (some (decide (a0 ≤ 7))) else (some false)
set_option maxHeartbeats 8000000 in
set_option maxRecDepth 100000 in
theorem counter_known.calls (a0 : Int) (r : Bool) (w : World) (h : counter_known.f a0 = some r) :
    Calls Try.prog 28 #[.int .u8 a0] w fun e w' => e = .returned (.bool r) ∧ Drawn0 w w' := by
  have H : (if a0 > 0 then (some (decide (a0 ≤ 7))) else (some false)) = some r := h
  clear h
  by_cases c2 : a0 > 0
  · rw [if_pos c2] at H
    have c2b0 : decide (0 < a0) = true := decide_eq_true c2
    clear c2
    obtain rfl := Option.some.inj H
    go_enter Try.func28, Try.ntmps28
    go_wp2
    go_ret
    exact ⟨by first | rfl | (simp; done) | (simp [*]; done), by repeat (first | exact Drawn0.refl _ | apply Drawn0.step)⟩
  · rw [if_neg c2] at H
    have c2b0 : decide (0 < a0) = false := decide_eq_false c2
    clear c2
    obtain rfl := Option.some.inj H
    go_enter Try.func28, Try.ntmps28
    go_wp2
    go_ret
    exact ⟨by first | rfl | (simp; done) | (simp [*]; done), by repeat (first | exact Drawn0.refl _ | apply Drawn0.step)⟩

-- NOT PRINTED: function 33 (counter_step)

-- NOT PRINTED: function 34 (counter_turn)

-- NOT PRINTED: function 40 (onescomp_Class)

/-! ### onescomp_Extend: function 41 -/
def onescomp_Extend.f (a0 : Int) : Option (Int) := some (Go.bits .or .u16 (Go.bits .and .u16 a0 32767) (IntKind.u16.wrap ((Go.bits .and .u16 (Go.bits .and .u16 a0 32767) 16384) * 2)))
set_option maxHeartbeats 8000000 in
set_option maxRecDepth 100000 in
theorem onescomp_Extend.calls (a0 : Int) (r : Int) (w : World) (h : onescomp_Extend.f a0 = some r) :
    Calls Try.prog 41 #[.int .u16 a0] w fun e w' => e = .returned (.int .u16 r) ∧ Drawn0 w w' := by
  have H : (some (Go.bits .or .u16 (Go.bits .and .u16 a0 32767) (IntKind.u16.wrap ((Go.bits .and .u16 (Go.bits .and .u16 a0 32767) 16384) * 2)))) = some r := h
  clear h
  obtain rfl := Option.some.inj H
  go_enter Try.func41, Try.ntmps41
  go_wp2
  go_ret
  exact ⟨by first | rfl | (simp; done) | (simp [*]; done), by repeat (first | exact Drawn0.refl _ | apply Drawn0.step)⟩

-- NOT PRINTED: function 35 (counter_diminish)

-- NOT PRINTED: function 36 (counter_shift)

-- NOT PRINTED: function 29 (counter_pulses)

-- NOT PRINTED: function 11 (counter_Apply)

/-! ### periluneref01_Low: function 30 -/
def periluneref01_Low.f (a0 : Int) : Option (Int) := some (Int.tmod (wrap64 (a0)) 32768)
set_option maxHeartbeats 8000000 in
set_option maxRecDepth 100000 in
theorem periluneref01_Low.calls (a0 : Int) (r : Int) (w : World) (h : periluneref01_Low.f a0 = some r) :
    Calls Try.prog 30 #[.int .u16 a0] w fun e w' => e = .returned (.int .i64 r) ∧ Drawn0 w w' := by
  have H : (some (Int.tmod (wrap64 (a0)) 32768)) = some r := h
  clear h
  obtain rfl := Option.some.inj H
  go_enter Try.func30, Try.ntmps30
  go_wp2
  go_ret
  exact ⟨by first | rfl | (simp; done) | (simp [*]; done), by repeat (first | exact Drawn0.refl _ | apply Drawn0.step)⟩

/-! ### periluneref01_Add: function 31 -/
def periluneref01_Add.f (a0 : Int) (a1 : Int) : Option (Int) := (periluneref01_Low.f a0).bind fun t103 => ((periluneref01_Low.f a1).bind fun t104 => (if (wrap64 (t103 + t104)) > 32767 then (some (IntKind.u16.wrap (wrap64 ((wrap64 (t103 + t104)) - 32767)))) else (some (IntKind.u16.wrap (wrap64 (t103 + t104))))))
set_option maxHeartbeats 8000000 in
set_option maxRecDepth 100000 in
theorem periluneref01_Add.calls (a0 : Int) (a1 : Int) (r : Int) (w : World) (h : periluneref01_Add.f a0 a1 = some r) :
    Calls Try.prog 31 #[.int .u16 a0, .int .u16 a1] w fun e w' => e = .returned (.int .u16 r) ∧ Drawn0 w w' := by
  have H : ((periluneref01_Low.f a0).bind fun t103 => ((periluneref01_Low.f a1).bind fun t104 => (if (wrap64 (t103 + t104)) > 32767 then (some (IntKind.u16.wrap (wrap64 ((wrap64 (t103 + t104)) - 32767)))) else (some (IntKind.u16.wrap (wrap64 (t103 + t104))))))) = some r := h
  clear h
  replace H := Option.bind_eq_some_iff.mp H
  obtain ⟨t103, A30, H⟩ := H
  replace H : ((periluneref01_Low.f a1).bind fun t104 => (if (wrap64 (t103 + t104)) > 32767 then (some (IntKind.u16.wrap (wrap64 ((wrap64 (t103 + t104)) - 32767)))) else (some (IntKind.u16.wrap (wrap64 (t103 + t104)))))) = some r := H
  have A3 := Aside0.mk A30
  clear A30
  replace H := Option.bind_eq_some_iff.mp H
  obtain ⟨t104, A40, H⟩ := H
  replace H : (if (wrap64 (t103 + t104)) > 32767 then (some (IntKind.u16.wrap (wrap64 ((wrap64 (t103 + t104)) - 32767)))) else (some (IntKind.u16.wrap (wrap64 (t103 + t104))))) = some r := H
  have A4 := Aside0.mk A40
  clear A40
  by_cases c5 : (wrap64 (t103 + t104)) > 32767
  · rw [if_pos c5] at H
    have c5b0 : decide (32767 < (wrap64 (t103 + t104))) = true := decide_eq_true c5
    clear c5
    obtain rfl := Option.some.inj H
    go_enter Try.func31, Try.ntmps31
    go_wp2_with (first | ((with_reducible refine gate_callee (f := 30) rfl ?_); refine goesL_ (some 7) rfl rfl Try.func30 (by kernel_rfl) rfl #[.int .u16 a0] rfl (by (try simp only [List.map_toArray, List.map_cons, List.map_nil]); first | done | rfl | (simp only [List.length_drop, List.length_take]; rfl)) ?_; (with_reducible refine (periluneref01_Low.calls a0 t103 _ A3.out).mono ?_); rintro e w' ⟨rfl, ⟨nd, rfl⟩⟩; refine ⟨_, rfl, ?_⟩) | ((with_reducible refine gate_callee (f := 30) rfl ?_); refine goesL_ (some 9) rfl rfl Try.func30 (by kernel_rfl) rfl #[.int .u16 a1] rfl (by (try simp only [List.map_toArray, List.map_cons, List.map_nil]); first | done | rfl | (simp only [List.length_drop, List.length_take]; rfl)) ?_; (with_reducible refine (periluneref01_Low.calls a1 t104 _ A4.out).mono ?_); rintro e w' ⟨rfl, ⟨nd, rfl⟩⟩; refine ⟨_, rfl, ?_⟩))
    go_ret
    exact ⟨by first | rfl | (simp; done) | (simp [*]; done), by repeat (first | exact Drawn0.refl _ | apply Drawn0.step)⟩
  · rw [if_neg c5] at H
    have c5b0 : decide (32767 < (wrap64 (t103 + t104))) = false := decide_eq_false c5
    clear c5
    obtain rfl := Option.some.inj H
    go_enter Try.func31, Try.ntmps31
    go_wp2_with (first | ((with_reducible refine gate_callee (f := 30) rfl ?_); refine goesL_ (some 7) rfl rfl Try.func30 (by kernel_rfl) rfl #[.int .u16 a0] rfl (by (try simp only [List.map_toArray, List.map_cons, List.map_nil]); first | done | rfl | (simp only [List.length_drop, List.length_take]; rfl)) ?_; (with_reducible refine (periluneref01_Low.calls a0 t103 _ A3.out).mono ?_); rintro e w' ⟨rfl, ⟨nd, rfl⟩⟩; refine ⟨_, rfl, ?_⟩) | ((with_reducible refine gate_callee (f := 30) rfl ?_); refine goesL_ (some 9) rfl rfl Try.func30 (by kernel_rfl) rfl #[.int .u16 a1] rfl (by (try simp only [List.map_toArray, List.map_cons, List.map_nil]); first | done | rfl | (simp only [List.length_drop, List.length_take]; rfl)) ?_; (with_reducible refine (periluneref01_Low.calls a1 t104 _ A4.out).mono ?_); rintro e w' ⟨rfl, ⟨nd, rfl⟩⟩; refine ⟨_, rfl, ?_⟩))
    go_ret
    exact ⟨by first | rfl | (simp; done) | (simp [*]; done), by repeat (first | exact Drawn0.refl _ | apply Drawn0.step)⟩

/-! ### periluneref06_bit: function 32 -/
def periluneref06_bit.f (a0 : Bool) : Option (Int) := if a0 = true then (some 1) else (some 0)
set_option maxHeartbeats 8000000 in
set_option maxRecDepth 100000 in
theorem periluneref06_bit.calls (a0 : Bool) (r : Int) (w : World) (h : periluneref06_bit.f a0 = some r) :
    Calls Try.prog 32 #[.bool a0] w fun e w' => e = .returned (.int .i64 r) ∧ Drawn0 w w' := by
  have H : (if a0 = true then (some 1) else (some 0)) = some r := h
  clear h
  by_cases c2 : a0 = true
  · subst c2
    have H1 : (some 1) = some r := by rw [if_pos rfl] at H; exact H
    clear H
    have H := H1
    clear H1
    obtain rfl := Option.some.inj H
    go_enter Try.func32, Try.ntmps32
    go_wp2
    go_ret
    exact ⟨by first | rfl | (simp; done) | (simp [*]; done), by repeat (first | exact Drawn0.refl _ | apply Drawn0.step)⟩
  · replace c2 := Bool.eq_false_iff.mpr c2
    subst c2
    have H1 : (some 0) = some r := by rw [if_neg (show ¬ (false = true) by decide)] at H; exact H
    clear H
    have H := H1
    clear H1
    obtain rfl := Option.some.inj H
    go_enter Try.func32, Try.ntmps32
    go_wp2
    go_ret
    exact ⟨by first | rfl | (simp; done) | (simp [*]; done), by repeat (first | exact Drawn0.refl _ | apply Drawn0.step)⟩

end Go.Proofs.Ytebnodldfddbnaa.PAll
