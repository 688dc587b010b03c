/- Functions of the program as plain Lean functions, each with the proof that its call computes it (printed by program, cut by leaf.py): onescomp_Extend, periluneref01_Extend, periluneref01_AddAcc, periluneref01_NegAcc, periluneref01_Overflow, onescomp_Correct, periluneref01_Correct, periluneref01_Class, periluneref01_Magnitude, periluneref01_Diminish. -/
import Derived.Test.YtipcnefiadnlmaaF2
namespace Go.Proofs.Ytipcnefiadnlmaa.PAll
open Go.RowKit Go.Proofs.YtipcnefiadnlmaaW.PrintWords Go.Proofs.YtipcnefiadnlmaaW.PrintLast Go.Proofs.YtipcnefiadnlmaaW.PrintMore
attribute [local go_sem] max2_int min2_int max_two min_two max_three min_three max_four min_four   -- for this text's walks alone
set_option linter.unusedVariables false
set_option linter.unusedSimpArgs false

/-! ### onescomp_Extend: function 32 -/
def onescomp_Extend.f (a0 : Int) : Option (Int) := some (Go.bits .or .u16 (Go.bits .and .u16 a0 32767) (IntKind.u16.wrap ((Go.bits .and .u16 (Go.bits .and .u16 a0 32767) 16384) * 2)))
set_option maxHeartbeats 8000000 in
set_option maxRecDepth 100000 in
theorem onescomp_Extend.calls (a0 : Int) (r : Int) (w : World) (h : onescomp_Extend.f a0 = some r) :
    Calls Try.prog 32 #[.int .u16 a0] w fun e w' => e = .returned (.int .u16 r) ∧ Drawn0 w w' := by
  have H : (some (Go.bits .or .u16 (Go.bits .and .u16 a0 32767) (IntKind.u16.wrap ((Go.bits .and .u16 (Go.bits .and .u16 a0 32767) 16384) * 2)))) = some r := h
  clear h
  obtain rfl := Option.some.inj H
  go_enter Try.func32, Try.ntmps32
  go_wp2
  go_ret
  exact ⟨by first | rfl | (simp; done) | (simp [*]; done), by repeat (first | exact Drawn0.refl _ | apply Drawn0.step)⟩

/-! ### periluneref01_Extend: function 33 -/
def periluneref01_Extend.f (a0 : Int) : Option (Int) := (periluneref01_Low.f a0).bind fun t129 => (if t129 > 16383 then (some (IntKind.u16.wrap (wrap64 (t129 + 32768)))) else (some (IntKind.u16.wrap (t129))))
set_option maxHeartbeats 8000000 in
set_option maxRecDepth 100000 in
theorem periluneref01_Extend.calls (a0 : Int) (r : Int) (w : World) (h : periluneref01_Extend.f a0 = some r) :
    Calls Try.prog 33 #[.int .u16 a0] w fun e w' => e = .returned (.int .u16 r) ∧ Drawn0 w w' := by
  have H : ((periluneref01_Low.f a0).bind fun t129 => (if t129 > 16383 then (some (IntKind.u16.wrap (wrap64 (t129 + 32768)))) else (some (IntKind.u16.wrap (t129))))) = some r := h
  clear h
  replace H := Option.bind_eq_some_iff.mp H
  obtain ⟨t129, A20, H⟩ := H
  replace H : (if t129 > 16383 then (some (IntKind.u16.wrap (wrap64 (t129 + 32768)))) else (some (IntKind.u16.wrap (t129)))) = some r := H
  have A2 := Aside0.mk A20
  clear A20
  by_cases c3 : t129 > 16383
  · rw [if_pos c3] at H
    have c3b0 : decide (16383 < t129) = true := decide_eq_true c3
    clear c3
    obtain rfl := Option.some.inj H
    go_enter Try.func33, Try.ntmps33
    go_wp2_with (first | ((with_reducible refine gate_callee (f := 48) rfl ?_); refine goesL_ (some 5) rfl rfl Try.func48 (by kernel_rfl) rfl #[.int .u16 a0] rfl (by (try simp only [List.map_toArray, List.map_cons, List.map_nil]); first | done | rfl | (simp only [List.length_drop, List.length_take]; rfl)) ?_; (with_reducible refine (periluneref01_Low.calls a0 t129 _ A2.out).mono ?_); rintro e w' ⟨rfl, ⟨nd, rfl⟩⟩; refine ⟨_, rfl, ?_⟩))
    go_ret
    exact ⟨by first | rfl | (simp; done) | (simp [*]; done), by repeat (first | exact Drawn0.refl _ | apply Drawn0.step)⟩
  · rw [if_neg c3] at H
    have c3b0 : decide (16383 < t129) = false := decide_eq_false c3
    clear c3
    obtain rfl := Option.some.inj H
    go_enter Try.func33, Try.ntmps33
    go_wp2_with (first | ((with_reducible refine gate_callee (f := 48) rfl ?_); refine goesL_ (some 5) rfl rfl Try.func48 (by kernel_rfl) rfl #[.int .u16 a0] rfl (by (try simp only [List.map_toArray, List.map_cons, List.map_nil]); first | done | rfl | (simp only [List.length_drop, List.length_take]; rfl)) ?_; (with_reducible refine (periluneref01_Low.calls a0 t129 _ A2.out).mono ?_); rintro e w' ⟨rfl, ⟨nd, rfl⟩⟩; refine ⟨_, rfl, ?_⟩))
    go_ret
    exact ⟨by first | rfl | (simp; done) | (simp [*]; done), by repeat (first | exact Drawn0.refl _ | apply Drawn0.step)⟩

/-! ### periluneref01_AddAcc: function 35 -/
def periluneref01_AddAcc.f (a0 : Int) (a1 : Int) : Option (Int) := if (wrap64 ((wrap64 (a0)) + (wrap64 (a1)))) > 65535 then (some (IntKind.u16.wrap (wrap64 ((wrap64 ((wrap64 (a0)) + (wrap64 (a1)))) - 65535)))) else (some (IntKind.u16.wrap (wrap64 ((wrap64 (a0)) + (wrap64 (a1))))))
set_option maxHeartbeats 8000000 in
set_option maxRecDepth 100000 in
theorem periluneref01_AddAcc.calls (a0 : Int) (a1 : Int) (r : Int) (w : World) (h : periluneref01_AddAcc.f a0 a1 = some r) :
    Calls Try.prog 35 #[.int .u16 a0, .int .u16 a1] w fun e w' => e = .returned (.int .u16 r) ∧ Drawn0 w w' := by
  have H : (if (wrap64 ((wrap64 (a0)) + (wrap64 (a1)))) > 65535 then (some (IntKind.u16.wrap (wrap64 ((wrap64 ((wrap64 (a0)) + (wrap64 (a1)))) - 65535)))) else (some (IntKind.u16.wrap (wrap64 ((wrap64 (a0)) + (wrap64 (a1))))))) = some r := h
  clear h
  by_cases c3 : (wrap64 ((wrap64 (a0)) + (wrap64 (a1)))) > 65535
  · rw [if_pos c3] at H
    have c3b0 : decide (65535 < (wrap64 ((wrap64 (a0)) + (wrap64 (a1))))) = true := decide_eq_true c3
    clear c3
    obtain rfl := Option.some.inj H
    go_enter Try.func35, Try.ntmps35
    go_wp2
    go_ret
    exact ⟨by first | rfl | (simp; done) | (simp [*]; done), by repeat (first | exact Drawn0.refl _ | apply Drawn0.step)⟩
  · rw [if_neg c3] at H
    have c3b0 : decide (65535 < (wrap64 ((wrap64 (a0)) + (wrap64 (a1))))) = false := decide_eq_false c3
    clear c3
    obtain rfl := Option.some.inj H
    go_enter Try.func35, Try.ntmps35
    go_wp2
    go_ret
    exact ⟨by first | rfl | (simp; done) | (simp [*]; done), by repeat (first | exact Drawn0.refl _ | apply Drawn0.step)⟩

-- NOT PRINTED: function 36 (onescomp_NegAcc)

/-! ### periluneref01_NegAcc: function 37 -/
def periluneref01_NegAcc.f (a0 : Int) : Option (Int) := some (IntKind.u16.wrap (wrap64 (65535 - (wrap64 (a0)))))
set_option maxHeartbeats 8000000 in
set_option maxRecDepth 100000 in
theorem periluneref01_NegAcc.calls (a0 : Int) (r : Int) (w : World) (h : periluneref01_NegAcc.f a0 = some r) :
    Calls Try.prog 37 #[.int .u16 a0] w fun e w' => e = .returned (.int .u16 r) ∧ Drawn0 w w' := by
  have H : (some (IntKind.u16.wrap (wrap64 (65535 - (wrap64 (a0)))))) = some r := h
  clear h
  obtain rfl := Option.some.inj H
  go_enter Try.func37, Try.ntmps37
  go_wp2
  go_ret
  exact ⟨by first | rfl | (simp; done) | (simp [*]; done), by repeat (first | exact Drawn0.refl _ | apply Drawn0.step)⟩

/-! ### periluneref01_Overflow: function 39 -/
def periluneref01_Overflow.f (a0 : Int) : Option (Int) := some (wrap64 ((Int.tmod (wrap64 (Int.tdiv (wrap64 (a0)) 16384)) 2) - (wrap64 (Int.tdiv (wrap64 (a0)) 32768))))
set_option maxHeartbeats 8000000 in
set_option maxRecDepth 100000 in
theorem periluneref01_Overflow.calls (a0 : Int) (r : Int) (w : World) (h : periluneref01_Overflow.f a0 = some r) :
    Calls Try.prog 39 #[.int .u16 a0] w fun e w' => e = .returned (.int .i64 r) ∧ Drawn0 w w' := by
  have H : (some (wrap64 ((Int.tmod (wrap64 (Int.tdiv (wrap64 (a0)) 16384)) 2) - (wrap64 (Int.tdiv (wrap64 (a0)) 32768))))) = some r := h
  clear h
  obtain rfl := Option.some.inj H
  go_enter Try.func39, Try.ntmps39
  go_wp2
  go_ret
  exact ⟨by first | rfl | (simp; done) | (simp [*]; done), by repeat (first | exact Drawn0.refl _ | apply Drawn0.step)⟩

/-! ### onescomp_Correct: function 40 -/
def onescomp_Correct.f (a0 : Int) : Option (Int) := some (Go.bits .or .u16 (IntKind.u16.wrap ((a0 / 32768) * 16384)) (Go.bits .and .u16 a0 16383))
set_option maxHeartbeats 8000000 in
set_option maxRecDepth 100000 in
theorem onescomp_Correct.calls (a0 : Int) (r : Int) (w : World) (h : onescomp_Correct.f a0 = some r) :
    Calls Try.prog 40 #[.int .u16 a0] w fun e w' => e = .returned (.int .u16 r) ∧ Drawn0 w w' := by
  have H : (some (Go.bits .or .u16 (IntKind.u16.wrap ((a0 / 32768) * 16384)) (Go.bits .and .u16 a0 16383))) = some r := h
  clear h
  obtain rfl := Option.some.inj H
  go_enter Try.func40, Try.ntmps40
  go_wp2
  go_ret
  exact ⟨by first | rfl | (simp; done) | (simp [*]; done), by repeat (first | exact Drawn0.refl _ | apply Drawn0.step)⟩

/-! ### periluneref01_Correct: function 41 -/
def periluneref01_Correct.f (a0 : Int) : Option (Int) := some (IntKind.u16.wrap (wrap64 ((wrap64 ((wrap64 (Int.tdiv (wrap64 (a0)) 32768)) * 16384)) + (Int.tmod (wrap64 (a0)) 16384))))
set_option maxHeartbeats 8000000 in
set_option maxRecDepth 100000 in
theorem periluneref01_Correct.calls (a0 : Int) (r : Int) (w : World) (h : periluneref01_Correct.f a0 = some r) :
    Calls Try.prog 41 #[.int .u16 a0] w fun e w' => e = .returned (.int .u16 r) ∧ Drawn0 w w' := by
  have H : (some (IntKind.u16.wrap (wrap64 ((wrap64 ((wrap64 (Int.tdiv (wrap64 (a0)) 32768)) * 16384)) + (Int.tmod (wrap64 (a0)) 16384))))) = some r := h
  clear h
  obtain rfl := Option.some.inj H
  go_enter Try.func41, Try.ntmps41
  go_wp2
  go_ret
  exact ⟨by first | rfl | (simp; done) | (simp [*]; done), by repeat (first | exact Drawn0.refl _ | apply Drawn0.step)⟩

/-! ### periluneref01_Class: function 43 -/
def periluneref01_Class.f (a0 : Int) : Option (Int) := if a0 = 0 then (some 1) else (if a0 = 65535 then (some 3) else (if a0 ≤ 32767 then (some 0) else (some 2)))
set_option maxHeartbeats 8000000 in
set_option maxRecDepth 100000 in
theorem periluneref01_Class.calls (a0 : Int) (r : Int) (w : World) (h : periluneref01_Class.f a0 = some r) :
    Calls Try.prog 43 #[.int .u16 a0] w fun e w' => e = .returned (.int .i64 r) ∧ Drawn0 w w' := by
  have H : (if a0 = 0 then (some 1) else (if a0 = 65535 then (some 3) else (if a0 ≤ 32767 then (some 0) else (some 2)))) = some r := h
  clear h
  by_cases c2 : a0 = 0
  · rw [if_pos c2] at H
    have c2b0 : (a0 == 0) = true := beq_iff_eq.mpr c2
    have c2b1 : (a0 != 0) = false := bne_eq_false_iff_eq.mpr c2
    clear c2
    obtain rfl := Option.some.inj H
    go_enter Try.func43, Try.ntmps43
    go_wp2
    go_ret
    exact ⟨by first | rfl | (simp; done) | (simp [*]; done), by repeat (first | exact Drawn0.refl _ | apply Drawn0.step)⟩
  · rw [if_neg c2] at H
    have c2b0 : (a0 == 0) = false := beq_eq_false_iff_ne.mpr c2
    have c2b1 : (a0 != 0) = true := bne_iff_ne.mpr c2
    by_cases c3 : a0 = 65535
    · rw [if_pos c3] at H
      have c3b0 : (a0 == 65535) = true := beq_iff_eq.mpr c3
      have c3b1 : (a0 != 65535) = false := bne_eq_false_iff_eq.mpr c3
      clear c3
      obtain rfl := Option.some.inj H
      go_enter Try.func43, Try.ntmps43
      go_wp2
      go_ret
      exact ⟨by first | rfl | (simp; done) | (simp [*]; done), by repeat (first | exact Drawn0.refl _ | apply Drawn0.step)⟩
    · rw [if_neg c3] at H
      have c3b0 : (a0 == 65535) = false := beq_eq_false_iff_ne.mpr c3
      have c3b1 : (a0 != 65535) = true := bne_iff_ne.mpr c3
      by_cases c4 : a0 ≤ 32767
      · rw [if_pos c4] at H
        have c4b0 : decide (a0 ≤ 32767) = true := decide_eq_true c4
        clear c4
        obtain rfl := Option.some.inj H
        go_enter Try.func43, Try.ntmps43
        go_wp2
        go_ret
        exact ⟨by first | rfl | (simp; done) | (simp [*]; done), by repeat (first | exact Drawn0.refl _ | apply Drawn0.step)⟩
      · rw [if_neg c4] at H
        have c4b0 : decide (a0 ≤ 32767) = false := decide_eq_false c4
        clear c4
        obtain rfl := Option.some.inj H
        go_enter Try.func43, Try.ntmps43
        go_wp2
        go_ret
        exact ⟨by first | rfl | (simp; done) | (simp [*]; done), by repeat (first | exact Drawn0.refl _ | apply Drawn0.step)⟩

/-! ### periluneref01_Magnitude: function 52 -/
def periluneref01_Magnitude.f (a0 : Int) : Option (Int) := if a0 ≤ 32767 then (some (wrap64 (a0))) else (some (wrap64 (65535 - (wrap64 (a0)))))
set_option maxHeartbeats 8000000 in
set_option maxRecDepth 100000 in
theorem periluneref01_Magnitude.calls (a0 : Int) (r : Int) (w : World) (h : periluneref01_Magnitude.f a0 = some r) :
    Calls Try.prog 52 #[.int .u16 a0] w fun e w' => e = .returned (.int .i64 r) ∧ Drawn0 w w' := by
  have H : (if a0 ≤ 32767 then (some (wrap64 (a0))) else (some (wrap64 (65535 - (wrap64 (a0)))))) = some r := h
  clear h
  by_cases c2 : a0 ≤ 32767
  · rw [if_pos c2] at H
    have c2b0 : decide (a0 ≤ 32767) = true := decide_eq_true c2
    clear c2
    obtain rfl := Option.some.inj H
    go_enter Try.func52, Try.ntmps52
    go_wp2
    go_ret
    exact ⟨by first | rfl | (simp; done) | (simp [*]; done), by repeat (first | exact Drawn0.refl _ | apply Drawn0.step)⟩
  · rw [if_neg c2] at H
    have c2b0 : decide (a0 ≤ 32767) = false := decide_eq_false c2
    clear c2
    obtain rfl := Option.some.inj H
    go_enter Try.func52, Try.ntmps52
    go_wp2
    go_ret
    exact ⟨by first | rfl | (simp; done) | (simp [*]; done), by repeat (first | exact Drawn0.refl _ | apply Drawn0.step)⟩

/-! ### periluneref01_Diminish: function 45 -/
def periluneref01_Diminish.f (a0 : Int) : Option (Int) := (periluneref01_Magnitude.f a0).bind fun t131 => (some (IntKind.u16.wrap (mx 0 (wrap64 (t131 - 1)))))
set_option maxHeartbeats 8000000 in
set_option maxRecDepth 100000 in
theorem periluneref01_Diminish.calls (a0 : Int) (r : Int) (w : World) (h : periluneref01_Diminish.f a0 = some r) :
    Calls Try.prog 45 #[.int .u16 a0] w fun e w' => e = .returned (.int .u16 r) ∧ Below w.heap.size w w' := by
  have HB := Aside0.mk (Below.refl w.heap.size w)
  have H : ((periluneref01_Magnitude.f a0).bind fun t131 => (some (IntKind.u16.wrap (mx 0 (wrap64 (t131 - 1)))))) = some r := h
  clear h
  replace H := Option.bind_eq_some_iff.mp H
  obtain ⟨t131, A20, H⟩ := H
  replace H : (some (IntKind.u16.wrap (mx 0 (wrap64 (t131 - 1))))) = some r := H
  have A2 := Aside0.mk A20
  clear A20
  obtain ⟨ji3, hji3⟩ : ∃ j_ : Int, (mx 0 (wrap64 (t131 - 1))) = j_ := ⟨_, rfl⟩
  replace H : (some (IntKind.u16.wrap (ji3))) = some r := by first | (rw [hji3] at H; exact H) | (simp only [hji3] at H ⊢; exact H)
  (try rw [hji3] at A2)
  (try (have hji3l : 0 ≤ ji3 := by (rw [← hji3]; unfold mx; (repeat' split) <;> omega)))
  (try (have hji3m : 0 ≤ ji3 := by omega))
  have hji3_ : (if 0 < (wrap64 (t131 - 1)) then (wrap64 (t131 - 1)) else 0) = ji3 := hji3
  obtain rfl := Option.some.inj H
  go_enter Try.func45, Try.ntmps45
  go_wp2_with (first | ((with_reducible refine gate_callee (f := 52) rfl ?_); refine goesL_ (some 4) rfl rfl Try.func52 (by kernel_rfl) rfl #[.int .u16 a0] rfl (by (try simp only [List.map_toArray, List.map_cons, List.map_nil]); first | done | rfl | (simp only [List.length_drop, List.length_take]; rfl)) ?_; (with_reducible refine (periluneref01_Magnitude.calls a0 t131 _ A2.out).mono ?_); rintro e w' ⟨rfl, ⟨nd, rfl⟩⟩; refine ⟨_, rfl, ?_⟩))
  go_ret
  exact ⟨by first | rfl | (simp [errW_none, errW_some] <;> rfl) | (simp only [← hji3]; first | rfl | (simp [errW_none, errW_some] <;> rfl)) | (simp [*, errW_none, errW_some] <;> rfl), by repeat (first | (with_reducible first | exact HB.out | apply below_alloc | apply pw_below_drewN | apply below_drew1) | exact HB.out)⟩

-- NOT PRINTED: function 5 (perilunelaw01_OnescompAccs)

-- NOT PRINTED: function 6 (perilunelaw01_OnescompBack)

-- NOT PRINTED: function 7 (perilunelaw01_OnescompAngles)

-- NOT PRINTED: function 8 (perilunelaw01_OnescompSums)

-- NOT PRINTED: function 9 (perilunelaw01_OnescompHalves)

-- NOT PRINTED: function 10 (perilunelaw01_OnescompKnown)

end Go.Proofs.Ytipcnefiadnlmaa.PAll
