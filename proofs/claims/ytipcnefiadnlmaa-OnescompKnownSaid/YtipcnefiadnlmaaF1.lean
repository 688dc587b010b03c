/- Functions of the program as plain Lean functions, each with the proof that its call computes it (printed by program, cut by leaf.py): onescomp_CycleRight, periluneref01_Low, periluneref01_CycleRight, onescomp_CycleLeft, periluneref01_CycleLeft, onescomp_ShiftRight, periluneref01_ShiftRight, onescomp_Opcode, periluneref01_Opcode, periluneref01_Edit, onescomp_TwosDiff, periluneref01_TwosDiff, onescomp_Overflow. -/
import Derived.Test.YtipcnefiadnlmaaF0
namespace Go.Proofs.Ytipcnefiadnlmaa.PAll
open Go.RowKit Go.Proofs.YtipcnefiadnlmaaW.PrintWords Go.Proofs.YtipcnefiadnlmaaW.PrintLast Go.Proofs.YtipcnefiadnlmaaW.PrintMore
attribute [local go_sem] max2_int min2_int max_two min_two max_three min_three max_four min_four   -- for this text's walks alone
set_option linter.unusedVariables false
set_option linter.unusedSimpArgs false

/-! ### onescomp_CycleRight: function 11 -/
def onescomp_CycleRight.f (a0 : Int) : Option (Int) := some (Go.bits .or .u16 ((Go.bits .and .u16 a0 32767) / 2) (IntKind.u16.wrap ((Go.bits .and .u16 (Go.bits .and .u16 a0 32767) 1) * 16384)))
set_option maxHeartbeats 8000000 in
set_option maxRecDepth 100000 in
theorem onescomp_CycleRight.calls (a0 : Int) (r : Int) (w : World) (h : onescomp_CycleRight.f a0 = some r) :
    Calls Try.prog 11 #[.int .u16 a0] w fun e w' => e = .returned (.int .u16 r) ∧ Drawn0 w w' := by
  have H : (some (Go.bits .or .u16 ((Go.bits .and .u16 a0 32767) / 2) (IntKind.u16.wrap ((Go.bits .and .u16 (Go.bits .and .u16 a0 32767) 1) * 16384)))) = some r := h
  clear h
  obtain rfl := Option.some.inj H
  go_enter Try.func11, Try.ntmps11
  go_wp2
  go_ret
  exact ⟨by first | rfl | (simp; done) | (simp [*]; done), by repeat (first | exact Drawn0.refl _ | apply Drawn0.step)⟩

/-! ### periluneref01_Low: function 48 -/
def periluneref01_Low.f (a0 : Int) : Option (Int) := some (Int.tmod (wrap64 (a0)) 32768)
set_option maxHeartbeats 8000000 in
set_option maxRecDepth 100000 in
theorem periluneref01_Low.calls (a0 : Int) (r : Int) (w : World) (h : periluneref01_Low.f a0 = some r) :
    Calls Try.prog 48 #[.int .u16 a0] w fun e w' => e = .returned (.int .i64 r) ∧ Drawn0 w w' := by
  have H : (some (Int.tmod (wrap64 (a0)) 32768)) = some r := h
  clear h
  obtain rfl := Option.some.inj H
  go_enter Try.func48, Try.ntmps48
  go_wp2
  go_ret
  exact ⟨by first | rfl | (simp; done) | (simp [*]; done), by repeat (first | exact Drawn0.refl _ | apply Drawn0.step)⟩

/-! ### periluneref01_CycleRight: function 12 -/
def periluneref01_CycleRight.f (a0 : Int) : Option (Int) := (periluneref01_Low.f a0).bind fun t101 => (some (IntKind.u16.wrap (wrap64 ((wrap64 ((Int.tmod t101 2) * 16384)) + (wrap64 (Int.tdiv t101 2))))))
set_option maxHeartbeats 8000000 in
set_option maxRecDepth 100000 in
theorem periluneref01_CycleRight.calls (a0 : Int) (r : Int) (w : World) (h : periluneref01_CycleRight.f a0 = some r) :
    Calls Try.prog 12 #[.int .u16 a0] w fun e w' => e = .returned (.int .u16 r) ∧ Drawn0 w w' := by
  have H : ((periluneref01_Low.f a0).bind fun t101 => (some (IntKind.u16.wrap (wrap64 ((wrap64 ((Int.tmod t101 2) * 16384)) + (wrap64 (Int.tdiv t101 2))))))) = some r := h
  clear h
  replace H := Option.bind_eq_some_iff.mp H
  obtain ⟨t101, A20, H⟩ := H
  replace H : (some (IntKind.u16.wrap (wrap64 ((wrap64 ((Int.tmod t101 2) * 16384)) + (wrap64 (Int.tdiv t101 2)))))) = some r := H
  have A2 := Aside0.mk A20
  clear A20
  obtain rfl := Option.some.inj H
  go_enter Try.func12, Try.ntmps12
  go_wp2_with (first | ((with_reducible refine gate_callee (f := 48) rfl ?_); refine goesL_ (some 5) rfl rfl Try.func48 (by kernel_rfl) rfl #[.int .u16 a0] rfl (by (try simp only [List.map_toArray, List.map_cons, List.map_nil]); first | done | rfl | (simp only [List.length_drop, List.length_take]; rfl)) ?_; (with_reducible refine (periluneref01_Low.calls a0 t101 _ A2.out).mono ?_); rintro e w' ⟨rfl, ⟨nd, rfl⟩⟩; refine ⟨_, rfl, ?_⟩))
  go_ret
  exact ⟨by first | rfl | (simp; done) | (simp [*]; done), by repeat (first | exact Drawn0.refl _ | apply Drawn0.step)⟩

/-! ### onescomp_CycleLeft: function 13 -/
def onescomp_CycleLeft.f (a0 : Int) : Option (Int) := some (Go.bits .or .u16 (Go.bits .and .u16 (IntKind.u16.wrap ((Go.bits .and .u16 a0 32767) * 2)) 32767) ((Go.bits .and .u16 a0 32767) / 16384))
set_option maxHeartbeats 8000000 in
set_option maxRecDepth 100000 in
theorem onescomp_CycleLeft.calls (a0 : Int) (r : Int) (w : World) (h : onescomp_CycleLeft.f a0 = some r) :
    Calls Try.prog 13 #[.int .u16 a0] w fun e w' => e = .returned (.int .u16 r) ∧ Drawn0 w w' := by
  have H : (some (Go.bits .or .u16 (Go.bits .and .u16 (IntKind.u16.wrap ((Go.bits .and .u16 a0 32767) * 2)) 32767) ((Go.bits .and .u16 a0 32767) / 16384))) = some r := h
  clear h
  obtain rfl := Option.some.inj H
  go_enter Try.func13, Try.ntmps13
  go_wp2
  go_ret
  exact ⟨by first | rfl | (simp; done) | (simp [*]; done), by repeat (first | exact Drawn0.refl _ | apply Drawn0.step)⟩

/-! ### periluneref01_CycleLeft: function 14 -/
def periluneref01_CycleLeft.f (a0 : Int) : Option (Int) := (periluneref01_Low.f a0).bind fun t102 => (some (IntKind.u16.wrap (wrap64 ((wrap64 ((Int.tmod t102 16384) * 2)) + (wrap64 (Int.tdiv t102 16384))))))
set_option maxHeartbeats 8000000 in
set_option maxRecDepth 100000 in
theorem periluneref01_CycleLeft.calls (a0 : Int) (r : Int) (w : World) (h : periluneref01_CycleLeft.f a0 = some r) :
    Calls Try.prog 14 #[.int .u16 a0] w fun e w' => e = .returned (.int .u16 r) ∧ Drawn0 w w' := by
  have H : ((periluneref01_Low.f a0).bind fun t102 => (some (IntKind.u16.wrap (wrap64 ((wrap64 ((Int.tmod t102 16384) * 2)) + (wrap64 (Int.tdiv t102 16384))))))) = some r := h
  clear h
  replace H := Option.bind_eq_some_iff.mp H
  obtain ⟨t102, A20, H⟩ := H
  replace H : (some (IntKind.u16.wrap (wrap64 ((wrap64 ((Int.tmod t102 16384) * 2)) + (wrap64 (Int.tdiv t102 16384)))))) = some r := H
  have A2 := Aside0.mk A20
  clear A20
  obtain rfl := Option.some.inj H
  go_enter Try.func14, Try.ntmps14
  go_wp2_with (first | ((with_reducible refine gate_callee (f := 48) rfl ?_); refine goesL_ (some 5) rfl rfl Try.func48 (by kernel_rfl) rfl #[.int .u16 a0] rfl (by (try simp only [List.map_toArray, List.map_cons, List.map_nil]); first | done | rfl | (simp only [List.length_drop, List.length_take]; rfl)) ?_; (with_reducible refine (periluneref01_Low.calls a0 t102 _ A2.out).mono ?_); rintro e w' ⟨rfl, ⟨nd, rfl⟩⟩; refine ⟨_, rfl, ?_⟩))
  go_ret
  exact ⟨by first | rfl | (simp; done) | (simp [*]; done), by repeat (first | exact Drawn0.refl _ | apply Drawn0.step)⟩

/-! ### onescomp_ShiftRight: function 15 -/
def onescomp_ShiftRight.f (a0 : Int) : Option (Int) := some (Go.bits .or .u16 ((Go.bits .and .u16 a0 32767) / 2) (Go.bits .and .u16 (Go.bits .and .u16 a0 32767) 16384))
set_option maxHeartbeats 8000000 in
set_option maxRecDepth 100000 in
theorem onescomp_ShiftRight.calls (a0 : Int) (r : Int) (w : World) (h : onescomp_ShiftRight.f a0 = some r) :
    Calls Try.prog 15 #[.int .u16 a0] w fun e w' => e = .returned (.int .u16 r) ∧ Drawn0 w w' := by
  have H : (some (Go.bits .or .u16 ((Go.bits .and .u16 a0 32767) / 2) (Go.bits .and .u16 (Go.bits .and .u16 a0 32767) 16384))) = some r := h
  clear h
  obtain rfl := Option.some.inj H
  go_enter Try.func15, Try.ntmps15
  go_wp2
  go_ret
  exact ⟨by first | rfl | (simp; done) | (simp [*]; done), by repeat (first | exact Drawn0.refl _ | apply Drawn0.step)⟩

/-! ### periluneref01_ShiftRight: function 16 -/
def periluneref01_ShiftRight.f (a0 : Int) : Option (Int) := (periluneref01_Low.f a0).bind fun t103 => (some (IntKind.u16.wrap (wrap64 ((wrap64 ((wrap64 (Int.tdiv t103 16384)) * 16384)) + (wrap64 (Int.tdiv t103 2))))))
set_option maxHeartbeats 8000000 in
set_option maxRecDepth 100000 in
theorem periluneref01_ShiftRight.calls (a0 : Int) (r : Int) (w : World) (h : periluneref01_ShiftRight.f a0 = some r) :
    Calls Try.prog 16 #[.int .u16 a0] w fun e w' => e = .returned (.int .u16 r) ∧ Drawn0 w w' := by
  have H : ((periluneref01_Low.f a0).bind fun t103 => (some (IntKind.u16.wrap (wrap64 ((wrap64 ((wrap64 (Int.tdiv t103 16384)) * 16384)) + (wrap64 (Int.tdiv t103 2))))))) = some r := h
  clear h
  replace H := Option.bind_eq_some_iff.mp H
  obtain ⟨t103, A20, H⟩ := H
  replace H : (some (IntKind.u16.wrap (wrap64 ((wrap64 ((wrap64 (Int.tdiv t103 16384)) * 16384)) + (wrap64 (Int.tdiv t103 2)))))) = some r := H
  have A2 := Aside0.mk A20
  clear A20
  obtain rfl := Option.some.inj H
  go_enter Try.func16, Try.ntmps16
  go_wp2_with (first | ((with_reducible refine gate_callee (f := 48) rfl ?_); refine goesL_ (some 5) rfl rfl Try.func48 (by kernel_rfl) rfl #[.int .u16 a0] rfl (by (try simp only [List.map_toArray, List.map_cons, List.map_nil]); first | done | rfl | (simp only [List.length_drop, List.length_take]; rfl)) ?_; (with_reducible refine (periluneref01_Low.calls a0 t103 _ A2.out).mono ?_); rintro e w' ⟨rfl, ⟨nd, rfl⟩⟩; refine ⟨_, rfl, ?_⟩))
  go_ret
  exact ⟨by first | rfl | (simp; done) | (simp [*]; done), by repeat (first | exact Drawn0.refl _ | apply Drawn0.step)⟩

/-! ### onescomp_Opcode: function 17 -/
def onescomp_Opcode.f (a0 : Int) : Option (Int) := some (Go.bits .and .u16 ((Go.bits .and .u16 a0 32767) / 128) 127)
set_option maxHeartbeats 8000000 in
set_option maxRecDepth 100000 in
theorem onescomp_Opcode.calls (a0 : Int) (r : Int) (w : World) (h : onescomp_Opcode.f a0 = some r) :
    Calls Try.prog 17 #[.int .u16 a0] w fun e w' => e = .returned (.int .u16 r) ∧ Drawn0 w w' := by
  have H : (some (Go.bits .and .u16 ((Go.bits .and .u16 a0 32767) / 128) 127)) = some r := h
  clear h
  obtain rfl := Option.some.inj H
  go_enter Try.func17, Try.ntmps17
  go_wp2
  go_ret
  exact ⟨by first | rfl | (simp; done) | (simp [*]; done), by repeat (first | exact Drawn0.refl _ | apply Drawn0.step)⟩

/-! ### periluneref01_Opcode: function 18 -/
def periluneref01_Opcode.f (a0 : Int) : Option (Int) := (periluneref01_Low.f a0).bind fun t104 => (some (IntKind.u16.wrap (Int.tmod (wrap64 (Int.tdiv t104 128)) 128)))
set_option maxHeartbeats 8000000 in
set_option maxRecDepth 100000 in
theorem periluneref01_Opcode.calls (a0 : Int) (r : Int) (w : World) (h : periluneref01_Opcode.f a0 = some r) :
    Calls Try.prog 18 #[.int .u16 a0] w fun e w' => e = .returned (.int .u16 r) ∧ Drawn0 w w' := by
  have H : ((periluneref01_Low.f a0).bind fun t104 => (some (IntKind.u16.wrap (Int.tmod (wrap64 (Int.tdiv t104 128)) 128)))) = some r := h
  clear h
  replace H := Option.bind_eq_some_iff.mp H
  obtain ⟨t104, A20, H⟩ := H
  replace H : (some (IntKind.u16.wrap (Int.tmod (wrap64 (Int.tdiv t104 128)) 128))) = some r := H
  have A2 := Aside0.mk A20
  clear A20
  obtain rfl := Option.some.inj H
  go_enter Try.func18, Try.ntmps18
  go_wp2_with (first | ((with_reducible refine gate_callee (f := 48) rfl ?_); refine goesL_ (some 4) rfl rfl Try.func48 (by kernel_rfl) rfl #[.int .u16 a0] rfl (by (try simp only [List.map_toArray, List.map_cons, List.map_nil]); first | done | rfl | (simp only [List.length_drop, List.length_take]; rfl)) ?_; (with_reducible refine (periluneref01_Low.calls a0 t104 _ A2.out).mono ?_); rintro e w' ⟨rfl, ⟨nd, rfl⟩⟩; refine ⟨_, rfl, ?_⟩))
  go_ret
  exact ⟨by first | rfl | (simp; done) | (simp [*]; done), by repeat (first | exact Drawn0.refl _ | apply Drawn0.step)⟩

-- NOT PRINTED: function 49 (onescomp_editing)

-- NOT PRINTED: function 19 (onescomp_Edit)

/-! ### periluneref01_Edit: function 20 -/
def periluneref01_Edit.f (a0 : Int) (a1 : Int) : Option (Int) := if a0 = 16 then ((periluneref01_CycleRight.f a1).bind fun t105 => (some t105)) else (if a0 = 17 then ((periluneref01_ShiftRight.f a1).bind fun t106 => (some t106)) else (if a0 = 18 then ((periluneref01_CycleLeft.f a1).bind fun t107 => (some t107)) else (if a0 = 19 then ((periluneref01_Opcode.f a1).bind fun t108 => (some t108)) else ((periluneref01_Low.f a1).bind fun t109 => (some (IntKind.u16.wrap (t109)))))))
set_option maxHeartbeats 8000000 in
set_option maxRecDepth 100000 in
theorem periluneref01_Edit.calls (a0 : Int) (a1 : Int) (r : Int) (w : World) (h : periluneref01_Edit.f a0 a1 = some r) :
    Calls Try.prog 20 #[.int .i64 a0, .int .u16 a1] w fun e w' => e = .returned (.int .u16 r) ∧ Drawn0 w w' := by
  have H : (if a0 = 16 then ((periluneref01_CycleRight.f a1).bind fun t105 => (some t105)) else (if a0 = 17 then ((periluneref01_ShiftRight.f a1).bind fun t106 => (some t106)) else (if a0 = 18 then ((periluneref01_CycleLeft.f a1).bind fun t107 => (some t107)) else (if a0 = 19 then ((periluneref01_Opcode.f a1).bind fun t108 => (some t108)) else ((periluneref01_Low.f a1).bind fun t109 => (some (IntKind.u16.wrap (t109)))))))) = some r := h
  clear h
  by_cases c3 : a0 = 16
  · rw [if_pos c3] at H
    have c3b0 : (a0 == 16) = true := beq_iff_eq.mpr c3
    have c3b1 : (a0 != 16) = false := bne_eq_false_iff_eq.mpr c3
    clear c3
    replace H := Option.bind_eq_some_iff.mp H
    obtain ⟨t105, A40, H⟩ := H
    replace H : (some t105) = some r := H
    have A4 := Aside0.mk A40
    clear A40
    obtain rfl := Option.some.inj H
    go_enter Try.func20, Try.ntmps20
    go_wp2_with (first | ((with_reducible refine gate_callee (f := 12) rfl ?_); refine goesL_ (some 9) rfl rfl Try.func12 (by kernel_rfl) rfl #[.int .u16 a1] rfl (by (try simp only [List.map_toArray, List.map_cons, List.map_nil]); first | done | rfl | (simp only [List.length_drop, List.length_take]; rfl)) ?_; (with_reducible refine (periluneref01_CycleRight.calls a1 t105 _ A4.out).mono ?_); rintro e w' ⟨rfl, ⟨nd, rfl⟩⟩; refine ⟨_, rfl, ?_⟩))
    go_ret
    exact ⟨by first | rfl | (simp; done) | (simp [*]; done), by repeat (first | exact Drawn0.refl _ | apply Drawn0.step)⟩
  · rw [if_neg c3] at H
    have c3b0 : (a0 == 16) = false := beq_eq_false_iff_ne.mpr c3
    have c3b1 : (a0 != 16) = true := bne_iff_ne.mpr c3
    by_cases c5 : a0 = 17
    · rw [if_pos c5] at H
      have c5b0 : (a0 == 17) = true := beq_iff_eq.mpr c5
      have c5b1 : (a0 != 17) = false := bne_eq_false_iff_eq.mpr c5
      clear c5
      replace H := Option.bind_eq_some_iff.mp H
      obtain ⟨t106, A60, H⟩ := H
      replace H : (some t106) = some r := H
      have A6 := Aside0.mk A60
      clear A60
      obtain rfl := Option.some.inj H
      go_enter Try.func20, Try.ntmps20
      go_wp2_with (first | ((with_reducible refine gate_callee (f := 16) rfl ?_); refine goesL_ (some 13) rfl rfl Try.func16 (by kernel_rfl) rfl #[.int .u16 a1] rfl (by (try simp only [List.map_toArray, List.map_cons, List.map_nil]); first | done | rfl | (simp only [List.length_drop, List.length_take]; rfl)) ?_; (with_reducible refine (periluneref01_ShiftRight.calls a1 t106 _ A6.out).mono ?_); rintro e w' ⟨rfl, ⟨nd, rfl⟩⟩; refine ⟨_, rfl, ?_⟩))
      go_ret
      exact ⟨by first | rfl | (simp; done) | (simp [*]; done), by repeat (first | exact Drawn0.refl _ | apply Drawn0.step)⟩
    · rw [if_neg c5] at H
      have c5b0 : (a0 == 17) = false := beq_eq_false_iff_ne.mpr c5
      have c5b1 : (a0 != 17) = true := bne_iff_ne.mpr c5
      by_cases c7 : a0 = 18
      · rw [if_pos c7] at H
        have c7b0 : (a0 == 18) = true := beq_iff_eq.mpr c7
        have c7b1 : (a0 != 18) = false := bne_eq_false_iff_eq.mpr c7
        clear c7
        replace H := Option.bind_eq_some_iff.mp H
        obtain ⟨t107, A80, H⟩ := H
        replace H : (some t107) = some r := H
        have A8 := Aside0.mk A80
        clear A80
        obtain rfl := Option.some.inj H
        go_enter Try.func20, Try.ntmps20
        go_wp2_with (first | ((with_reducible refine gate_callee (f := 14) rfl ?_); refine goesL_ (some 17) rfl rfl Try.func14 (by kernel_rfl) rfl #[.int .u16 a1] rfl (by (try simp only [List.map_toArray, List.map_cons, List.map_nil]); first | done | rfl | (simp only [List.length_drop, List.length_take]; rfl)) ?_; (with_reducible refine (periluneref01_CycleLeft.calls a1 t107 _ A8.out).mono ?_); rintro e w' ⟨rfl, ⟨nd, rfl⟩⟩; refine ⟨_, rfl, ?_⟩))
        go_ret
        exact ⟨by first | rfl | (simp; done) | (simp [*]; done), by repeat (first | exact Drawn0.refl _ | apply Drawn0.step)⟩
      · rw [if_neg c7] at H
        have c7b0 : (a0 == 18) = false := beq_eq_false_iff_ne.mpr c7
        have c7b1 : (a0 != 18) = true := bne_iff_ne.mpr c7
        by_cases c9 : a0 = 19
        · rw [if_pos c9] at H
          have c9b0 : (a0 == 19) = true := beq_iff_eq.mpr c9
          have c9b1 : (a0 != 19) = false := bne_eq_false_iff_eq.mpr c9
          clear c9
          replace H := Option.bind_eq_some_iff.mp H
          obtain ⟨t108, A100, H⟩ := H
          replace H : (some t108) = some r := H
          have A10 := Aside0.mk A100
          clear A100
          obtain rfl := Option.some.inj H
          go_enter Try.func20, Try.ntmps20
          go_wp2_with (first | ((with_reducible refine gate_callee (f := 18) rfl ?_); refine goesL_ (some 21) rfl rfl Try.func18 (by kernel_rfl) rfl #[.int .u16 a1] rfl (by (try simp only [List.map_toArray, List.map_cons, List.map_nil]); first | done | rfl | (simp only [List.length_drop, List.length_take]; rfl)) ?_; (with_reducible refine (periluneref01_Opcode.calls a1 t108 _ A10.out).mono ?_); rintro e w' ⟨rfl, ⟨nd, rfl⟩⟩; refine ⟨_, rfl, ?_⟩))
          go_ret
          exact ⟨by first | rfl | (simp; done) | (simp [*]; done), by repeat (first | exact Drawn0.refl _ | apply Drawn0.step)⟩
        · rw [if_neg c9] at H
          have c9b0 : (a0 == 19) = false := beq_eq_false_iff_ne.mpr c9
          have c9b1 : (a0 != 19) = true := bne_iff_ne.mpr c9
          replace H := Option.bind_eq_some_iff.mp H
          obtain ⟨t109, A110, H⟩ := H
          replace H : (some (IntKind.u16.wrap (t109))) = some r := H
          have A11 := Aside0.mk A110
          clear A110
          obtain rfl := Option.some.inj H
          go_enter Try.func20, Try.ntmps20
          go_wp2_with (first | ((with_reducible refine gate_callee (f := 48) rfl ?_); refine goesL_ (some 23) rfl rfl Try.func48 (by kernel_rfl) rfl #[.int .u16 a1] rfl (by (try simp only [List.map_toArray, List.map_cons, List.map_nil]); first | done | rfl | (simp only [List.length_drop, List.length_take]; rfl)) ?_; (with_reducible refine (periluneref01_Low.calls a1 t109 _ A11.out).mono ?_); rintro e w' ⟨rfl, ⟨nd, rfl⟩⟩; refine ⟨_, rfl, ?_⟩))
          go_ret
          exact ⟨by first | rfl | (simp; done) | (simp [*]; done), by repeat (first | exact Drawn0.refl _ | apply Drawn0.step)⟩

/-! ### onescomp_TwosDiff: function 21 -/
def onescomp_TwosDiff.f (a0 : Int) (a1 : Int) : Option (Int) := if (Go.bits .and .u16 (IntKind.u16.wrap (a0 - a1)) 32767) ≤ 16384 then (some (Go.bits .and .u16 (IntKind.u16.wrap (a0 - a1)) 32767)) else (some (IntKind.u16.wrap ((Go.bits .and .u16 (IntKind.u16.wrap (a0 - a1)) 32767) - 1)))
set_option maxHeartbeats 8000000 in
set_option maxRecDepth 100000 in
theorem onescomp_TwosDiff.calls (a0 : Int) (a1 : Int) (r : Int) (w : World) (h : onescomp_TwosDiff.f a0 a1 = some r) :
    Calls Try.prog 21 #[.int .u16 a0, .int .u16 a1] w fun e w' => e = .returned (.int .u16 r) ∧ Drawn0 w w' := by
  have H : (if (Go.bits .and .u16 (IntKind.u16.wrap (a0 - a1)) 32767) ≤ 16384 then (some (Go.bits .and .u16 (IntKind.u16.wrap (a0 - a1)) 32767)) else (some (IntKind.u16.wrap ((Go.bits .and .u16 (IntKind.u16.wrap (a0 - a1)) 32767) - 1)))) = some r := h
  clear h
  by_cases c3 : (Go.bits .and .u16 (IntKind.u16.wrap (a0 - a1)) 32767) ≤ 16384
  · rw [if_pos c3] at H
    have c3b0 : decide ((Go.bits .and .u16 (IntKind.u16.wrap (a0 - a1)) 32767) ≤ 16384) = true := decide_eq_true c3
    clear c3
    obtain rfl := Option.some.inj H
    go_enter Try.func21, Try.ntmps21
    go_wp2
    go_ret
    exact ⟨by first | rfl | (simp; done) | (simp [*]; done), by repeat (first | exact Drawn0.refl _ | apply Drawn0.step)⟩
  · rw [if_neg c3] at H
    have c3b0 : decide ((Go.bits .and .u16 (IntKind.u16.wrap (a0 - a1)) 32767) ≤ 16384) = false := decide_eq_false c3
    clear c3
    obtain rfl := Option.some.inj H
    go_enter Try.func21, Try.ntmps21
    go_wp2
    go_ret
    exact ⟨by first | rfl | (simp; done) | (simp [*]; done), by repeat (first | exact Drawn0.refl _ | apply Drawn0.step)⟩

/-! ### periluneref01_TwosDiff: function 22 -/
def periluneref01_TwosDiff.f (a0 : Int) (a1 : Int) : Option (Int) := (periluneref01_Low.f a0).bind fun t110 => ((periluneref01_Low.f a1).bind fun t111 => (if (Int.tmod (wrap64 ((wrap64 (t110 - t111)) + 32768)) 32768) ≤ 16383 then (some (IntKind.u16.wrap (Int.tmod (wrap64 ((wrap64 (t110 - t111)) + 32768)) 32768))) else (if (Int.tmod (wrap64 ((wrap64 (t110 - t111)) + 32768)) 32768) = 16384 then (some 16384) else (some (IntKind.u16.wrap (wrap64 ((Int.tmod (wrap64 ((wrap64 (t110 - t111)) + 32768)) 32768) - 1)))))))
set_option maxHeartbeats 8000000 in
set_option maxRecDepth 100000 in
theorem periluneref01_TwosDiff.calls (a0 : Int) (a1 : Int) (r : Int) (w : World) (h : periluneref01_TwosDiff.f a0 a1 = some r) :
    Calls Try.prog 22 #[.int .u16 a0, .int .u16 a1] w fun e w' => e = .returned (.int .u16 r) ∧ Drawn0 w w' := by
  have H : ((periluneref01_Low.f a0).bind fun t110 => ((periluneref01_Low.f a1).bind fun t111 => (if (Int.tmod (wrap64 ((wrap64 (t110 - t111)) + 32768)) 32768) ≤ 16383 then (some (IntKind.u16.wrap (Int.tmod (wrap64 ((wrap64 (t110 - t111)) + 32768)) 32768))) else (if (Int.tmod (wrap64 ((wrap64 (t110 - t111)) + 32768)) 32768) = 16384 then (some 16384) else (some (IntKind.u16.wrap (wrap64 ((Int.tmod (wrap64 ((wrap64 (t110 - t111)) + 32768)) 32768) - 1)))))))) = some r := h
  clear h
  replace H := Option.bind_eq_some_iff.mp H
  obtain ⟨t110, A30, H⟩ := H
  replace H : ((periluneref01_Low.f a1).bind fun t111 => (if (Int.tmod (wrap64 ((wrap64 (t110 - t111)) + 32768)) 32768) ≤ 16383 then (some (IntKind.u16.wrap (Int.tmod (wrap64 ((wrap64 (t110 - t111)) + 32768)) 32768))) else (if (Int.tmod (wrap64 ((wrap64 (t110 - t111)) + 32768)) 32768) = 16384 then (some 16384) else (some (IntKind.u16.wrap (wrap64 ((Int.tmod (wrap64 ((wrap64 (t110 - t111)) + 32768)) 32768) - 1))))))) = some r := H
  have A3 := Aside0.mk A30
  clear A30
  replace H := Option.bind_eq_some_iff.mp H
  obtain ⟨t111, A40, H⟩ := H
  replace H : (if (Int.tmod (wrap64 ((wrap64 (t110 - t111)) + 32768)) 32768) ≤ 16383 then (some (IntKind.u16.wrap (Int.tmod (wrap64 ((wrap64 (t110 - t111)) + 32768)) 32768))) else (if (Int.tmod (wrap64 ((wrap64 (t110 - t111)) + 32768)) 32768) = 16384 then (some 16384) else (some (IntKind.u16.wrap (wrap64 ((Int.tmod (wrap64 ((wrap64 (t110 - t111)) + 32768)) 32768) - 1)))))) = some r := H
  have A4 := Aside0.mk A40
  clear A40
  by_cases c5 : (Int.tmod (wrap64 ((wrap64 (t110 - t111)) + 32768)) 32768) ≤ 16383
  · rw [if_pos c5] at H
    have c5b0 : decide ((Int.tmod (wrap64 ((wrap64 (t110 - t111)) + 32768)) 32768) ≤ 16383) = true := decide_eq_true c5
    clear c5
    obtain rfl := Option.some.inj H
    go_enter Try.func22, Try.ntmps22
    go_wp2_with (first | ((with_reducible refine gate_callee (f := 48) rfl ?_); refine goesL_ (some 7) rfl rfl Try.func48 (by kernel_rfl) rfl #[.int .u16 a0] rfl (by (try simp only [List.map_toArray, List.map_cons, List.map_nil]); first | done | rfl | (simp only [List.length_drop, List.length_take]; rfl)) ?_; (with_reducible refine (periluneref01_Low.calls a0 t110 _ A3.out).mono ?_); rintro e w' ⟨rfl, ⟨nd, rfl⟩⟩; refine ⟨_, rfl, ?_⟩) | ((with_reducible refine gate_callee (f := 48) rfl ?_); refine goesL_ (some 9) rfl rfl Try.func48 (by kernel_rfl) rfl #[.int .u16 a1] rfl (by (try simp only [List.map_toArray, List.map_cons, List.map_nil]); first | done | rfl | (simp only [List.length_drop, List.length_take]; rfl)) ?_; (with_reducible refine (periluneref01_Low.calls a1 t111 _ A4.out).mono ?_); rintro e w' ⟨rfl, ⟨nd, rfl⟩⟩; refine ⟨_, rfl, ?_⟩))
    go_ret
    exact ⟨by first | rfl | (simp; done) | (simp [*]; done), by repeat (first | exact Drawn0.refl _ | apply Drawn0.step)⟩
  · rw [if_neg c5] at H
    have c5b0 : decide ((Int.tmod (wrap64 ((wrap64 (t110 - t111)) + 32768)) 32768) ≤ 16383) = false := decide_eq_false c5
    clear c5
    by_cases c6 : (Int.tmod (wrap64 ((wrap64 (t110 - t111)) + 32768)) 32768) = 16384
    · rw [if_pos c6] at H
      have c6b0 : ((Int.tmod (wrap64 ((wrap64 (t110 - t111)) + 32768)) 32768) == 16384) = true := beq_iff_eq.mpr c6
      have c6b1 : ((Int.tmod (wrap64 ((wrap64 (t110 - t111)) + 32768)) 32768) != 16384) = false := bne_eq_false_iff_eq.mpr c6
      clear c6
      obtain rfl := Option.some.inj H
      go_enter Try.func22, Try.ntmps22
      go_wp2_with (first | ((with_reducible refine gate_callee (f := 48) rfl ?_); refine goesL_ (some 7) rfl rfl Try.func48 (by kernel_rfl) rfl #[.int .u16 a0] rfl (by (try simp only [List.map_toArray, List.map_cons, List.map_nil]); first | done | rfl | (simp only [List.length_drop, List.length_take]; rfl)) ?_; (with_reducible refine (periluneref01_Low.calls a0 t110 _ A3.out).mono ?_); rintro e w' ⟨rfl, ⟨nd, rfl⟩⟩; refine ⟨_, rfl, ?_⟩) | ((with_reducible refine gate_callee (f := 48) rfl ?_); refine goesL_ (some 9) rfl rfl Try.func48 (by kernel_rfl) rfl #[.int .u16 a1] rfl (by (try simp only [List.map_toArray, List.map_cons, List.map_nil]); first | done | rfl | (simp only [List.length_drop, List.length_take]; rfl)) ?_; (with_reducible refine (periluneref01_Low.calls a1 t111 _ A4.out).mono ?_); rintro e w' ⟨rfl, ⟨nd, rfl⟩⟩; refine ⟨_, rfl, ?_⟩))
      go_ret
      exact ⟨by first | rfl | (simp; done) | (simp [*]; done), by repeat (first | exact Drawn0.refl _ | apply Drawn0.step)⟩
    · rw [if_neg c6] at H
      have c6b0 : ((Int.tmod (wrap64 ((wrap64 (t110 - t111)) + 32768)) 32768) == 16384) = false := beq_eq_false_iff_ne.mpr c6
      have c6b1 : ((Int.tmod (wrap64 ((wrap64 (t110 - t111)) + 32768)) 32768) != 16384) = true := bne_iff_ne.mpr c6
      obtain rfl := Option.some.inj H
      go_enter Try.func22, Try.ntmps22
      go_wp2_with (first | ((with_reducible refine gate_callee (f := 48) rfl ?_); refine goesL_ (some 7) rfl rfl Try.func48 (by kernel_rfl) rfl #[.int .u16 a0] rfl (by (try simp only [List.map_toArray, List.map_cons, List.map_nil]); first | done | rfl | (simp only [List.length_drop, List.length_take]; rfl)) ?_; (with_reducible refine (periluneref01_Low.calls a0 t110 _ A3.out).mono ?_); rintro e w' ⟨rfl, ⟨nd, rfl⟩⟩; refine ⟨_, rfl, ?_⟩) | ((with_reducible refine gate_callee (f := 48) rfl ?_); refine goesL_ (some 9) rfl rfl Try.func48 (by kernel_rfl) rfl #[.int .u16 a1] rfl (by (try simp only [List.map_toArray, List.map_cons, List.map_nil]); first | done | rfl | (simp only [List.length_drop, List.length_take]; rfl)) ?_; (with_reducible refine (periluneref01_Low.calls a1 t111 _ A4.out).mono ?_); rintro e w' ⟨rfl, ⟨nd, rfl⟩⟩; refine ⟨_, rfl, ?_⟩))
      go_ret
      exact ⟨by first | rfl | (simp; done) | (simp [*]; done), by repeat (first | exact Drawn0.refl _ | apply Drawn0.step)⟩

-- NOT PRINTED: function 28 (onescomp_Neg)

-- NOT PRINTED: function 24 (onescomp_Of)

/-! ### onescomp_Overflow: function 38 -/
def onescomp_Overflow.f (a0 : Int) : Option (Int) := if (a0 / 16384) = 1 then (some 1) else (if (a0 / 16384) = 2 then (some (-1)) else (some 0))
set_option maxHeartbeats 8000000 in
set_option maxRecDepth 100000 in
theorem onescomp_Overflow.calls (a0 : Int) (r : Int) (w : World) (h : onescomp_Overflow.f a0 = some r) :
    Calls Try.prog 38 #[.int .u16 a0] w fun e w' => e = .returned (.int .i64 r) ∧ Drawn0 w w' := by
  have H : (if (a0 / 16384) = 1 then (some 1) else (if (a0 / 16384) = 2 then (some (-1)) else (some 0))) = some r := h
  clear h
  by_cases c2 : (a0 / 16384) = 1
  · rw [if_pos c2] at H
    have c2b0 : ((a0 / 16384) == 1) = true := beq_iff_eq.mpr c2
    have c2b1 : ((a0 / 16384) != 1) = false := bne_eq_false_iff_eq.mpr c2
    clear c2
    obtain rfl := Option.some.inj H
    go_enter Try.func38, Try.ntmps38
    go_wp2
    go_ret
    exact ⟨by first | rfl | (simp; done) | (simp [*]; done), by repeat (first | exact Drawn0.refl _ | apply Drawn0.step)⟩
  · rw [if_neg c2] at H
    have c2b0 : ((a0 / 16384) == 1) = false := beq_eq_false_iff_ne.mpr c2
    have c2b1 : ((a0 / 16384) != 1) = true := bne_iff_ne.mpr c2
    by_cases c3 : (a0 / 16384) = 2
    · rw [if_pos c3] at H
      have c3b0 : ((a0 / 16384) == 2) = true := beq_iff_eq.mpr c3
      have c3b1 : ((a0 / 16384) != 2) = false := bne_eq_false_iff_eq.mpr c3
      clear c3
      obtain rfl := Option.some.inj H
      go_enter Try.func38, Try.ntmps38
      go_wp2
      go_ret
      exact ⟨by first | rfl | (simp; done) | (simp [*]; done), by repeat (first | exact Drawn0.refl _ | apply Drawn0.step)⟩
    · rw [if_neg c3] at H
      have c3b0 : ((a0 / 16384) == 2) = false := beq_eq_false_iff_ne.mpr c3
      have c3b1 : ((a0 / 16384) != 2) = true := bne_iff_ne.mpr c3
      obtain rfl := Option.some.inj H
      go_enter Try.func38, Try.ntmps38
      go_wp2
      go_ret
      exact ⟨by first | rfl | (simp; done) | (simp [*]; done), by repeat (first | exact Drawn0.refl _ | apply Drawn0.step)⟩

-- NOT PRINTED: function 42 (onescomp_Class)

-- NOT PRINTED: function 44 (onescomp_Diminish)

end Go.Proofs.Ytipcnefiadnlmaa.PAll
