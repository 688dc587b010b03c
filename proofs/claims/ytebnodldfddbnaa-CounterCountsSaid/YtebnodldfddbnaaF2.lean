/- Functions of the program as plain Lean functions, each with the proof that its call computes it (printed by program, cut by leaf.py): periluneref06_Apply. -/
import Derived.Test.YtebnodldfddbnaaF1
namespace Go.Proofs.Ytebnodldfddbnaa.PAll
open Go.RowKit Go.Proofs.YtebnodldfddbnaaW.PrintWords Go.Proofs.YtebnodldfddbnaaW.PrintLast Go.Proofs.YtebnodldfddbnaaW.PrintMore
attribute [local go_sem] max2_int min2_int max_two min_two max_three min_three max_four min_four   -- for this text's walks alone
set_option linter.unusedVariables false
set_option linter.unusedSimpArgs false

/-! ### periluneref06_Apply: function 12 -/
def periluneref06_Apply.j0 : Nat → Int → Int → Bool → Option (Int × Int × Int)
  | 0, _, _, _ => none
  | k + 1, x0, x7, x44 => if x44 = true then (some (IntKind.u16.wrap (wrap64 (x7 - 1)), 1, 0)) else (if x7 ≥ 16384 then (if x7 ≤ 32766 then (some (IntKind.u16.wrap (wrap64 (x7 + 1)), (-1), 0)) else (some (x0, 0, 0))) else (some (x0, 0, 0)))
def periluneref06_Apply.f (k : Nat) (a0 : Int) (a1 : Int) : Option (Int × Int × Int) := (periluneref01_Low.f a0).bind fun t105 => (if a1 = 1 then (if t105 = 16383 then (some (0, 1, 0)) else ((periluneref01_Add.f (IntKind.u16.wrap (t105)) 1).bind fun t106 => (some (t106, 0, 0)))) else (if a1 = 2 then (if t105 = 16384 then (some (32767, (-1), 0)) else ((periluneref01_Add.f (IntKind.u16.wrap (t105)) 32766).bind fun t107 => (some (t107, 0, 0)))) else (if a1 = 3 then (some (IntKind.u16.wrap (Int.tmod (wrap64 (t105 + 1)) 32768), 0, 0)) else (if a1 = 4 then (some (IntKind.u16.wrap (Int.tmod (wrap64 (t105 + 32767)) 32768), 0, 0)) else (if a1 = 5 then (if t105 ≥ 1 then (periluneref06_Apply.j0 k (IntKind.u16.wrap (t105)) t105 (decide (t105 ≤ 16383))) else (periluneref06_Apply.j0 k (IntKind.u16.wrap (t105)) t105 false)) else (if a1 = 6 then ((periluneref06_bit.f (decide (t105 > 16383))).bind fun t108 => (some (IntKind.u16.wrap (Int.tmod (wrap64 (2 * t105)) 32768), t108, 0))) else (if a1 = 7 then ((periluneref06_bit.f (decide (t105 > 16383))).bind fun t109 => (some (IntKind.u16.wrap (Int.tmod (wrap64 ((wrap64 (2 * t105)) + 1)) 32768), t109, 0))) else (some (0, 0, 2)))))))))
theorem periluneref06_Apply.mono_l : ∀ k, (∀ y0 y1 y2, LeO (periluneref06_Apply.j0 k y0 y1 y2) (periluneref06_Apply.j0 (k + 1) y0 y1 y2))
  | 0 => fun _ _ _ r h => by simp [periluneref06_Apply.j0] at h
  | k + 1 => by
    have ih0 := periluneref06_Apply.mono_l k
    · intro y0 y1 y2
      unfold periluneref06_Apply.j0
      repeat' first
      | (with_reducible exact ih0 _ _ _)
      | (with_reducible exact LeO.refl _)
      | (with_reducible exact LeO.none _)
      | (with_reducible refine LeO.ite ?_ ?_)
      | (with_reducible refine LeO.bind ?_ (fun _ => ?_))
      | exact ih0 _ _ _
      | exact LeO.none _
      | refine LeO.ite ?_ ?_
      | refine LeO.bind ?_ (fun _ => ?_)
theorem periluneref06_Apply.mono : ∀ a0 a1 k, LeO (periluneref06_Apply.f k a0 a1) (periluneref06_Apply.f (k + 1) a0 a1) := by
  intro a0 a1 k
  have ih0 := periluneref06_Apply.mono_l k
  unfold periluneref06_Apply.f
  repeat' first
      | (with_reducible exact ih0 _ _ _)
      | (with_reducible exact LeO.refl _)
      | (with_reducible exact LeO.none _)
      | (with_reducible refine LeO.ite ?_ ?_)
      | (with_reducible refine LeO.bind ?_ (fun _ => ?_))
      | exact ih0 _ _ _
      | exact LeO.none _
      | refine LeO.ite ?_ ?_
      | refine LeO.bind ?_ (fun _ => ?_)
set_option maxHeartbeats 8000000 in
set_option maxRecDepth 100000 in
theorem periluneref06_Apply.calls (k : Nat) (a0 : Int) (a1 : Int) (r1 : Int) (r2 : Int) (r3 : Int) (w : World) (h : periluneref06_Apply.f k a0 a1 = some (r1, r2, r3)) :
    Calls Try.prog 12 #[.int .u16 a0, .int .u8 a1] w fun e w' => e = .returned (.tuple #[.int .u16 r1, .int .i64 r2, .int .i64 r3]) ∧ Drawn0 w w' := by
  have H : ((periluneref01_Low.f a0).bind fun t105 => (if a1 = 1 then (if t105 = 16383 then (some (0, 1, 0)) else ((periluneref01_Add.f (IntKind.u16.wrap (t105)) 1).bind fun t106 => (some (t106, 0, 0)))) else (if a1 = 2 then (if t105 = 16384 then (some (32767, (-1), 0)) else ((periluneref01_Add.f (IntKind.u16.wrap (t105)) 32766).bind fun t107 => (some (t107, 0, 0)))) else (if a1 = 3 then (some (IntKind.u16.wrap (Int.tmod (wrap64 (t105 + 1)) 32768), 0, 0)) else (if a1 = 4 then (some (IntKind.u16.wrap (Int.tmod (wrap64 (t105 + 32767)) 32768), 0, 0)) else (if a1 = 5 then (if t105 ≥ 1 then (periluneref06_Apply.j0 k (IntKind.u16.wrap (t105)) t105 (decide (t105 ≤ 16383))) else (periluneref06_Apply.j0 k (IntKind.u16.wrap (t105)) t105 false)) else (if a1 = 6 then ((periluneref06_bit.f (decide (t105 > 16383))).bind fun t108 => (some (IntKind.u16.wrap (Int.tmod (wrap64 (2 * t105)) 32768), t108, 0))) else (if a1 = 7 then ((periluneref06_bit.f (decide (t105 > 16383))).bind fun t109 => (some (IntKind.u16.wrap (Int.tmod (wrap64 ((wrap64 (2 * t105)) + 1)) 32768), t109, 0))) else (some (0, 0, 2)))))))))) = some (r1, r2, r3) := h
  clear h
  replace H := Option.bind_eq_some_iff.mp H
  obtain ⟨t105, A30, H⟩ := H
  replace H : (if a1 = 1 then (if t105 = 16383 then (some (0, 1, 0)) else ((periluneref01_Add.f (IntKind.u16.wrap (t105)) 1).bind fun t106 => (some (t106, 0, 0)))) else (if a1 = 2 then (if t105 = 16384 then (some (32767, (-1), 0)) else ((periluneref01_Add.f (IntKind.u16.wrap (t105)) 32766).bind fun t107 => (some (t107, 0, 0)))) else (if a1 = 3 then (some (IntKind.u16.wrap (Int.tmod (wrap64 (t105 + 1)) 32768), 0, 0)) else (if a1 = 4 then (some (IntKind.u16.wrap (Int.tmod (wrap64 (t105 + 32767)) 32768), 0, 0)) else (if a1 = 5 then (if t105 ≥ 1 then (periluneref06_Apply.j0 k (IntKind.u16.wrap (t105)) t105 (decide (t105 ≤ 16383))) else (periluneref06_Apply.j0 k (IntKind.u16.wrap (t105)) t105 false)) else (if a1 = 6 then ((periluneref06_bit.f (decide (t105 > 16383))).bind fun t108 => (some (IntKind.u16.wrap (Int.tmod (wrap64 (2 * t105)) 32768), t108, 0))) else (if a1 = 7 then ((periluneref06_bit.f (decide (t105 > 16383))).bind fun t109 => (some (IntKind.u16.wrap (Int.tmod (wrap64 ((wrap64 (2 * t105)) + 1)) 32768), t109, 0))) else (some (0, 0, 2))))))))) = some (r1, r2, r3) := H
  have A3 := Aside0.mk A30
  clear A30
  by_cases c4 : a1 = 1
  · rw [if_pos c4] at H
    have c4b0 : (a1 == 1) = true := beq_iff_eq.mpr c4
    have c4b1 : (a1 != 1) = false := bne_eq_false_iff_eq.mpr c4
    clear c4
    by_cases c5 : t105 = 16383
    · rw [if_pos c5] at H
      have c5b0 : (t105 == 16383) = true := beq_iff_eq.mpr c5
      have c5b1 : (t105 != 16383) = false := bne_eq_false_iff_eq.mpr c5
      clear c5
      simp only [Option.some.injEq, Prod.mk.injEq] at H
      obtain ⟨rfl, rfl, rfl⟩ := H
      go_enter Try.func12, Try.ntmps12
      go_wp2_with (first | ((with_reducible refine gate_callee (f := 30) rfl ?_); refine goesL_ (some 9) rfl rfl Try.func30 (by kernel_rfl) rfl #[.int .u16 a0] rfl (by (try simp only [List.map_toArray, List.map_cons, List.map_nil]); first | done | rfl | (simp only [List.length_drop, List.length_take]; rfl)) ?_; (with_reducible refine (periluneref01_Low.calls a0 t105 _ A3.out).mono ?_); rintro e w' ⟨rfl, ⟨nd, rfl⟩⟩; refine ⟨_, rfl, ?_⟩))
      go_ret3
      exact ⟨by first | rfl | (simp; done) | (simp [*]; done), by repeat (first | exact Drawn0.refl _ | apply Drawn0.step)⟩
    · rw [if_neg c5] at H
      have c5b0 : (t105 == 16383) = false := beq_eq_false_iff_ne.mpr c5
      have c5b1 : (t105 != 16383) = true := bne_iff_ne.mpr c5
      replace H := Option.bind_eq_some_iff.mp H
      obtain ⟨t106, A60, H⟩ := H
      replace H : (some (t106, 0, 0)) = some (r1, r2, r3) := H
      have A6 := Aside0.mk A60
      clear A60
      simp only [Option.some.injEq, Prod.mk.injEq] at H
      obtain ⟨rfl, rfl, rfl⟩ := H
      go_enter Try.func12, Try.ntmps12
      go_wp2_with (first | ((with_reducible refine gate_callee (f := 30) rfl ?_); refine goesL_ (some 9) rfl rfl Try.func30 (by kernel_rfl) rfl #[.int .u16 a0] rfl (by (try simp only [List.map_toArray, List.map_cons, List.map_nil]); first | done | rfl | (simp only [List.length_drop, List.length_take]; rfl)) ?_; (with_reducible refine (periluneref01_Low.calls a0 t105 _ A3.out).mono ?_); rintro e w' ⟨rfl, ⟨nd, rfl⟩⟩; refine ⟨_, rfl, ?_⟩) | ((with_reducible refine gate_callee (f := 31) rfl ?_); refine goesL_ (some 18) rfl rfl Try.func31 (by kernel_rfl) rfl #[.int .u16 (IntKind.u16.wrap (t105)), .int .u16 1] rfl (by (try simp only [List.map_toArray, List.map_cons, List.map_nil]); first | done | rfl | (simp only [List.length_drop, List.length_take]; rfl)) ?_; (with_reducible refine (periluneref01_Add.calls (IntKind.u16.wrap (t105)) 1 t106 _ A6.out).mono ?_); rintro e w' ⟨rfl, ⟨nd, rfl⟩⟩; refine ⟨_, rfl, ?_⟩))
      go_ret3
      exact ⟨by first | rfl | (simp; done) | (simp [*]; done), by repeat (first | exact Drawn0.refl _ | apply Drawn0.step)⟩
  · rw [if_neg c4] at H
    have c4b0 : (a1 == 1) = false := beq_eq_false_iff_ne.mpr c4
    have c4b1 : (a1 != 1) = true := bne_iff_ne.mpr c4
    by_cases c7 : a1 = 2
    · rw [if_pos c7] at H
      have c7b0 : (a1 == 2) = true := beq_iff_eq.mpr c7
      have c7b1 : (a1 != 2) = false := bne_eq_false_iff_eq.mpr c7
      clear c7
      by_cases c8 : t105 = 16384
      · rw [if_pos c8] at H
        have c8b0 : (t105 == 16384) = true := beq_iff_eq.mpr c8
        have c8b1 : (t105 != 16384) = false := bne_eq_false_iff_eq.mpr c8
        clear c8
        simp only [Option.some.injEq, Prod.mk.injEq] at H
        obtain ⟨rfl, rfl, rfl⟩ := H
        go_enter Try.func12, Try.ntmps12
        go_wp2_with (first | ((with_reducible refine gate_callee (f := 30) rfl ?_); refine goesL_ (some 9) rfl rfl Try.func30 (by kernel_rfl) rfl #[.int .u16 a0] rfl (by (try simp only [List.map_toArray, List.map_cons, List.map_nil]); first | done | rfl | (simp only [List.length_drop, List.length_take]; rfl)) ?_; (with_reducible refine (periluneref01_Low.calls a0 t105 _ A3.out).mono ?_); rintro e w' ⟨rfl, ⟨nd, rfl⟩⟩; refine ⟨_, rfl, ?_⟩))
        go_ret3
        exact ⟨by first | rfl | (simp; done) | (simp [*]; done), by repeat (first | exact Drawn0.refl _ | apply Drawn0.step)⟩
      · rw [if_neg c8] at H
        have c8b0 : (t105 == 16384) = false := beq_eq_false_iff_ne.mpr c8
        have c8b1 : (t105 != 16384) = true := bne_iff_ne.mpr c8
        replace H := Option.bind_eq_some_iff.mp H
        obtain ⟨t107, A90, H⟩ := H
        replace H : (some (t107, 0, 0)) = some (r1, r2, r3) := H
        have A9 := Aside0.mk A90
        clear A90
        simp only [Option.some.injEq, Prod.mk.injEq] at H
        obtain ⟨rfl, rfl, rfl⟩ := H
        go_enter Try.func12, Try.ntmps12
        go_wp2_with (first | ((with_reducible refine gate_callee (f := 30) rfl ?_); refine goesL_ (some 9) rfl rfl Try.func30 (by kernel_rfl) rfl #[.int .u16 a0] rfl (by (try simp only [List.map_toArray, List.map_cons, List.map_nil]); first | done | rfl | (simp only [List.length_drop, List.length_take]; rfl)) ?_; (with_reducible refine (periluneref01_Low.calls a0 t105 _ A3.out).mono ?_); rintro e w' ⟨rfl, ⟨nd, rfl⟩⟩; refine ⟨_, rfl, ?_⟩) | ((with_reducible refine gate_callee (f := 31) rfl ?_); refine goesL_ (some 24) rfl rfl Try.func31 (by kernel_rfl) rfl #[.int .u16 (IntKind.u16.wrap (t105)), .int .u16 32766] rfl (by (try simp only [List.map_toArray, List.map_cons, List.map_nil]); first | done | rfl | (simp only [List.length_drop, List.length_take]; rfl)) ?_; (with_reducible refine (periluneref01_Add.calls (IntKind.u16.wrap (t105)) 32766 t107 _ A9.out).mono ?_); rintro e w' ⟨rfl, ⟨nd, rfl⟩⟩; refine ⟨_, rfl, ?_⟩))
        go_ret3
        exact ⟨by first | rfl | (simp; done) | (simp [*]; done), by repeat (first | exact Drawn0.refl _ | apply Drawn0.step)⟩
    · rw [if_neg c7] at H
      have c7b0 : (a1 == 2) = false := beq_eq_false_iff_ne.mpr c7
      have c7b1 : (a1 != 2) = true := bne_iff_ne.mpr c7
      by_cases c10 : a1 = 3
      · rw [if_pos c10] at H
        have c10b0 : (a1 == 3) = true := beq_iff_eq.mpr c10
        have c10b1 : (a1 != 3) = false := bne_eq_false_iff_eq.mpr c10
        clear c10
        simp only [Option.some.injEq, Prod.mk.injEq] at H
        obtain ⟨rfl, rfl, rfl⟩ := H
        go_enter Try.func12, Try.ntmps12
        go_wp2_with (first | ((with_reducible refine gate_callee (f := 30) rfl ?_); refine goesL_ (some 9) rfl rfl Try.func30 (by kernel_rfl) rfl #[.int .u16 a0] rfl (by (try simp only [List.map_toArray, List.map_cons, List.map_nil]); first | done | rfl | (simp only [List.length_drop, List.length_take]; rfl)) ?_; (with_reducible refine (periluneref01_Low.calls a0 t105 _ A3.out).mono ?_); rintro e w' ⟨rfl, ⟨nd, rfl⟩⟩; refine ⟨_, rfl, ?_⟩))
        go_ret3
        exact ⟨by first | rfl | (simp; done) | (simp [*]; done), by repeat (first | exact Drawn0.refl _ | apply Drawn0.step)⟩
      · rw [if_neg c10] at H
        have c10b0 : (a1 == 3) = false := beq_eq_false_iff_ne.mpr c10
        have c10b1 : (a1 != 3) = true := bne_iff_ne.mpr c10
        by_cases c11 : a1 = 4
        · rw [if_pos c11] at H
          have c11b0 : (a1 == 4) = true := beq_iff_eq.mpr c11
          have c11b1 : (a1 != 4) = false := bne_eq_false_iff_eq.mpr c11
          clear c11
          simp only [Option.some.injEq, Prod.mk.injEq] at H
          obtain ⟨rfl, rfl, rfl⟩ := H
          go_enter Try.func12, Try.ntmps12
          go_wp2_with (first | ((with_reducible refine gate_callee (f := 30) rfl ?_); refine goesL_ (some 9) rfl rfl Try.func30 (by kernel_rfl) rfl #[.int .u16 a0] rfl (by (try simp only [List.map_toArray, List.map_cons, List.map_nil]); first | done | rfl | (simp only [List.length_drop, List.length_take]; rfl)) ?_; (with_reducible refine (periluneref01_Low.calls a0 t105 _ A3.out).mono ?_); rintro e w' ⟨rfl, ⟨nd, rfl⟩⟩; refine ⟨_, rfl, ?_⟩))
          go_ret3
          exact ⟨by first | rfl | (simp; done) | (simp [*]; done), by repeat (first | exact Drawn0.refl _ | apply Drawn0.step)⟩
        · rw [if_neg c11] at H
          have c11b0 : (a1 == 4) = false := beq_eq_false_iff_ne.mpr c11
          have c11b1 : (a1 != 4) = true := bne_iff_ne.mpr c11
          by_cases c12 : a1 = 5
          · rw [if_pos c12] at H
            have c12b0 : (a1 == 5) = true := beq_iff_eq.mpr c12
            have c12b1 : (a1 != 5) = false := bne_eq_false_iff_eq.mpr c12
            clear c12
            have HC13 := Aside0.mk H
            clear H
            go_enter Try.func12, Try.ntmps12
            go_upto_region 17 with (first | ((with_reducible refine gate_callee (f := 30) rfl ?_); refine goesL_ (some 9) rfl rfl Try.func30 (by kernel_rfl) rfl #[.int .u16 a0] rfl (by (try simp only [List.map_toArray, List.map_cons, List.map_nil]); first | done | rfl | (simp only [List.length_drop, List.length_take]; rfl)) ?_; (with_reducible refine (periluneref01_Low.calls a0 t105 _ A3.out).mono ?_); rintro e w' ⟨rfl, ⟨nd, rfl⟩⟩; refine ⟨_, rfl, ?_⟩))
            (try simp only [Act.put, List.setIfInBounds_toArray, List.set_cons_zero, List.set_cons_succ])
            go_cut [44] (fun v44 wc => ∃ (kq : Nat) (x44_12 : Bool), v44 = .bool x44_12 ∧ Aside0 (periluneref06_Apply.j0 kq (IntKind.u16.wrap (t105)) t105 x44_12 = some (r1, r2, r3)) ∧ Aside0 (kq ≤ k) ∧ Drawn0 w wc)
            case first =>
              have H := HC13.out
              clear HC13
              by_cases c14 : t105 ≥ 1
              · rw [if_pos c14] at H
                have c14b0 : decide (1 ≤ t105) = true := decide_eq_true c14
                clear c14
                (first | rw [c14b0] | (simp only [i64_w, i32_w]; rw [c14b0]) | skip)
                have H' := Aside0.mk H
                clear H
                go_wp2
                go_meet
                case rel => exact ⟨_, (decide (t105 ≤ 16383)), (by first | rfl | (simp; done) | (simp [*]; done)), H', ⟨by first | omega | exact Nat.le_refl _⟩, by repeat (first | exact Drawn0.refl _ | apply Drawn0.step)⟩
              · rw [if_neg c14] at H
                have c14b0 : decide (1 ≤ t105) = false := decide_eq_false c14
                clear c14
                (first | rw [c14b0] | (simp only [i64_w, i32_w]; rw [c14b0]) | skip)
                have H' := Aside0.mk H
                clear H
                go_wp2
                go_meet
                case rel => exact ⟨_, (false), (by first | rfl | (simp; done) | (simp [*]; done)), H', ⟨by first | omega | exact Nat.le_refl _⟩, by repeat (first | exact Drawn0.refl _ | apply Drawn0.step)⟩
            case rest =>
              clear HC13
              try clear c1
              try clear p2
              try clear c3
              try clear c4
              try clear c4b0
              try clear c4b1
              try clear c5
              try clear c5b0
              try clear c5b1
              try clear p6
              try clear c7
              try clear c7b0
              try clear c7b1
              try clear c8
              try clear c8b0
              try clear c8b1
              try clear c10
              try clear c10b0
              try clear c10b1
              try clear c11
              try clear c11b0
              try clear c11b1
              try clear c12
              try clear c12b0
              try clear c12b1
              try clear c14
              try clear c14b0
              obtain ⟨kq, x44_12, rfl, HA, HJ12, ⟨mc12, rfl⟩⟩ := hcut
              cases kq with
              | zero => exact absurd HA.out (by simp [periluneref06_Apply.j0])
              | succ kj12 =>
                have H := HA.out
                clear HA
                simp only [periluneref06_Apply.j0] at H
                by_cases c15 : x44_12 = true
                · subst c15
                  have H1 : (some (IntKind.u16.wrap (wrap64 (t105 - 1)), 1, 0)) = some (r1, r2, r3) := by rw [if_pos rfl] at H; exact H
                  clear H
                  have H := H1
                  clear H1
                  simp only [Option.some.injEq, Prod.mk.injEq] at H
                  obtain ⟨rfl, rfl, rfl⟩ := H
                  go_wp2
                  go_ret3
                  exact ⟨by first | rfl | (simp; done) | (simp [*]; done), by repeat (first | exact Drawn0.refl _ | apply Drawn0.step)⟩
                · replace c15 := Bool.eq_false_iff.mpr c15
                  subst c15
                  have H1 : (if t105 ≥ 16384 then (if t105 ≤ 32766 then (some (IntKind.u16.wrap (wrap64 (t105 + 1)), (-1), 0)) else (some ((IntKind.u16.wrap (t105)), 0, 0))) else (some ((IntKind.u16.wrap (t105)), 0, 0))) = some (r1, r2, r3) := by rw [if_neg (show ¬ (false = true) by decide)] at H; exact H
                  clear H
                  have H := H1
                  clear H1
                  by_cases c16 : t105 ≥ 16384
                  · rw [if_pos c16] at H
                    have c16b0 : decide (16384 ≤ t105) = true := decide_eq_true c16
                    clear c16
                    by_cases c17 : t105 ≤ 32766
                    · rw [if_pos c17] at H
                      have c17b0 : decide (t105 ≤ 32766) = true := decide_eq_true c17
                      clear c17
                      simp only [Option.some.injEq, Prod.mk.injEq] at H
                      obtain ⟨rfl, rfl, rfl⟩ := H
                      go_wp2
                      go_ret3
                      exact ⟨by first | rfl | (simp; done) | (simp [*]; done), by repeat (first | exact Drawn0.refl _ | apply Drawn0.step)⟩
                    · rw [if_neg c17] at H
                      have c17b0 : decide (t105 ≤ 32766) = false := decide_eq_false c17
                      clear c17
                      simp only [Option.some.injEq, Prod.mk.injEq] at H
                      obtain ⟨rfl, rfl, rfl⟩ := H
                      go_wp2
                      go_ret3
                      exact ⟨by first | rfl | (simp; done) | (simp [*]; done), by repeat (first | exact Drawn0.refl _ | apply Drawn0.step)⟩
                  · rw [if_neg c16] at H
                    have c16b0 : decide (16384 ≤ t105) = false := decide_eq_false c16
                    clear c16
                    simp only [Option.some.injEq, Prod.mk.injEq] at H
                    obtain ⟨rfl, rfl, rfl⟩ := H
                    go_wp2
                    go_ret3
                    exact ⟨by first | rfl | (simp; done) | (simp [*]; done), by repeat (first | exact Drawn0.refl _ | apply Drawn0.step)⟩
          · rw [if_neg c12] at H
            have c12b0 : (a1 == 5) = false := beq_eq_false_iff_ne.mpr c12
            have c12b1 : (a1 != 5) = true := bne_iff_ne.mpr c12
            by_cases c18 : a1 = 6
            · rw [if_pos c18] at H
              have c18b0 : (a1 == 6) = true := beq_iff_eq.mpr c18
              have c18b1 : (a1 != 6) = false := bne_eq_false_iff_eq.mpr c18
              clear c18
              replace H := Option.bind_eq_some_iff.mp H
              obtain ⟨t108, A190, H⟩ := H
              replace H : (some (IntKind.u16.wrap (Int.tmod (wrap64 (2 * t105)) 32768), t108, 0)) = some (r1, r2, r3) := H
              have A19 := Aside0.mk A190
              clear A190
              simp only [Option.some.injEq, Prod.mk.injEq] at H
              obtain ⟨rfl, rfl, rfl⟩ := H
              go_enter Try.func12, Try.ntmps12
              go_wp2_with (first | ((with_reducible refine gate_callee (f := 30) rfl ?_); refine goesL_ (some 9) rfl rfl Try.func30 (by kernel_rfl) rfl #[.int .u16 a0] rfl (by (try simp only [List.map_toArray, List.map_cons, List.map_nil]); first | done | rfl | (simp only [List.length_drop, List.length_take]; rfl)) ?_; (with_reducible refine (periluneref01_Low.calls a0 t105 _ A3.out).mono ?_); rintro e w' ⟨rfl, ⟨nd, rfl⟩⟩; refine ⟨_, rfl, ?_⟩) | ((with_reducible refine gate_callee (f := 32) rfl ?_); refine goesL_ (some 66) rfl rfl Try.func32 (by kernel_rfl) rfl #[.bool (decide (t105 > 16383))] rfl (by (try simp only [List.map_toArray, List.map_cons, List.map_nil]); first | done | rfl | (simp only [List.length_drop, List.length_take]; rfl)) ?_; (with_reducible refine (periluneref06_bit.calls (decide (t105 > 16383)) t108 _ A19.out).mono ?_); rintro e w' ⟨rfl, ⟨nd, rfl⟩⟩; refine ⟨_, rfl, ?_⟩))
              go_ret3
              exact ⟨by first | rfl | (simp; done) | (simp [*]; done), by repeat (first | exact Drawn0.refl _ | apply Drawn0.step)⟩
            · rw [if_neg c18] at H
              have c18b0 : (a1 == 6) = false := beq_eq_false_iff_ne.mpr c18
              have c18b1 : (a1 != 6) = true := bne_iff_ne.mpr c18
              by_cases c20 : a1 = 7
              · rw [if_pos c20] at H
                have c20b0 : (a1 == 7) = true := beq_iff_eq.mpr c20
                have c20b1 : (a1 != 7) = false := bne_eq_false_iff_eq.mpr c20
                clear c20
                replace H := Option.bind_eq_some_iff.mp H
                obtain ⟨t109, A210, H⟩ := H
                replace H : (some (IntKind.u16.wrap (Int.tmod (wrap64 ((wrap64 (2 * t105)) + 1)) 32768), t109, 0)) = some (r1, r2, r3) := H
                have A21 := Aside0.mk A210
                clear A210
                simp only [Option.some.injEq, Prod.mk.injEq] at H
                obtain ⟨rfl, rfl, rfl⟩ := H
                go_enter Try.func12, Try.ntmps12
                go_wp2_with (first | ((with_reducible refine gate_callee (f := 30) rfl ?_); refine goesL_ (some 9) rfl rfl Try.func30 (by kernel_rfl) rfl #[.int .u16 a0] rfl (by (try simp only [List.map_toArray, List.map_cons, List.map_nil]); first | done | rfl | (simp only [List.length_drop, List.length_take]; rfl)) ?_; (with_reducible refine (periluneref01_Low.calls a0 t105 _ A3.out).mono ?_); rintro e w' ⟨rfl, ⟨nd, rfl⟩⟩; refine ⟨_, rfl, ?_⟩) | ((with_reducible refine gate_callee (f := 32) rfl ?_); refine goesL_ (some 76) rfl rfl Try.func32 (by kernel_rfl) rfl #[.bool (decide (t105 > 16383))] rfl (by (try simp only [List.map_toArray, List.map_cons, List.map_nil]); first | done | rfl | (simp only [List.length_drop, List.length_take]; rfl)) ?_; (with_reducible refine (periluneref06_bit.calls (decide (t105 > 16383)) t109 _ A21.out).mono ?_); rintro e w' ⟨rfl, ⟨nd, rfl⟩⟩; refine ⟨_, rfl, ?_⟩))
                go_ret3
                exact ⟨by first | rfl | (simp; done) | (simp [*]; done), by repeat (first | exact Drawn0.refl _ | apply Drawn0.step)⟩
              · rw [if_neg c20] at H
                have c20b0 : (a1 == 7) = false := beq_eq_false_iff_ne.mpr c20
                have c20b1 : (a1 != 7) = true := bne_iff_ne.mpr c20
                simp only [Option.some.injEq, Prod.mk.injEq] at H
                obtain ⟨rfl, rfl, rfl⟩ := H
                go_enter Try.func12, Try.ntmps12
                go_wp2_with (first | ((with_reducible refine gate_callee (f := 30) rfl ?_); refine goesL_ (some 9) rfl rfl Try.func30 (by kernel_rfl) rfl #[.int .u16 a0] rfl (by (try simp only [List.map_toArray, List.map_cons, List.map_nil]); first | done | rfl | (simp only [List.length_drop, List.length_take]; rfl)) ?_; (with_reducible refine (periluneref01_Low.calls a0 t105 _ A3.out).mono ?_); rintro e w' ⟨rfl, ⟨nd, rfl⟩⟩; refine ⟨_, rfl, ?_⟩))
                go_ret3
                exact ⟨by first | rfl | (simp; done) | (simp [*]; done), by repeat (first | exact Drawn0.refl _ | apply Drawn0.step)⟩

end Go.Proofs.Ytebnodldfddbnaa.PAll
