/- Functions of the program as plain Lean functions, each with the proof that its call computes it (printed by program, cut by leaf.py): periluneref03_check. -/
import Derived.Test.YtllmmgjmkgiodaaF10
namespace Go.Proofs.Ytllmmgjmkgiodaa.PAll
open Go.RowKit Go.Proofs.YtllmmgjmkgiodaaW.PrintWords Go.Proofs.YtllmmgjmkgiodaaW.PrintLast Go.Proofs.YtllmmgjmkgiodaaW.PrintMore
attribute [local go_sem] max2_int min2_int max_two min_two max_three min_three max_four min_four   -- for this text's walks alone
set_option linter.unusedVariables false
set_option linter.unusedSimpArgs false

/-! ### periluneref03_check: function 42 -/
mutual
def periluneref03_check.l0 : Nat → List (S64) → Int → Int → Option (Int)
  | 0, _, _, _ => none
  | k + 1, x0, x1, x5 => if x5 < x1 then (if 0 ≤ x5 then (if x5 < (x0.length : Int) then (if 0 ≤ x1 then (if x1 < (x0.length : Int) then (if ((rd_T64 x0 x5).f0) = ((rd_T64 x0 x1).f0) then (some 8) else (periluneref03_check.l0 k x0 x1 (wrap64 (x5 + 1)))) else (none)) else (none)) else (none)) else (none)) else (if 0 ≤ x1 then (if x1 < (x0.length : Int) then (if (((rd_T64 x0 x1).f1).length : Int) > 1024 then (some 4) else (periluneref03_check.l1 k x0 x1 0)) else (none)) else (none))
def periluneref03_check.l1 : Nat → List (S64) → Int → Int → Option (Int)
  | 0, _, _, _ => none
  | k + 1, x0, x1, x6 => if 0 ≤ x1 then (if x1 < (x0.length : Int) then (if x6 < (((rd_T64 x0 x1).f1).length : Int) then (if 0 ≤ x6 then (if (rd ((rd_T64 x0 x1).f1) x6) > 32767 then (some 3) else (periluneref03_check.l1 k x0 x1 (wrap64 (x6 + 1)))) else (none)) else (some 0)) else (none)) else (none)
end
def periluneref03_check.f (k : Nat) (l0 : List (S64)) (a1 : Int) : Option (Int) := if 0 ≤ a1 then (if a1 < (l0.length : Int) then ((periluneref03_within.f ((rd_T64 l0 a1).f0) 35).bind fun t247 => (if t247 = true then (periluneref03_check.l0 k l0 a1 0) else (some 3))) else (none)) else (none)
theorem periluneref03_check.mono_l : ∀ k, (∀ y0 y1 y2, LeO (periluneref03_check.l0 k y0 y1 y2) (periluneref03_check.l0 (k + 1) y0 y1 y2)) ∧ (∀ y0 y1 y2, LeO (periluneref03_check.l1 k y0 y1 y2) (periluneref03_check.l1 (k + 1) y0 y1 y2))
  | 0 => ⟨fun _ _ _ r h => by simp [periluneref03_check.l0] at h, fun _ _ _ r h => by simp [periluneref03_check.l1] at h⟩
  | k + 1 => by
    obtain ⟨ih0, ih1⟩ := periluneref03_check.mono_l k
    refine ⟨?_, ?_⟩
    · intro y0 y1 y2
      unfold periluneref03_check.l0
      repeat' first
      | (with_reducible exact ih0 _ _ _)
      | (with_reducible exact ih1 _ _ _)
      | (with_reducible exact LeO.refl _)
      | (with_reducible exact LeO.none _)
      | (with_reducible refine LeO.ite ?_ ?_)
      | (with_reducible refine LeO.bind ?_ (fun _ => ?_))
      | exact ih0 _ _ _
      | exact ih1 _ _ _
      | exact LeO.none _
      | refine LeO.ite ?_ ?_
      | refine LeO.bind ?_ (fun _ => ?_)
    · intro y0 y1 y2
      unfold periluneref03_check.l1
      repeat' first
      | (with_reducible exact ih0 _ _ _)
      | (with_reducible exact ih1 _ _ _)
      | (with_reducible exact LeO.refl _)
      | (with_reducible exact LeO.none _)
      | (with_reducible refine LeO.ite ?_ ?_)
      | (with_reducible refine LeO.bind ?_ (fun _ => ?_))
      | exact ih0 _ _ _
      | exact ih1 _ _ _
      | exact LeO.none _
      | refine LeO.ite ?_ ?_
      | refine LeO.bind ?_ (fun _ => ?_)
theorem periluneref03_check.mono : ∀ a0 a1 k, LeO (periluneref03_check.f k a0 a1) (periluneref03_check.f (k + 1) a0 a1) := by
  intro a0 a1 k
  obtain ⟨ih0, ih1⟩ := periluneref03_check.mono_l k
  unfold periluneref03_check.f
  repeat' first
      | (with_reducible exact ih0 _ _ _)
      | (with_reducible exact ih1 _ _ _)
      | (with_reducible exact LeO.refl _)
      | (with_reducible exact LeO.none _)
      | (with_reducible refine LeO.ite ?_ ?_)
      | (with_reducible refine LeO.bind ?_ (fun _ => ?_))
      | exact ih0 _ _ _
      | exact ih1 _ _ _
      | exact LeO.none _
      | refine LeO.ite ?_ ?_
      | refine LeO.bind ?_ (fun _ => ?_)
set_option maxHeartbeats 8000000 in
set_option maxRecDepth 100000 in
theorem periluneref03_check.calls (k : Nat) (A0 : Option Addr) (c0 : Nat) (l0 : List (S64)) (a1 : Int) (r : Int) (w : World) (hr0 : Kd.C k64 w A0 l0.length l0) (hc0 : l0.length ≤ c0) (h : periluneref03_check.f k l0 a1 = some r) :
    Calls Try.prog 42 #[.slice A0 l0.length c0, .int .i64 a1] w fun e w' => e = .returned (.int .i64 r) ∧ Drawn0 w w' := by
  have HR0 := Aside0.mk hr0
  have HC0 := Aside0.mk hc0
  clear hr0 hc0
  have H : (if 0 ≤ a1 then (if a1 < (l0.length : Int) then ((periluneref03_within.f ((rd_T64 l0 a1).f0) 35).bind fun t247 => (if t247 = true then (periluneref03_check.l0 k l0 a1 0) else (some 3))) else (none)) else (none)) = some r := h
  clear h
  by_cases c3 : 0 ≤ a1
  · rw [if_pos c3] at H
    have c3b0 : decide (0 ≤ a1) = true := decide_eq_true c3
    clear c3
    by_cases c4 : a1 < (l0.length : Int)
    · rw [if_pos c4] at H
      have c4b0 : decide (a1 < (l0.length : Int)) = true := decide_eq_true c4
      clear c4
      replace H := Option.bind_eq_some_iff.mp H
      obtain ⟨t247, A50, H⟩ := H
      replace H : (if t247 = true then (periluneref03_check.l0 k l0 a1 0) else (some 3)) = some r := H
      have A5 := Aside0.mk A50
      clear A50
      by_cases c6 : t247 = true
      · subst c6
        have H1 : (periluneref03_check.l0 k l0 a1 0) = some r := by rw [if_pos rfl] at H; exact H
        clear H
        have H := H1
        clear H1
        have H' := Aside0.mk H
        clear H
        have p246 : 0 ≤ (a1 : Int) := of_decide_eq_true (by first | (with_reducible assumption) | assumption)
        have q246 : a1 < (l0.length : Int) := of_decide_eq_true (by first | (with_reducible assumption) | assumption)
        obtain ⟨ad246, A246_1, c246_1, e246, hx246_0, hx246_1, hl246_1, hi246_1⟩ := at_T64 HR0.out a1 p246 q246
        cases e246
        have HR246_1 := Aside0.mk hi246_1
        have HC246_1 := Aside0.mk hl246_1
        clear hi246_1 hl246_1
        replace p246 := eq_true p246
        replace q246 := eq_true q246
        go_enter Try.func42, Try.ntmps42
        go_wp2_with (first | (go_at_call 37; (with_reducible refine (periluneref03_within.calls ((rd_T64 l0 a1).f0) 35 true _ A5.out).mono ?_); rintro e w' ⟨rfl, ⟨nd, rfl⟩⟩; (try first | exact ⟨rfl, _, World.drewN_drewN _ _ _⟩ | exact ⟨rfl, _, Eq.trans (World.drewN_drewN _ _ _) (congrArg (World.drewN _) (Nat.add_assoc _ _ _))⟩)))
        repeat (go_quiet (first | (go_at_call 37; (with_reducible refine (periluneref03_within.calls ((rd_T64 l0 a1).f0) 35 true _ A5.out).mono ?_); rintro e w' ⟨rfl, ⟨nd, rfl⟩⟩; (try first | exact ⟨rfl, _, World.drewN_drewN _ _ _⟩ | exact ⟨rfl, _, Eq.trans (World.drewN_drewN _ _ _) (congrArg (World.drewN _) (Nat.add_assoc _ _ _))⟩))); try go_wp2_with (first | (go_at_call 37; (with_reducible refine (periluneref03_within.calls ((rd_T64 l0 a1).f0) 35 true _ A5.out).mono ?_); rintro e w' ⟨rfl, ⟨nd, rfl⟩⟩; (try first | exact ⟨rfl, _, World.drewN_drewN _ _ _⟩ | exact ⟨rfl, _, Eq.trans (World.drewN_drewN _ _ _) (congrArg (World.drewN _) (Nat.add_assoc _ _ _))⟩))))
        go_loopg [5] k (fun kq v5 w' => ∃ (x5_1 : Int), v5 = .int .i64 x5_1 ∧ Aside0 (periluneref03_check.l0 kq l0 a1 x5_1 = some r) ∧ Aside0 (kq ≤ k) ∧ Drawn0 w w')
        case atStart => exact ⟨(0), (by first | rfl | (simp; done) | (simp [*]; done)), H', ⟨Nat.le_refl _⟩, by repeat (first | exact Drawn0.refl _ | apply Drawn0.step)⟩
        case round =>
          clear H'
          try clear c2
          try clear p2
          try clear q2
          try clear hx2
          try clear c3
          try clear c3b0
          try clear c4
          try clear c4b0
          try clear c6
          try clear hx246_0
          try clear hx246_1
          try clear p246
          try clear q246
          obtain ⟨x5_1, rfl, HA, HK1, ⟨m1, rfl⟩⟩ := hrel
          cases gk with
          | zero => exact absurd HA.out (by simp [periluneref03_check.l0])
          | succ k1 =>
            have H := HA.out
            clear HA
            simp only [periluneref03_check.l0] at H
            by_cases c7 : x5_1 < a1
            · rw [if_pos c7] at H
              have c7b0 : decide (x5_1 < a1) = true := decide_eq_true c7
              clear c7
              by_cases c8 : 0 ≤ x5_1
              · rw [if_pos c8] at H
                have c8b0 : decide (0 ≤ x5_1) = true := decide_eq_true c8
                clear c8
                by_cases c9 : x5_1 < (l0.length : Int)
                · rw [if_pos c9] at H
                  have c9b0 : decide (x5_1 < (l0.length : Int)) = true := decide_eq_true c9
                  clear c9
                  by_cases c10 : 0 ≤ a1
                  · rw [if_pos c10] at H
                    have c10b0 : decide (0 ≤ a1) = true := decide_eq_true c10
                    clear c10
                    by_cases c11 : a1 < (l0.length : Int)
                    · rw [if_pos c11] at H
                      have c11b0 : decide (a1 < (l0.length : Int)) = true := decide_eq_true c11
                      clear c11
                      by_cases c12 : ((rd_T64 l0 x5_1).f0) = ((rd_T64 l0 a1).f0)
                      · rw [if_pos c12] at H
                        have c12b0 : (((rd_T64 l0 x5_1).f0) == ((rd_T64 l0 a1).f0)) = true := beq_iff_eq.mpr c12
                        have c12b1 : (((rd_T64 l0 x5_1).f0) != ((rd_T64 l0 a1).f0)) = false := bne_eq_false_iff_eq.mpr c12
                        clear c12
                        obtain rfl := Option.some.inj H
                        have p248 : 0 ≤ (x5_1 : Int) := of_decide_eq_true (by first | (with_reducible assumption) | assumption)
                        have q248 : x5_1 < (l0.length : Int) := of_decide_eq_true (by first | (with_reducible assumption) | assumption)
                        obtain ⟨ad248, A248_1, c248_1, e248, hx248_0, hx248_1, hl248_1, hi248_1⟩ := at_T64 HR0.out x5_1 p248 q248
                        obtain rfl : ad246 = ad248 := (by injection e248)
                        have HR248_1 := Aside0.mk hi248_1
                        have HC248_1 := Aside0.mk hl248_1
                        clear hi248_1 hl248_1
                        replace p248 := eq_true p248
                        replace q248 := eq_true q248
                        have p249 : 0 ≤ (a1 : Int) := of_decide_eq_true (by first | (with_reducible assumption) | assumption)
                        have q249 : a1 < (l0.length : Int) := of_decide_eq_true (by first | (with_reducible assumption) | assumption)
                        obtain ⟨ad249, A249_1, c249_1, e249, hx249_0, hx249_1, hl249_1, hi249_1⟩ := at_T64 HR0.out a1 p249 q249
                        obtain rfl : ad246 = ad249 := (by injection e249)
                        have HR249_1 := Aside0.mk hi249_1
                        have HC249_1 := Aside0.mk hl249_1
                        clear hi249_1 hl249_1
                        replace p249 := eq_true p249
                        replace q249 := eq_true q249
                        go_wp2
                        repeat (go_quiet (fail); try go_wp2)
                        go_ret
                        exact ⟨by first | rfl | (simp; done) | (simp [*]; done), by repeat (first | exact Drawn0.refl _ | apply Drawn0.step)⟩
                      · rw [if_neg c12] at H
                        have c12b0 : (((rd_T64 l0 x5_1).f0) == ((rd_T64 l0 a1).f0)) = false := beq_eq_false_iff_ne.mpr c12
                        have c12b1 : (((rd_T64 l0 x5_1).f0) != ((rd_T64 l0 a1).f0)) = true := bne_iff_ne.mpr c12
                        have H' := Aside0.mk H
                        clear H
                        have p248 : 0 ≤ (x5_1 : Int) := of_decide_eq_true (by first | (with_reducible assumption) | assumption)
                        have q248 : x5_1 < (l0.length : Int) := of_decide_eq_true (by first | (with_reducible assumption) | assumption)
                        obtain ⟨ad248, A248_1, c248_1, e248, hx248_0, hx248_1, hl248_1, hi248_1⟩ := at_T64 HR0.out x5_1 p248 q248
                        obtain rfl : ad246 = ad248 := (by injection e248)
                        have HR248_1 := Aside0.mk hi248_1
                        have HC248_1 := Aside0.mk hl248_1
                        clear hi248_1 hl248_1
                        replace p248 := eq_true p248
                        replace q248 := eq_true q248
                        have p249 : 0 ≤ (a1 : Int) := of_decide_eq_true (by first | (with_reducible assumption) | assumption)
                        have q249 : a1 < (l0.length : Int) := of_decide_eq_true (by first | (with_reducible assumption) | assumption)
                        obtain ⟨ad249, A249_1, c249_1, e249, hx249_0, hx249_1, hl249_1, hi249_1⟩ := at_T64 HR0.out a1 p249 q249
                        obtain rfl : ad246 = ad249 := (by injection e249)
                        have HR249_1 := Aside0.mk hi249_1
                        have HC249_1 := Aside0.mk hl249_1
                        clear hi249_1 hl249_1
                        replace p249 := eq_true p249
                        replace q249 := eq_true q249
                        go_wp2
                        repeat (go_quiet (fail); try go_wp2)
                        go_roundg k1
                        case measure => have := HK1.out; omega
                        case rel => exact ⟨(wrap64 (x5_1 + 1)), (by first | rfl | (simp; done) | (simp [*]; done)), H', ⟨by have := HK1.out; omega⟩, by repeat (first | exact Drawn0.refl _ | apply Drawn0.step)⟩
                    · rw [if_neg c11] at H
                      exact absurd H (by simp)
                  · rw [if_neg c10] at H
                    exact absurd H (by simp)
                · rw [if_neg c9] at H
                  exact absurd H (by simp)
              · rw [if_neg c8] at H
                exact absurd H (by simp)
            · rw [if_neg c7] at H
              have c7b0 : decide (x5_1 < a1) = false := decide_eq_false c7
              clear c7
              by_cases c13 : 0 ≤ a1
              · rw [if_pos c13] at H
                have c13b0 : decide (0 ≤ a1) = true := decide_eq_true c13
                clear c13
                by_cases c14 : a1 < (l0.length : Int)
                · rw [if_pos c14] at H
                  have c14b0 : decide (a1 < (l0.length : Int)) = true := decide_eq_true c14
                  clear c14
                  by_cases c15 : (((rd_T64 l0 a1).f1).length : Int) > 1024
                  · rw [if_pos c15] at H
                    have c15b0 : decide (1024 < (((rd_T64 l0 a1).f1).length : Int)) = true := decide_eq_true c15
                    have c15b1 : decide (1024 < ((rd_T64 l0 a1).f1).length) = true := decide_eq_true (by omega)
                    clear c15
                    obtain rfl := Option.some.inj H
                    have p250 : 0 ≤ (a1 : Int) := of_decide_eq_true (by first | (with_reducible assumption) | assumption)
                    have q250 : a1 < (l0.length : Int) := of_decide_eq_true (by first | (with_reducible assumption) | assumption)
                    obtain ⟨ad250, A250_1, c250_1, e250, hx250_0, hx250_1, hl250_1, hi250_1⟩ := at_T64 HR0.out a1 p250 q250
                    obtain rfl : ad246 = ad250 := (by injection e250)
                    have HR250_1 := Aside0.mk hi250_1
                    have HC250_1 := Aside0.mk hl250_1
                    clear hi250_1 hl250_1
                    replace p250 := eq_true p250
                    replace q250 := eq_true q250
                    go_wp2
                    repeat (go_quiet (fail); try go_wp2)
                    go_ret
                    exact ⟨by first | rfl | (simp; done) | (simp [*]; done), by repeat (first | exact Drawn0.refl _ | apply Drawn0.step)⟩
                  · rw [if_neg c15] at H
                    have c15b0 : decide (1024 < (((rd_T64 l0 a1).f1).length : Int)) = false := decide_eq_false c15
                    have c15b1 : decide (1024 < ((rd_T64 l0 a1).f1).length) = false := decide_eq_false (by omega)
                    clear c15
                    have H' := Aside0.mk H
                    clear H
                    have p250 : 0 ≤ (a1 : Int) := of_decide_eq_true (by first | (with_reducible assumption) | assumption)
                    have q250 : a1 < (l0.length : Int) := of_decide_eq_true (by first | (with_reducible assumption) | assumption)
                    obtain ⟨ad250, A250_1, c250_1, e250, hx250_0, hx250_1, hl250_1, hi250_1⟩ := at_T64 HR0.out a1 p250 q250
                    obtain rfl : ad246 = ad250 := (by injection e250)
                    have HR250_1 := Aside0.mk hi250_1
                    have HC250_1 := Aside0.mk hl250_1
                    clear hi250_1 hl250_1
                    replace p250 := eq_true p250
                    replace q250 := eq_true q250
                    go_wp2
                    repeat (go_quiet (fail); try go_wp2)
                    go_loopg [6] k1 (fun kq v6 w' => ∃ (x6_2 : Int), v6 = .int .i64 x6_2 ∧ Aside0 (periluneref03_check.l1 kq l0 a1 x6_2 = some r) ∧ Aside0 (kq ≤ k1) ∧ Drawn0 w w')
                    case atStart => exact ⟨(0), (by first | rfl | (simp; done) | (simp [*]; done)), H', ⟨Nat.le_refl _⟩, by repeat (first | exact Drawn0.refl _ | apply Drawn0.step)⟩
                    case round =>
                      clear H'
                      try clear c1
                      try clear c2
                      try clear p2
                      try clear q2
                      try clear hx2
                      try clear c3
                      try clear c3b0
                      try clear c4
                      try clear c4b0
                      try clear c6
                      try clear p6
                      try clear c7
                      try clear c7b0
                      try clear c8
                      try clear c8b0
                      try clear c9
                      try clear c9b0
                      try clear c10
                      try clear c10b0
                      try clear c11
                      try clear c11b0
                      try clear c12
                      try clear c12b0
                      try clear c12b1
                      try clear c13
                      try clear c13b0
                      try clear c14
                      try clear c14b0
                      try clear c15
                      try clear c15b0
                      try clear c15b1
                      try clear hx246_0
                      try clear hx246_1
                      try clear hx248_0
                      try clear hx248_1
                      try clear hx249_0
                      try clear hx249_1
                      try clear hx250_0
                      try clear hx250_1
                      try clear p2
                      try clear p246
                      try clear p248
                      try clear p249
                      try clear p250
                      try clear q2
                      try clear q246
                      try clear q248
                      try clear q249
                      try clear q250
                      obtain ⟨x6_2, rfl, HA, HK2, ⟨m2, rfl⟩⟩ := hrel
                      cases gk with
                      | zero => exact absurd HA.out (by simp [periluneref03_check.l1])
                      | succ k2 =>
                        have H := HA.out
                        clear HA
                        simp only [periluneref03_check.l1] at H
                        by_cases c16 : 0 ≤ a1
                        · rw [if_pos c16] at H
                          have c16b0 : decide (0 ≤ a1) = true := decide_eq_true c16
                          clear c16
                          by_cases c17 : a1 < (l0.length : Int)
                          · rw [if_pos c17] at H
                            have c17b0 : decide (a1 < (l0.length : Int)) = true := decide_eq_true c17
                            clear c17
                            by_cases c18 : x6_2 < (((rd_T64 l0 a1).f1).length : Int)
                            · rw [if_pos c18] at H
                              have c18b0 : decide (x6_2 < (((rd_T64 l0 a1).f1).length : Int)) = true := decide_eq_true c18
                              clear c18
                              by_cases c19 : 0 ≤ x6_2
                              · rw [if_pos c19] at H
                                have c19b0 : decide (0 ≤ x6_2) = true := decide_eq_true c19
                                clear c19
                                by_cases c20 : (rd ((rd_T64 l0 a1).f1) x6_2) > 32767
                                · rw [if_pos c20] at H
                                  have c20b0 : decide (32767 < (rd ((rd_T64 l0 a1).f1) x6_2)) = true := decide_eq_true c20
                                  clear c20
                                  obtain rfl := Option.some.inj H
                                  have p251 : 0 ≤ (a1 : Int) := of_decide_eq_true (by first | (with_reducible assumption) | assumption)
                                  have q251 : a1 < (l0.length : Int) := of_decide_eq_true (by first | (with_reducible assumption) | assumption)
                                  obtain ⟨ad251, A251_1, c251_1, e251, hx251_0, hx251_1, hl251_1, hi251_1⟩ := at_T64 HR0.out a1 p251 q251
                                  obtain rfl : ad246 = ad251 := (by injection e251)
                                  have HR251_1 := Aside0.mk hi251_1
                                  have HC251_1 := Aside0.mk hl251_1
                                  clear hi251_1 hl251_1
                                  replace p251 := eq_true p251
                                  replace q251 := eq_true q251
                                  have p252 : 0 ≤ (a1 : Int) := of_decide_eq_true (by first | (with_reducible assumption) | assumption)
                                  have q252 : a1 < (l0.length : Int) := of_decide_eq_true (by first | (with_reducible assumption) | assumption)
                                  obtain ⟨ad252, A252_1, c252_1, e252, hx252_0, hx252_1, hl252_1, hi252_1⟩ := at_T64 HR0.out a1 p252 q252
                                  obtain rfl : ad246 = ad252 := (by injection e252)
                                  have HR252_1 := Aside0.mk hi252_1
                                  have HC252_1 := Aside0.mk hl252_1
                                  clear hi252_1 hl252_1
                                  replace p252 := eq_true p252
                                  replace q252 := eq_true q252
                                  have ea_ := Option.some.inj (hx251_1.symm.trans hx252_1)
                                  injection ea_ with ea_ en_ ec_
                                  subst ea_
                                  subst ec_
                                  clear en_
                                  have p253 : 0 ≤ (x6_2 : Int) := of_decide_eq_true (by first | (with_reducible assumption) | assumption)
                                  have q253 : x6_2 < (((rd_T64 l0 a1).f1).length : Int) := of_decide_eq_true (by first | (with_reducible assumption) | assumption)
                                  obtain ⟨ad253, e253, hx253_0⟩ := Kd.at_int HR252_1.out x6_2 p253 q253
                                  cases e253
                                  replace p253 := eq_true p253
                                  replace q253 := eq_true q253
                                  go_wp2
                                  repeat (go_quiet (fail); try go_wp2)
                                  go_ret
                                  exact ⟨by first | rfl | (simp; done) | (simp [*]; done), by repeat (first | exact Drawn0.refl _ | apply Drawn0.step)⟩
                                · rw [if_neg c20] at H
                                  have c20b0 : decide (32767 < (rd ((rd_T64 l0 a1).f1) x6_2)) = false := decide_eq_false c20
                                  clear c20
                                  have H' := Aside0.mk H
                                  clear H
                                  have p251 : 0 ≤ (a1 : Int) := of_decide_eq_true (by first | (with_reducible assumption) | assumption)
                                  have q251 : a1 < (l0.length : Int) := of_decide_eq_true (by first | (with_reducible assumption) | assumption)
                                  obtain ⟨ad251, A251_1, c251_1, e251, hx251_0, hx251_1, hl251_1, hi251_1⟩ := at_T64 HR0.out a1 p251 q251
                                  obtain rfl : ad246 = ad251 := (by injection e251)
                                  have HR251_1 := Aside0.mk hi251_1
                                  have HC251_1 := Aside0.mk hl251_1
                                  clear hi251_1 hl251_1
                                  replace p251 := eq_true p251
                                  replace q251 := eq_true q251
                                  have p252 : 0 ≤ (a1 : Int) := of_decide_eq_true (by first | (with_reducible assumption) | assumption)
                                  have q252 : a1 < (l0.length : Int) := of_decide_eq_true (by first | (with_reducible assumption) | assumption)
                                  obtain ⟨ad252, A252_1, c252_1, e252, hx252_0, hx252_1, hl252_1, hi252_1⟩ := at_T64 HR0.out a1 p252 q252
                                  obtain rfl : ad246 = ad252 := (by injection e252)
                                  have HR252_1 := Aside0.mk hi252_1
                                  have HC252_1 := Aside0.mk hl252_1
                                  clear hi252_1 hl252_1
                                  replace p252 := eq_true p252
                                  replace q252 := eq_true q252
                                  have ea_ := Option.some.inj (hx251_1.symm.trans hx252_1)
                                  injection ea_ with ea_ en_ ec_
                                  subst ea_
                                  subst ec_
                                  clear en_
                                  have p253 : 0 ≤ (x6_2 : Int) := of_decide_eq_true (by first | (with_reducible assumption) | assumption)
                                  have q253 : x6_2 < (((rd_T64 l0 a1).f1).length : Int) := of_decide_eq_true (by first | (with_reducible assumption) | assumption)
                                  obtain ⟨ad253, e253, hx253_0⟩ := Kd.at_int HR252_1.out x6_2 p253 q253
                                  cases e253
                                  replace p253 := eq_true p253
                                  replace q253 := eq_true q253
                                  go_wp2
                                  repeat (go_quiet (fail); try go_wp2)
                                  go_roundg k2
                                  case measure => have := HK1.out; have := HK2.out; omega
                                  case rel => exact ⟨(wrap64 (x6_2 + 1)), (by first | rfl | (simp; done) | (simp [*]; done)), H', ⟨by have := HK1.out; have := HK2.out; omega⟩, by repeat (first | exact Drawn0.refl _ | apply Drawn0.step)⟩
                              · rw [if_neg c19] at H
                                exact absurd H (by simp)
                            · rw [if_neg c18] at H
                              have c18b0 : decide (x6_2 < (((rd_T64 l0 a1).f1).length : Int)) = false := decide_eq_false c18
                              clear c18
                              obtain rfl := Option.some.inj H
                              have p251 : 0 ≤ (a1 : Int) := of_decide_eq_true (by first | (with_reducible assumption) | assumption)
                              have q251 : a1 < (l0.length : Int) := of_decide_eq_true (by first | (with_reducible assumption) | assumption)
                              obtain ⟨ad251, A251_1, c251_1, e251, hx251_0, hx251_1, hl251_1, hi251_1⟩ := at_T64 HR0.out a1 p251 q251
                              obtain rfl : ad246 = ad251 := (by injection e251)
                              have HR251_1 := Aside0.mk hi251_1
                              have HC251_1 := Aside0.mk hl251_1
                              clear hi251_1 hl251_1
                              replace p251 := eq_true p251
                              replace q251 := eq_true q251
                              go_wp2
                              repeat (go_quiet (fail); try go_wp2)
                              go_ret
                              exact ⟨by first | rfl | (simp; done) | (simp [*]; done), by repeat (first | exact Drawn0.refl _ | apply Drawn0.step)⟩
                          · rw [if_neg c17] at H
                            exact absurd H (by simp)
                        · rw [if_neg c16] at H
                          exact absurd H (by simp)
                · rw [if_neg c14] at H
                  exact absurd H (by simp)
              · rw [if_neg c13] at H
                exact absurd H (by simp)
      · replace c6 := Bool.eq_false_iff.mpr c6
        subst c6
        have H1 : (some 3) = some r := by rw [if_neg (show ¬ (false = true) by decide)] at H; exact H
        clear H
        have H := H1
        clear H1
        obtain rfl := Option.some.inj H
        have p246 : 0 ≤ (a1 : Int) := of_decide_eq_true (by first | (with_reducible assumption) | assumption)
        have q246 : a1 < (l0.length : Int) := of_decide_eq_true (by first | (with_reducible assumption) | assumption)
        obtain ⟨ad246, A246_1, c246_1, e246, hx246_0, hx246_1, hl246_1, hi246_1⟩ := at_T64 HR0.out a1 p246 q246
        cases e246
        have HR246_1 := Aside0.mk hi246_1
        have HC246_1 := Aside0.mk hl246_1
        clear hi246_1 hl246_1
        replace p246 := eq_true p246
        replace q246 := eq_true q246
        go_enter Try.func42, Try.ntmps42
        go_wp2_with (first | (go_at_call 37; (with_reducible refine (periluneref03_within.calls ((rd_T64 l0 a1).f0) 35 false _ A5.out).mono ?_); rintro e w' ⟨rfl, ⟨nd, rfl⟩⟩; (try first | exact ⟨rfl, _, World.drewN_drewN _ _ _⟩ | exact ⟨rfl, _, Eq.trans (World.drewN_drewN _ _ _) (congrArg (World.drewN _) (Nat.add_assoc _ _ _))⟩)))
        repeat (go_quiet (first | (go_at_call 37; (with_reducible refine (periluneref03_within.calls ((rd_T64 l0 a1).f0) 35 false _ A5.out).mono ?_); rintro e w' ⟨rfl, ⟨nd, rfl⟩⟩; (try first | exact ⟨rfl, _, World.drewN_drewN _ _ _⟩ | exact ⟨rfl, _, Eq.trans (World.drewN_drewN _ _ _) (congrArg (World.drewN _) (Nat.add_assoc _ _ _))⟩))); try go_wp2_with (first | (go_at_call 37; (with_reducible refine (periluneref03_within.calls ((rd_T64 l0 a1).f0) 35 false _ A5.out).mono ?_); rintro e w' ⟨rfl, ⟨nd, rfl⟩⟩; (try first | exact ⟨rfl, _, World.drewN_drewN _ _ _⟩ | exact ⟨rfl, _, Eq.trans (World.drewN_drewN _ _ _) (congrArg (World.drewN _) (Nat.add_assoc _ _ _))⟩))))
        go_ret
        exact ⟨by first | rfl | (simp; done) | (simp [*]; done), by repeat (first | exact Drawn0.refl _ | apply Drawn0.step)⟩
    · rw [if_neg c4] at H
      exact absurd H (by simp)
  · rw [if_neg c3] at H
    exact absurd H (by simp)

end Go.Proofs.Ytllmmgjmkgiodaa.PAll
