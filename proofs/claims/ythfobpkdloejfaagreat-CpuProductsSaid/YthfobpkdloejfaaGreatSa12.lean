/- Chapter 5: a part of its proof (cut by program out of F23, F24, F25, F26, F27, One0); no condition. -/
import Derived.Test.YthfobpkdloejfaaGreatSa11
section
namespace Go.Proofs.YthfobpkdloejfaaGreat.PAll
open Go.RowKit Go.Proofs.YthfobpkdloejfaaGreatW.PrintWords Go.Proofs.YthfobpkdloejfaaGreatW.PrintLast Go.Proofs.YthfobpkdloejfaaGreatW.PrintMore
attribute [local go_sem] max2_int min2_int max_two max_three min_three
set_option linter.unusedVariables false
set_option linter.unusedSimpArgs false
attribute [local go_sem high] eqA64
def periluneref01_Neg.f (a0 : Int) : Option (Int) := (periluneref01_Low.f a0).bind fun t354 => (some (IntKind.u16.wrap (wrap64 (32767 - t354))))
set_option maxHeartbeats 8000000 in
set_option maxRecDepth 100000 in
theorem periluneref01_Neg.calls (a0 : Int) (r : Int) (w : World) (h : periluneref01_Neg.f a0 = some r) :
    Calls Tryz.prog 63 #[.int .u16 a0] w fun e w' => e = .returned (.int .u16 r) ∧ Drawn0 w w' := by
  have H : ((periluneref01_Low.f a0).bind fun t354 => (some (IntKind.u16.wrap (wrap64 (32767 - t354))))) = some r := h
  clear h
  replace H := Option.bind_eq_some_iff.mp H
  obtain ⟨t354, A20, H⟩ := H
  replace H : (some (IntKind.u16.wrap (wrap64 (32767 - t354)))) = some r := H
  have A2 := Aside0.mk A20
  clear A20
  obtain rfl := Option.some.inj H
  go_enter Tryz.func63, Tryz.ntmps63
  go_wp2_with (first | ((with_reducible refine gate_callee (f := 64) rfl ?_); refine goesL_ (some 4) rfl rfl Tryz.func64 (by kernel_rfl) rfl #[.int .u16 a0] rfl (by (try simp only [List.map_toArray, List.map_cons, List.map_nil]); first | done | rfl | (simp only [List.length_drop, List.length_take]; rfl)) ?_; (with_reducible refine (periluneref01_Low.calls a0 t354 _ A2.out).mono ?_); rintro e w' ⟨rfl, ⟨nd, rfl⟩⟩; refine ⟨_, rfl, ?_⟩))
  go_ret
  exact ⟨by first | rfl | (simp; done) | (simp [*]; done), by repeat (first | exact Drawn0.refl _ | apply Drawn0.step)⟩
def periluneref01_Value.f (a0 : Int) : Option (Int) := (periluneref01_Low.f a0).bind fun t357 => (if t357 > 16383 then (some (wrap64 (t357 - 32767))) else (some t357))
set_option maxHeartbeats 8000000 in
set_option maxRecDepth 100000 in
theorem periluneref01_Value.calls (a0 : Int) (r : Int) (w : World) (h : periluneref01_Value.f a0 = some r) :
    Calls Tryz.prog 61 #[.int .u16 a0] w fun e w' => e = .returned (.int .i64 r) ∧ Drawn0 w w' := by
  have H : ((periluneref01_Low.f a0).bind fun t357 => (if t357 > 16383 then (some (wrap64 (t357 - 32767))) else (some t357))) = some r := h
  clear h
  replace H := Option.bind_eq_some_iff.mp H
  obtain ⟨t357, A20, H⟩ := H
  replace H : (if t357 > 16383 then (some (wrap64 (t357 - 32767))) else (some t357)) = some r := H
  have A2 := Aside0.mk A20
  clear A20
  by_cases c3 : t357 > 16383
  · rw [if_pos c3] at H
    have c3b0 : decide (16383 < t357) = true := decide_eq_true c3
    clear c3
    obtain rfl := Option.some.inj H
    go_enter Tryz.func61, Tryz.ntmps61
    go_wp2_with (first | ((with_reducible refine gate_callee (f := 64) rfl ?_); refine goesL_ (some 5) rfl rfl Tryz.func64 (by kernel_rfl) rfl #[.int .u16 a0] rfl (by (try simp only [List.map_toArray, List.map_cons, List.map_nil]); first | done | rfl | (simp only [List.length_drop, List.length_take]; rfl)) ?_; (with_reducible refine (periluneref01_Low.calls a0 t357 _ A2.out).mono ?_); rintro e w' ⟨rfl, ⟨nd, rfl⟩⟩; refine ⟨_, rfl, ?_⟩))
    go_ret
    exact ⟨by first | rfl | (simp; done) | (simp [*]; done), by repeat (first | exact Drawn0.refl _ | apply Drawn0.step)⟩
  · rw [if_neg c3] at H
    have c3b0 : decide (16383 < t357) = false := decide_eq_false c3
    clear c3
    obtain rfl := Option.some.inj H
    go_enter Tryz.func61, Tryz.ntmps61
    go_wp2_with (first | ((with_reducible refine gate_callee (f := 64) rfl ?_); refine goesL_ (some 5) rfl rfl Tryz.func64 (by kernel_rfl) rfl #[.int .u16 a0] rfl (by (try simp only [List.map_toArray, List.map_cons, List.map_nil]); first | done | rfl | (simp only [List.length_drop, List.length_take]; rfl)) ?_; (with_reducible refine (periluneref01_Low.calls a0 t357 _ A2.out).mono ?_); rintro e w' ⟨rfl, ⟨nd, rfl⟩⟩; refine ⟨_, rfl, ?_⟩))
    go_ret
    exact ⟨by first | rfl | (simp; done) | (simp [*]; done), by repeat (first | exact Drawn0.refl _ | apply Drawn0.step)⟩
def periluneref05_negative.f (a0 : Int) : Option (Bool) := (periluneref01_Low.f a0).bind fun t358 => (some (decide (t358 > 16383)))
set_option maxHeartbeats 8000000 in
set_option maxRecDepth 100000 in
theorem periluneref05_negative.calls (a0 : Int) (r : Bool) (w : World) (h : periluneref05_negative.f a0 = some r) :
    Calls Tryz.prog 62 #[.int .u16 a0] w fun e w' => e = .returned (.bool r) ∧ Drawn0 w w' := by
  have H : ((periluneref01_Low.f a0).bind fun t358 => (some (decide (t358 > 16383)))) = some r := h
  clear h
  replace H := Option.bind_eq_some_iff.mp H
  obtain ⟨t358, A20, H⟩ := H
  replace H : (some (decide (t358 > 16383))) = some r := H
  have A2 := Aside0.mk A20
  clear A20
  obtain rfl := Option.some.inj H
  go_enter Tryz.func62, Tryz.ntmps62
  go_wp2_with (first | ((with_reducible refine gate_callee (f := 64) rfl ?_); refine goesL_ (some 4) rfl rfl Tryz.func64 (by kernel_rfl) rfl #[.int .u16 a0] rfl (by (try simp only [List.map_toArray, List.map_cons, List.map_nil]); first | done | rfl | (simp only [List.length_drop, List.length_take]; rfl)) ?_; (with_reducible refine (periluneref01_Low.calls a0 t358 _ A2.out).mono ?_); rintro e w' ⟨rfl, ⟨nd, rfl⟩⟩; refine ⟨_, rfl, ?_⟩))
  go_ret
  exact ⟨by first | rfl | (simp; done) | (simp [*]; done), by repeat (first | exact Drawn0.refl _ | apply Drawn0.step)⟩
def periluneref05_Multiply.f (a0 : Int) (a1 : Int) : Option (Int × Int) := (periluneref01_Value.f a0).bind fun t359 => ((periluneref01_Value.f a1).bind fun t360 => ((periluneref05_negative.f a0).bind fun t361 => ((periluneref05_negative.f a1).bind fun t362 => (if (t361 != t362) = true then ((periluneref01_Neg.f (IntKind.u16.wrap (wrap64 (Int.tdiv (wrap64 ((mx t359 (wrap64 (-t359))) * (mx t360 (wrap64 (-t360))))) 16384)))).bind fun t363 => ((periluneref01_Neg.f (IntKind.u16.wrap (Int.tmod (wrap64 ((mx t359 (wrap64 (-t359))) * (mx t360 (wrap64 (-t360))))) 16384))).bind fun t364 => (some (t363, t364)))) else (some (IntKind.u16.wrap (wrap64 (Int.tdiv (wrap64 ((mx t359 (wrap64 (-t359))) * (mx t360 (wrap64 (-t360))))) 16384)), IntKind.u16.wrap (Int.tmod (wrap64 ((mx t359 (wrap64 (-t359))) * (mx t360 (wrap64 (-t360))))) 16384)))))))
set_option maxHeartbeats 8000000 in
set_option maxRecDepth 100000 in
theorem periluneref05_Multiply.calls (a0 : Int) (a1 : Int) (r1 : Int) (r2 : Int) (w : World) (h : periluneref05_Multiply.f a0 a1 = some (r1, r2)) :
    Calls Tryz.prog 25 #[.int .u16 a0, .int .u16 a1] w fun e w' => e = .returned (.tuple #[.int .u16 r1, .int .u16 r2]) ∧ Below w.heap.size w w' := by
  have HB := Aside0.mk (Below.refl w.heap.size w)
  have H : ((periluneref01_Value.f a0).bind fun t359 => ((periluneref01_Value.f a1).bind fun t360 => ((periluneref05_negative.f a0).bind fun t361 => ((periluneref05_negative.f a1).bind fun t362 => (if (t361 != t362) = true then ((periluneref01_Neg.f (IntKind.u16.wrap (wrap64 (Int.tdiv (wrap64 ((mx t359 (wrap64 (-t359))) * (mx t360 (wrap64 (-t360))))) 16384)))).bind fun t363 => ((periluneref01_Neg.f (IntKind.u16.wrap (Int.tmod (wrap64 ((mx t359 (wrap64 (-t359))) * (mx t360 (wrap64 (-t360))))) 16384))).bind fun t364 => (some (t363, t364)))) else (some (IntKind.u16.wrap (wrap64 (Int.tdiv (wrap64 ((mx t359 (wrap64 (-t359))) * (mx t360 (wrap64 (-t360))))) 16384)), IntKind.u16.wrap (Int.tmod (wrap64 ((mx t359 (wrap64 (-t359))) * (mx t360 (wrap64 (-t360))))) 16384)))))))) = some (r1, r2) := h
  clear h
  replace H := Option.bind_eq_some_iff.mp H
  obtain ⟨t359, A30, H⟩ := H
  replace H : ((periluneref01_Value.f a1).bind fun t360 => ((periluneref05_negative.f a0).bind fun t361 => ((periluneref05_negative.f a1).bind fun t362 => (if (t361 != t362) = true then ((periluneref01_Neg.f (IntKind.u16.wrap (wrap64 (Int.tdiv (wrap64 ((mx t359 (wrap64 (-t359))) * (mx t360 (wrap64 (-t360))))) 16384)))).bind fun t363 => ((periluneref01_Neg.f (IntKind.u16.wrap (Int.tmod (wrap64 ((mx t359 (wrap64 (-t359))) * (mx t360 (wrap64 (-t360))))) 16384))).bind fun t364 => (some (t363, t364)))) else (some (IntKind.u16.wrap (wrap64 (Int.tdiv (wrap64 ((mx t359 (wrap64 (-t359))) * (mx t360 (wrap64 (-t360))))) 16384)), IntKind.u16.wrap (Int.tmod (wrap64 ((mx t359 (wrap64 (-t359))) * (mx t360 (wrap64 (-t360))))) 16384))))))) = some (r1, r2) := H
  have A3 := Aside0.mk A30
  clear A30
  replace H := Option.bind_eq_some_iff.mp H
  obtain ⟨t360, A40, H⟩ := H
  replace H : ((periluneref05_negative.f a0).bind fun t361 => ((periluneref05_negative.f a1).bind fun t362 => (if (t361 != t362) = true then ((periluneref01_Neg.f (IntKind.u16.wrap (wrap64 (Int.tdiv (wrap64 ((mx t359 (wrap64 (-t359))) * (mx t360 (wrap64 (-t360))))) 16384)))).bind fun t363 => ((periluneref01_Neg.f (IntKind.u16.wrap (Int.tmod (wrap64 ((mx t359 (wrap64 (-t359))) * (mx t360 (wrap64 (-t360))))) 16384))).bind fun t364 => (some (t363, t364)))) else (some (IntKind.u16.wrap (wrap64 (Int.tdiv (wrap64 ((mx t359 (wrap64 (-t359))) * (mx t360 (wrap64 (-t360))))) 16384)), IntKind.u16.wrap (Int.tmod (wrap64 ((mx t359 (wrap64 (-t359))) * (mx t360 (wrap64 (-t360))))) 16384)))))) = some (r1, r2) := H
  have A4 := Aside0.mk A40
  clear A40
  obtain ⟨ji5, hji5⟩ : ∃ j_ : Int, (mx t359 (wrap64 (-t359))) = j_ := ⟨_, rfl⟩
  replace H : ((periluneref05_negative.f a0).bind fun t361 => ((periluneref05_negative.f a1).bind fun t362 => (if (t361 != t362) = true then ((periluneref01_Neg.f (IntKind.u16.wrap (wrap64 (Int.tdiv (wrap64 ((ji5) * (mx t360 (wrap64 (-t360))))) 16384)))).bind fun t363 => ((periluneref01_Neg.f (IntKind.u16.wrap (Int.tmod (wrap64 ((ji5) * (mx t360 (wrap64 (-t360))))) 16384))).bind fun t364 => (some (t363, t364)))) else (some (IntKind.u16.wrap (wrap64 (Int.tdiv (wrap64 ((ji5) * (mx t360 (wrap64 (-t360))))) 16384)), IntKind.u16.wrap (Int.tmod (wrap64 ((ji5) * (mx t360 (wrap64 (-t360))))) 16384)))))) = some (r1, r2) := by first | (rw [hji5] at H; exact H) | (simp only [hji5] at H ⊢; exact H)
  (try rw [hji5] at A3)
  (try rw [hji5] at A4)
  have hji5_ : (if t359 < (wrap64 (-t359)) then (wrap64 (-t359)) else t359) = ji5 := hji5
  obtain ⟨ji6, hji6⟩ : ∃ j_ : Int, (mx t360 (wrap64 (-t360))) = j_ := ⟨_, rfl⟩
  replace H : ((periluneref05_negative.f a0).bind fun t361 => ((periluneref05_negative.f a1).bind fun t362 => (if (t361 != t362) = true then ((periluneref01_Neg.f (IntKind.u16.wrap (wrap64 (Int.tdiv (wrap64 ((ji5) * (ji6))) 16384)))).bind fun t363 => ((periluneref01_Neg.f (IntKind.u16.wrap (Int.tmod (wrap64 ((ji5) * (ji6))) 16384))).bind fun t364 => (some (t363, t364)))) else (some (IntKind.u16.wrap (wrap64 (Int.tdiv (wrap64 ((ji5) * (ji6))) 16384)), IntKind.u16.wrap (Int.tmod (wrap64 ((ji5) * (ji6))) 16384)))))) = some (r1, r2) := by first | (rw [hji6] at H; exact H) | (simp only [hji6] at H ⊢; exact H)
  (try rw [hji6] at A3)
  (try rw [hji6] at A4)
  have hji6_ : (if t360 < (wrap64 (-t360)) then (wrap64 (-t360)) else t360) = ji6 := hji6
  replace H := Option.bind_eq_some_iff.mp H
  obtain ⟨t361, A70, H⟩ := H
  replace H : ((periluneref05_negative.f a1).bind fun t362 => (if (t361 != t362) = true then ((periluneref01_Neg.f (IntKind.u16.wrap (wrap64 (Int.tdiv (wrap64 ((ji5) * (ji6))) 16384)))).bind fun t363 => ((periluneref01_Neg.f (IntKind.u16.wrap (Int.tmod (wrap64 ((ji5) * (ji6))) 16384))).bind fun t364 => (some (t363, t364)))) else (some (IntKind.u16.wrap (wrap64 (Int.tdiv (wrap64 ((ji5) * (ji6))) 16384)), IntKind.u16.wrap (Int.tmod (wrap64 ((ji5) * (ji6))) 16384))))) = some (r1, r2) := H
  have A7 := Aside0.mk A70
  clear A70
  replace H := Option.bind_eq_some_iff.mp H
  obtain ⟨t362, A80, H⟩ := H
  replace H : (if (t361 != t362) = true then ((periluneref01_Neg.f (IntKind.u16.wrap (wrap64 (Int.tdiv (wrap64 ((ji5) * (ji6))) 16384)))).bind fun t363 => ((periluneref01_Neg.f (IntKind.u16.wrap (Int.tmod (wrap64 ((ji5) * (ji6))) 16384))).bind fun t364 => (some (t363, t364)))) else (some (IntKind.u16.wrap (wrap64 (Int.tdiv (wrap64 ((ji5) * (ji6))) 16384)), IntKind.u16.wrap (Int.tmod (wrap64 ((ji5) * (ji6))) 16384)))) = some (r1, r2) := H
  have A8 := Aside0.mk A80
  clear A80
  by_cases c9 : (t361 != t362) = true
  · rw [if_pos c9] at H
    have c9b0 : (t361 != t362) = true := c9
    (try (have c9b1 : decide (t361 = t362) = false := by simpa using c9))
    (try (have c9b2 : (t361 == t362) = false := by simpa using c9))
    (try (have c9b3 : ¬ (t361 = t362) := by simpa using c9))
    clear c9
    replace H := Option.bind_eq_some_iff.mp H
    obtain ⟨t363, A100, H⟩ := H
    replace H : ((periluneref01_Neg.f (IntKind.u16.wrap (Int.tmod (wrap64 ((ji5) * (ji6))) 16384))).bind fun t364 => (some (t363, t364))) = some (r1, r2) := H
    have A10 := Aside0.mk A100
    clear A100
    replace H := Option.bind_eq_some_iff.mp H
    obtain ⟨t364, A110, H⟩ := H
    replace H : (some (t363, t364)) = some (r1, r2) := H
    have A11 := Aside0.mk A110
    clear A110
    simp only [Option.some.injEq, Prod.mk.injEq] at H
    obtain ⟨rfl, rfl⟩ := H
    go_enter Tryz.func25, Tryz.ntmps25
    go_wp2_with (first | ((with_reducible refine gate_callee (f := 61) rfl ?_); refine goesL_ (some 12) rfl rfl Tryz.func61 (by kernel_rfl) rfl #[.int .u16 a0] rfl (by (try simp only [List.map_toArray, List.map_cons, List.map_nil]); first | done | rfl | (simp only [List.length_drop, List.length_take]; rfl)) ?_; (with_reducible refine (periluneref01_Value.calls a0 t359 _ A3.out).mono ?_); rintro e w' ⟨rfl, ⟨nd, rfl⟩⟩; refine ⟨_, rfl, ?_⟩) | ((with_reducible refine gate_callee (f := 61) rfl ?_); refine goesL_ (some 14) rfl rfl Tryz.func61 (by kernel_rfl) rfl #[.int .u16 a1] rfl (by (try simp only [List.map_toArray, List.map_cons, List.map_nil]); first | done | rfl | (simp only [List.length_drop, List.length_take]; rfl)) ?_; (with_reducible refine (periluneref01_Value.calls a1 t360 _ A4.out).mono ?_); rintro e w' ⟨rfl, ⟨nd, rfl⟩⟩; refine ⟨_, rfl, ?_⟩) | ((with_reducible refine gate_callee (f := 62) rfl ?_); refine goesL_ (some 31) rfl rfl Tryz.func62 (by kernel_rfl) rfl #[.int .u16 a0] rfl (by (try simp only [List.map_toArray, List.map_cons, List.map_nil]); first | done | rfl | (simp only [List.length_drop, List.length_take]; rfl)) ?_; (with_reducible refine (periluneref05_negative.calls a0 t361 _ A7.out).mono ?_); rintro e w' ⟨rfl, ⟨nd, rfl⟩⟩; refine ⟨_, rfl, ?_⟩) | ((with_reducible refine gate_callee (f := 62) rfl ?_); refine goesL_ (some 33) rfl rfl Tryz.func62 (by kernel_rfl) rfl #[.int .u16 a1] rfl (by (try simp only [List.map_toArray, List.map_cons, List.map_nil]); first | done | rfl | (simp only [List.length_drop, List.length_take]; rfl)) ?_; (with_reducible refine (periluneref05_negative.calls a1 t362 _ A8.out).mono ?_); rintro e w' ⟨rfl, ⟨nd, rfl⟩⟩; refine ⟨_, rfl, ?_⟩) | ((with_reducible refine gate_callee (f := 63) rfl ?_); refine goesL_ (some 36) rfl rfl Tryz.func63 (by kernel_rfl) rfl #[.int .u16 (IntKind.u16.wrap (wrap64 (Int.tdiv (wrap64 ((ji5) * (ji6))) 16384)))] rfl (by (try simp only [List.map_toArray, List.map_cons, List.map_nil]); first | done | (simp only [hji5, hji6]; rfl) | rfl | (simp only [List.length_drop, List.length_take]; rfl)) ?_; (with_reducible refine (periluneref01_Neg.calls (IntKind.u16.wrap (wrap64 (Int.tdiv (wrap64 ((ji5) * (ji6))) 16384))) t363 _ A10.out).mono ?_); rintro e w' ⟨rfl, ⟨nd, rfl⟩⟩; refine ⟨_, rfl, ?_⟩) | ((with_reducible refine gate_callee (f := 63) rfl ?_); refine goesL_ (some 38) rfl rfl Tryz.func63 (by kernel_rfl) rfl #[.int .u16 (IntKind.u16.wrap (Int.tmod (wrap64 ((ji5) * (ji6))) 16384))] rfl (by (try simp only [List.map_toArray, List.map_cons, List.map_nil]); first | done | (simp only [hji5, hji6]; rfl) | rfl | (simp only [List.length_drop, List.length_take]; rfl)) ?_; (with_reducible refine (periluneref01_Neg.calls (IntKind.u16.wrap (Int.tmod (wrap64 ((ji5) * (ji6))) 16384)) t364 _ A11.out).mono ?_); rintro e w' ⟨rfl, ⟨nd, rfl⟩⟩; refine ⟨_, rfl, ?_⟩))
    go_ret2
    exact ⟨by first | rfl | (simp [errW_none, errW_some] <;> rfl) | (simp only [← hji5, ← hji6]; first | rfl | (simp [errW_none, errW_some] <;> rfl)) | (simp [*, errW_none, errW_some] <;> rfl), by repeat (first | (with_reducible first | exact HB.out | apply below_alloc | apply pw_below_drewN | apply below_drew1) | exact HB.out)⟩
  · rw [if_neg c9] at H
    have c9b0 : (t361 != t362) = false := by simpa using c9
    (try (have c9b1 : decide (t361 = t362) = true := by simpa using c9))
    (try (have c9b2 : (t361 == t362) = true := by simpa using c9))
    clear c9
    simp only [Option.some.injEq, Prod.mk.injEq] at H
    obtain ⟨rfl, rfl⟩ := H
    go_enter Tryz.func25, Tryz.ntmps25
    go_wp2_with (first | ((with_reducible refine gate_callee (f := 61) rfl ?_); refine goesL_ (some 12) rfl rfl Tryz.func61 (by kernel_rfl) rfl #[.int .u16 a0] rfl (by (try simp only [List.map_toArray, List.map_cons, List.map_nil]); first | done | rfl | (simp only [List.length_drop, List.length_take]; rfl)) ?_; (with_reducible refine (periluneref01_Value.calls a0 t359 _ A3.out).mono ?_); rintro e w' ⟨rfl, ⟨nd, rfl⟩⟩; refine ⟨_, rfl, ?_⟩) | ((with_reducible refine gate_callee (f := 61) rfl ?_); refine goesL_ (some 14) rfl rfl Tryz.func61 (by kernel_rfl) rfl #[.int .u16 a1] rfl (by (try simp only [List.map_toArray, List.map_cons, List.map_nil]); first | done | rfl | (simp only [List.length_drop, List.length_take]; rfl)) ?_; (with_reducible refine (periluneref01_Value.calls a1 t360 _ A4.out).mono ?_); rintro e w' ⟨rfl, ⟨nd, rfl⟩⟩; refine ⟨_, rfl, ?_⟩) | ((with_reducible refine gate_callee (f := 62) rfl ?_); refine goesL_ (some 31) rfl rfl Tryz.func62 (by kernel_rfl) rfl #[.int .u16 a0] rfl (by (try simp only [List.map_toArray, List.map_cons, List.map_nil]); first | done | rfl | (simp only [List.length_drop, List.length_take]; rfl)) ?_; (with_reducible refine (periluneref05_negative.calls a0 t361 _ A7.out).mono ?_); rintro e w' ⟨rfl, ⟨nd, rfl⟩⟩; refine ⟨_, rfl, ?_⟩) | ((with_reducible refine gate_callee (f := 62) rfl ?_); refine goesL_ (some 33) rfl rfl Tryz.func62 (by kernel_rfl) rfl #[.int .u16 a1] rfl (by (try simp only [List.map_toArray, List.map_cons, List.map_nil]); first | done | rfl | (simp only [List.length_drop, List.length_take]; rfl)) ?_; (with_reducible refine (periluneref05_negative.calls a1 t362 _ A8.out).mono ?_); rintro e w' ⟨rfl, ⟨nd, rfl⟩⟩; refine ⟨_, rfl, ?_⟩))
    go_ret2
    exact ⟨by first | rfl | (simp [errW_none, errW_some] <;> rfl) | (simp only [← hji5, ← hji6]; first | rfl | (simp [errW_none, errW_some] <;> rfl)) | (simp [*, errW_none, errW_some] <;> rfl), by repeat (first | (with_reducible first | exact HB.out | apply below_alloc | apply pw_below_drewN | apply below_drew1) | exact HB.out)⟩
end Go.Proofs.YthfobpkdloejfaaGreat.PAll
end
section
namespace Go.Proofs.YthfobpkdloejfaaGreat.PAll
open Go.RowKit Go.Proofs.YthfobpkdloejfaaGreatW.PrintWords Go.Proofs.YthfobpkdloejfaaGreatW.PrintLast Go.Proofs.YthfobpkdloejfaaGreatW.PrintMore
set_option linter.unusedVariables false
set_option linter.unusedSimpArgs false
def onescomp_CycleRight.f (a0 : Int) : Option (Int) := some (Go.bits .or .u16 ((Go.bits .and .u16 a0 32767) / 2) (IntKind.u16.wrap ((Go.bits .and .u16 (Go.bits .and .u16 a0 32767) 1) * 16384)))
set_option maxHeartbeats 8000000 in
set_option maxRecDepth 100000 in
theorem onescomp_CycleRight.calls (a0 : Int) (r : Int) (w : World) (h : onescomp_CycleRight.f a0 = some r) :
    Calls Tryz.prog 187 #[.int .u16 a0] w fun e w' => e = .returned (.int .u16 r) ∧ Drawn0 w w' := by
  have H : (some (Go.bits .or .u16 ((Go.bits .and .u16 a0 32767) / 2) (IntKind.u16.wrap ((Go.bits .and .u16 (Go.bits .and .u16 a0 32767) 1) * 16384)))) = some r := h
  clear h
  obtain rfl := Option.some.inj H
  go_enter Tryz.func187, Tryz.ntmps187
  go_wp2
  go_ret
  exact ⟨by first | rfl | (simp; done) | (simp [*]; done), by repeat (first | exact Drawn0.refl _ | apply Drawn0.step)⟩
def onescomp_CycleLeft.f (a0 : Int) : Option (Int) := some (Go.bits .or .u16 (Go.bits .and .u16 (IntKind.u16.wrap ((Go.bits .and .u16 a0 32767) * 2)) 32767) ((Go.bits .and .u16 a0 32767) / 16384))
set_option maxHeartbeats 8000000 in
set_option maxRecDepth 100000 in
theorem onescomp_CycleLeft.calls (a0 : Int) (r : Int) (w : World) (h : onescomp_CycleLeft.f a0 = some r) :
    Calls Tryz.prog 189 #[.int .u16 a0] w fun e w' => e = .returned (.int .u16 r) ∧ Drawn0 w w' := by
  have H : (some (Go.bits .or .u16 (Go.bits .and .u16 (IntKind.u16.wrap ((Go.bits .and .u16 a0 32767) * 2)) 32767) ((Go.bits .and .u16 a0 32767) / 16384))) = some r := h
  clear h
  obtain rfl := Option.some.inj H
  go_enter Tryz.func189, Tryz.ntmps189
  go_wp2
  go_ret
  exact ⟨by first | rfl | (simp; done) | (simp [*]; done), by repeat (first | exact Drawn0.refl _ | apply Drawn0.step)⟩
def onescomp_ShiftRight.f (a0 : Int) : Option (Int) := some (Go.bits .or .u16 ((Go.bits .and .u16 a0 32767) / 2) (Go.bits .and .u16 (Go.bits .and .u16 a0 32767) 16384))
set_option maxHeartbeats 8000000 in
set_option maxRecDepth 100000 in
theorem onescomp_ShiftRight.calls (a0 : Int) (r : Int) (w : World) (h : onescomp_ShiftRight.f a0 = some r) :
    Calls Tryz.prog 188 #[.int .u16 a0] w fun e w' => e = .returned (.int .u16 r) ∧ Drawn0 w w' := by
  have H : (some (Go.bits .or .u16 ((Go.bits .and .u16 a0 32767) / 2) (Go.bits .and .u16 (Go.bits .and .u16 a0 32767) 16384))) = some r := h
  clear h
  obtain rfl := Option.some.inj H
  go_enter Tryz.func188, Tryz.ntmps188
  go_wp2
  go_ret
  exact ⟨by first | rfl | (simp; done) | (simp [*]; done), by repeat (first | exact Drawn0.refl _ | apply Drawn0.step)⟩
def onescomp_Opcode.f (a0 : Int) : Option (Int) := some (Go.bits .and .u16 ((Go.bits .and .u16 a0 32767) / 128) 127)
set_option maxHeartbeats 8000000 in
set_option maxRecDepth 100000 in
theorem onescomp_Opcode.calls (a0 : Int) (r : Int) (w : World) (h : onescomp_Opcode.f a0 = some r) :
    Calls Tryz.prog 190 #[.int .u16 a0] w fun e w' => e = .returned (.int .u16 r) ∧ Drawn0 w w' := by
  have H : (some (Go.bits .and .u16 ((Go.bits .and .u16 a0 32767) / 128) 127)) = some r := h
  clear h
  obtain rfl := Option.some.inj H
  go_enter Tryz.func190, Tryz.ntmps190
  go_wp2
  go_ret
  exact ⟨by first | rfl | (simp; done) | (simp [*]; done), by repeat (first | exact Drawn0.refl _ | apply Drawn0.step)⟩
def onescomp_TwosDiff.f (a0 : Int) (a1 : Int) : Option (Int) := if (Go.bits .and .u16 (IntKind.u16.wrap (a0 - a1)) 32767) ≤ 16384 then (some (Go.bits .and .u16 (IntKind.u16.wrap (a0 - a1)) 32767)) else (some (IntKind.u16.wrap ((Go.bits .and .u16 (IntKind.u16.wrap (a0 - a1)) 32767) - 1)))
set_option maxHeartbeats 8000000 in
set_option maxRecDepth 100000 in
theorem onescomp_TwosDiff.calls (a0 : Int) (a1 : Int) (r : Int) (w : World) (h : onescomp_TwosDiff.f a0 a1 = some r) :
    Calls Tryz.prog 113 #[.int .u16 a0, .int .u16 a1] w fun e w' => e = .returned (.int .u16 r) ∧ Drawn0 w w' := by
  have H : (if (Go.bits .and .u16 (IntKind.u16.wrap (a0 - a1)) 32767) ≤ 16384 then (some (Go.bits .and .u16 (IntKind.u16.wrap (a0 - a1)) 32767)) else (some (IntKind.u16.wrap ((Go.bits .and .u16 (IntKind.u16.wrap (a0 - a1)) 32767) - 1)))) = some r := h
  clear h
  by_cases c3 : (Go.bits .and .u16 (IntKind.u16.wrap (a0 - a1)) 32767) ≤ 16384
  · rw [if_pos c3] at H
    have c3b0 : decide ((Go.bits .and .u16 (IntKind.u16.wrap (a0 - a1)) 32767) ≤ 16384) = true := decide_eq_true c3
    clear c3
    obtain rfl := Option.some.inj H
    go_enter Tryz.func113, Tryz.ntmps113
    go_wp2
    go_ret
    exact ⟨by first | rfl | (simp; done) | (simp [*]; done), by repeat (first | exact Drawn0.refl _ | apply Drawn0.step)⟩
  · rw [if_neg c3] at H
    have c3b0 : decide ((Go.bits .and .u16 (IntKind.u16.wrap (a0 - a1)) 32767) ≤ 16384) = false := decide_eq_false c3
    clear c3
    obtain rfl := Option.some.inj H
    go_enter Tryz.func113, Tryz.ntmps113
    go_wp2
    go_ret
    exact ⟨by first | rfl | (simp; done) | (simp [*]; done), by repeat (first | exact Drawn0.refl _ | apply Drawn0.step)⟩
end Go.Proofs.YthfobpkdloejfaaGreat.PAll
end
