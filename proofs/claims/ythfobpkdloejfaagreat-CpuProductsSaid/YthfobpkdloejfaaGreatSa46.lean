/- Chapter 5: a part of its proof (cut by program out of FP); no condition. -/
import Derived.Test.YthfobpkdloejfaaGreatSa44
section
namespace Go.Proofs.YthfobpkdloejfaaGreat.PAll
open Go.RowKit Go.Proofs.YthfobpkdloejfaaGreatW.PrintWords Go.Proofs.YthfobpkdloejfaaGreatW.PrintLast Go.Proofs.YthfobpkdloejfaaGreatW.PrintMore
attribute [local go_sem] max2_int min2_int max_two max_three min_three
set_option linter.unusedVariables false
set_option linter.unusedSimpArgs false
mutual
def perilunelaw05_CpuProducts.j0 : Nat → Int → Int → Int → Int → Int → Int → Int → Int → Int → Bool → Option (Bool)
  | 0, _, _, _, _, _, _, _, _, _, _ => none
  | k + 1, x0, x1, x2, x7, x8, x9, x10, x11, x12, x53 => if x53 = true then (some false) else ((cpu_Divide.f k x0 x1 x2).bind fun bt545 => (if (mx x11 (wrap64 (-x11))) < (wrap64 (16384 * (mx x12 (wrap64 (-x12))))) then ((onescomp_Value.f bt545.2).bind fun t547 => (if t547 > 16383 then (some false) else (if t547 < (-16383) then (some false) else ((onescomp_Value.f bt545.1).bind fun t548 => (if (wrap64 ((wrap64 (t548 * x12)) + t547)) = x11 then (if (mx t547 (wrap64 (-t547))) ≥ (mx x12 (wrap64 (-x12))) then (some false) else (perilunelaw05_CpuProducts.j1 k x1 x7 x8 x9 x10)) else (some false)))))) else (if bt545.2 = (Int.tmod x1 32768) then ((onescomp_Value.f bt545.1).bind fun t549 => (if t549 = 16383 then (perilunelaw05_CpuProducts.j1 k x1 x7 x8 x9 x10) else ((onescomp_Value.f bt545.1).bind fun t550 => (if t550 = (-16383) then (perilunelaw05_CpuProducts.j1 k x1 x7 x8 x9 x10) else (some false))))) else (some false))))
def perilunelaw05_CpuProducts.j1 : Nat → Int → Int → Int → Int → Int → Option (Bool)
  | 0, _, _, _, _, _ => none
  | k + 1, x1, x7, x8, x9, x10 => if x8 = 0 then (perilunelaw05_CpuProducts.j2 k x1 x7 x9 x10 true) else (perilunelaw05_CpuProducts.j2 k x1 x7 x9 x10 (x7 == 0))
def perilunelaw05_CpuProducts.j2 : Nat → Int → Int → Int → Int → Bool → Option (Bool)
  | 0, _, _, _, _, _ => none
  | k + 1, x1, x7, x9, x10, x119 => if x119 = true then ((perilunelaw05_works.f).bind fun t551 => (some t551)) else ((cpu_Divide.f k x9 x10 x1).bind fun bt552 => ((onescomp_Value.f bt552.1).bind fun t554 => (if t554 = x7 then ((onescomp_Value.f bt552.2).bind fun t555 => (if t555 = 0 then ((perilunelaw05_works.f).bind fun t556 => (some t556)) else (some false))) else (some false))))
end
def perilunelaw05_CpuProducts.f (k : Nat) (a0 : Int) (a1 : Int) (a2 : Int) : Option (Bool) := (onescomp_Value.f a0).bind fun t538 => ((onescomp_Value.f a1).bind fun t539 => ((cpu_Multiply.f a0 a1).bind fun bt540 => ((onescomp_Value.f bt540.1).bind fun t542 => ((onescomp_Value.f bt540.2).bind fun t543 => (if (wrap64 ((wrap64 (16384 * t542)) + t543)) = (wrap64 (t538 * t539)) then ((onescomp_Value.f a2).bind fun t544 => (if (mx (mx t538 t539) t544) > 16383 then (perilunelaw05_CpuProducts.j0 k a0 a1 a2 t538 t539 bt540.1 bt540.2 (wrap64 ((wrap64 (16384 * t538)) + t539)) t544 true) else (perilunelaw05_CpuProducts.j0 k a0 a1 a2 t538 t539 bt540.1 bt540.2 (wrap64 ((wrap64 (16384 * t538)) + t539)) t544 (decide ((mn (mn t538 t539) t544) < (-16383)))))) else (some false))))))
set_option maxHeartbeats 8000000 in
set_option maxRecDepth 100000 in
theorem perilunelaw05_CpuProducts.calls (k : Nat) (a0 : Int) (a1 : Int) (a2 : Int) (r : Bool) (w : World) (h : perilunelaw05_CpuProducts.f k a0 a1 a2 = some r) :
    Calls Tryz.prog 7 #[.int .u16 a0, .int .u16 a1, .int .u16 a2] w fun e w' => e = .returned (.bool r) ∧ Below w.heap.size w w' := by
  have HB := Aside0.mk (Below.refl w.heap.size w)
  have H : ((onescomp_Value.f a0).bind fun t538 => ((onescomp_Value.f a1).bind fun t539 => ((cpu_Multiply.f a0 a1).bind fun bt540 => ((onescomp_Value.f bt540.1).bind fun t542 => ((onescomp_Value.f bt540.2).bind fun t543 => (if (wrap64 ((wrap64 (16384 * t542)) + t543)) = (wrap64 (t538 * t539)) then ((onescomp_Value.f a2).bind fun t544 => (if (mx (mx t538 t539) t544) > 16383 then (perilunelaw05_CpuProducts.j0 k a0 a1 a2 t538 t539 bt540.1 bt540.2 (wrap64 ((wrap64 (16384 * t538)) + t539)) t544 true) else (perilunelaw05_CpuProducts.j0 k a0 a1 a2 t538 t539 bt540.1 bt540.2 (wrap64 ((wrap64 (16384 * t538)) + t539)) t544 (decide ((mn (mn t538 t539) t544) < (-16383)))))) else (some false))))))) = some r := h
  clear h
  replace H := Option.bind_eq_some_iff.mp H
  obtain ⟨t538, A40, H⟩ := H
  replace H : ((onescomp_Value.f a1).bind fun t539 => ((cpu_Multiply.f a0 a1).bind fun bt540 => ((onescomp_Value.f bt540.1).bind fun t542 => ((onescomp_Value.f bt540.2).bind fun t543 => (if (wrap64 ((wrap64 (16384 * t542)) + t543)) = (wrap64 (t538 * t539)) then ((onescomp_Value.f a2).bind fun t544 => (if (mx (mx t538 t539) t544) > 16383 then (perilunelaw05_CpuProducts.j0 k a0 a1 a2 t538 t539 bt540.1 bt540.2 (wrap64 ((wrap64 (16384 * t538)) + t539)) t544 true) else (perilunelaw05_CpuProducts.j0 k a0 a1 a2 t538 t539 bt540.1 bt540.2 (wrap64 ((wrap64 (16384 * t538)) + t539)) t544 (decide ((mn (mn t538 t539) t544) < (-16383)))))) else (some false)))))) = some r := H
  have A4 := Aside0.mk A40
  clear A40
  replace H := Option.bind_eq_some_iff.mp H
  obtain ⟨t539, A50, H⟩ := H
  replace H : ((cpu_Multiply.f a0 a1).bind fun bt540 => ((onescomp_Value.f bt540.1).bind fun t542 => ((onescomp_Value.f bt540.2).bind fun t543 => (if (wrap64 ((wrap64 (16384 * t542)) + t543)) = (wrap64 (t538 * t539)) then ((onescomp_Value.f a2).bind fun t544 => (if (mx (mx t538 t539) t544) > 16383 then (perilunelaw05_CpuProducts.j0 k a0 a1 a2 t538 t539 bt540.1 bt540.2 (wrap64 ((wrap64 (16384 * t538)) + t539)) t544 true) else (perilunelaw05_CpuProducts.j0 k a0 a1 a2 t538 t539 bt540.1 bt540.2 (wrap64 ((wrap64 (16384 * t538)) + t539)) t544 (decide ((mn (mn t538 t539) t544) < (-16383)))))) else (some false))))) = some r := H
  have A5 := Aside0.mk A50
  clear A50
  replace H := Option.bind_eq_some_iff.mp H
  obtain ⟨⟨t540, t541⟩, A60, H⟩ := H
  replace H : ((onescomp_Value.f t540).bind fun t542 => ((onescomp_Value.f t541).bind fun t543 => (if (wrap64 ((wrap64 (16384 * t542)) + t543)) = (wrap64 (t538 * t539)) then ((onescomp_Value.f a2).bind fun t544 => (if (mx (mx t538 t539) t544) > 16383 then (perilunelaw05_CpuProducts.j0 k a0 a1 a2 t538 t539 t540 t541 (wrap64 ((wrap64 (16384 * t538)) + t539)) t544 true) else (perilunelaw05_CpuProducts.j0 k a0 a1 a2 t538 t539 t540 t541 (wrap64 ((wrap64 (16384 * t538)) + t539)) t544 (decide ((mn (mn t538 t539) t544) < (-16383)))))) else (some false)))) = some r := H
  have A6 := Aside0.mk A60
  clear A60
  replace H := Option.bind_eq_some_iff.mp H
  obtain ⟨t542, A70, H⟩ := H
  replace H : ((onescomp_Value.f t541).bind fun t543 => (if (wrap64 ((wrap64 (16384 * t542)) + t543)) = (wrap64 (t538 * t539)) then ((onescomp_Value.f a2).bind fun t544 => (if (mx (mx t538 t539) t544) > 16383 then (perilunelaw05_CpuProducts.j0 k a0 a1 a2 t538 t539 t540 t541 (wrap64 ((wrap64 (16384 * t538)) + t539)) t544 true) else (perilunelaw05_CpuProducts.j0 k a0 a1 a2 t538 t539 t540 t541 (wrap64 ((wrap64 (16384 * t538)) + t539)) t544 (decide ((mn (mn t538 t539) t544) < (-16383)))))) else (some false))) = some r := H
  have A7 := Aside0.mk A70
  clear A70
  replace H := Option.bind_eq_some_iff.mp H
  obtain ⟨t543, A80, H⟩ := H
  replace H : (if (wrap64 ((wrap64 (16384 * t542)) + t543)) = (wrap64 (t538 * t539)) then ((onescomp_Value.f a2).bind fun t544 => (if (mx (mx t538 t539) t544) > 16383 then (perilunelaw05_CpuProducts.j0 k a0 a1 a2 t538 t539 t540 t541 (wrap64 ((wrap64 (16384 * t538)) + t539)) t544 true) else (perilunelaw05_CpuProducts.j0 k a0 a1 a2 t538 t539 t540 t541 (wrap64 ((wrap64 (16384 * t538)) + t539)) t544 (decide ((mn (mn t538 t539) t544) < (-16383)))))) else (some false)) = some r := H
  have A8 := Aside0.mk A80
  clear A80
  by_cases c9 : (wrap64 ((wrap64 (16384 * t542)) + t543)) = (wrap64 (t538 * t539))
  · rw [if_pos c9] at H
    have c9b0 : ((wrap64 ((wrap64 (16384 * t542)) + t543)) == (wrap64 (t538 * t539))) = true := beq_iff_eq.mpr c9
    have c9b1 : ((wrap64 ((wrap64 (16384 * t542)) + t543)) != (wrap64 (t538 * t539))) = false := bne_eq_false_iff_eq.mpr c9
    clear c9
    replace H := Option.bind_eq_some_iff.mp H
    obtain ⟨t544, A100, H⟩ := H
    replace H : (if (mx (mx t538 t539) t544) > 16383 then (perilunelaw05_CpuProducts.j0 k a0 a1 a2 t538 t539 t540 t541 (wrap64 ((wrap64 (16384 * t538)) + t539)) t544 true) else (perilunelaw05_CpuProducts.j0 k a0 a1 a2 t538 t539 t540 t541 (wrap64 ((wrap64 (16384 * t538)) + t539)) t544 (decide ((mn (mn t538 t539) t544) < (-16383))))) = some r := H
    have A10 := Aside0.mk A100
    clear A100
    have HC11 := Aside0.mk H
    clear H
    go_enter Tryz.func7, Tryz.ntmps7
    go_upto_region 6 with (first | ((with_reducible refine gate_callee (f := 29) rfl ?_); refine goesL_ (some 17) rfl rfl Tryz.func29 (by kernel_rfl) rfl #[.int .u16 a0] rfl (by (try simp only [List.map_toArray, List.map_cons, List.map_nil]); first | done | rfl | (simp only [List.length_drop, List.length_take]; rfl)) ?_; (with_reducible refine (onescomp_Value.calls a0 t538 _ A4.out).mono ?_); rintro e w' ⟨rfl, ⟨nd, rfl⟩⟩; refine ⟨_, rfl, ?_⟩) | ((with_reducible refine gate_callee (f := 29) rfl ?_); refine goesL_ (some 19) rfl rfl Tryz.func29 (by kernel_rfl) rfl #[.int .u16 a1] rfl (by (try simp only [List.map_toArray, List.map_cons, List.map_nil]); first | done | rfl | (simp only [List.length_drop, List.length_take]; rfl)) ?_; (with_reducible refine (onescomp_Value.calls a1 t539 _ A5.out).mono ?_); rintro e w' ⟨rfl, ⟨nd, rfl⟩⟩; refine ⟨_, rfl, ?_⟩) | ((with_reducible refine gate_callee (f := 24) rfl ?_); refine goesL_ (some 23) rfl rfl Tryz.func24 (by kernel_rfl) rfl #[.int .u16 a0, .int .u16 a1] rfl (by (try simp only [List.map_toArray, List.map_cons, List.map_nil]); first | done | rfl | (simp only [List.length_drop, List.length_take]; rfl)) ?_; (with_reducible refine (cpu_Multiply.calls a0 a1 t540 t541 _ A6.out).mono ?_); rintro e w12 ⟨rfl, hb⟩; refine ⟨_, rfl, ?_⟩; have n0_ := Aside0.mk (below_step (by repeat (first | (with_reducible first | exact HB.out | apply below_alloc | apply pw_below_drewN | apply below_drew1) | exact HB.out)) hb); clear HB; have HB := n0_; clear n0_; (try clear hb); (try clear hb2); (try clear hk); (try clear hi)) | ((with_reducible refine gate_callee (f := 29) rfl ?_); refine goesL_ (some 27) rfl rfl Tryz.func29 (by kernel_rfl) rfl #[.int .u16 t540] rfl (by (try simp only [List.map_toArray, List.map_cons, List.map_nil]); first | done | rfl | (simp only [List.length_drop, List.length_take]; rfl)) ?_; (with_reducible refine (onescomp_Value.calls t540 t542 _ A7.out).mono ?_); rintro e w' ⟨rfl, ⟨nd, rfl⟩⟩; refine ⟨_, rfl, ?_⟩) | ((with_reducible refine gate_callee (f := 29) rfl ?_); refine goesL_ (some 30) rfl rfl Tryz.func29 (by kernel_rfl) rfl #[.int .u16 t541] rfl (by (try simp only [List.map_toArray, List.map_cons, List.map_nil]); first | done | rfl | (simp only [List.length_drop, List.length_take]; rfl)) ?_; (with_reducible refine (onescomp_Value.calls t541 t543 _ A8.out).mono ?_); rintro e w' ⟨rfl, ⟨nd, rfl⟩⟩; refine ⟨_, rfl, ?_⟩) | ((with_reducible refine gate_callee (f := 29) rfl ?_); refine goesL_ (some 41) rfl rfl Tryz.func29 (by kernel_rfl) rfl #[.int .u16 a2] rfl (by (try simp only [List.map_toArray, List.map_cons, List.map_nil]); first | done | rfl | (simp only [List.length_drop, List.length_take]; rfl)) ?_; (with_reducible refine (onescomp_Value.calls a2 t544 _ A10.out).mono ?_); rintro e w' ⟨rfl, ⟨nd, rfl⟩⟩; refine ⟨_, rfl, ?_⟩))
    (try simp only [Act.put, List.setIfInBounds_toArray, List.set_cons_zero, List.set_cons_succ])
    go_cut [53] (fun v53 wc => ∃ (kq : Nat) (x53_10 : Bool), v53 = .bool x53_10 ∧ Aside0 (perilunelaw05_CpuProducts.j0 kq a0 a1 a2 t538 t539 t540 t541 (wrap64 ((wrap64 (16384 * t538)) + t539)) t544 x53_10 = some r) ∧ Aside0 (kq ≤ k) ∧ Aside0 (Below w.heap.size w wc))
    case first =>
      have H := HC11.out
      clear HC11
      obtain ⟨ji13, hji13⟩ : ∃ j_ : Int, (mx t538 t539) = j_ := ⟨_, rfl⟩
      replace H : (if (mx (ji13) t544) > 16383 then (perilunelaw05_CpuProducts.j0 k a0 a1 a2 t538 t539 t540 t541 (wrap64 ((wrap64 (16384 * t538)) + t539)) t544 true) else (perilunelaw05_CpuProducts.j0 k a0 a1 a2 t538 t539 t540 t541 (wrap64 ((wrap64 (16384 * t538)) + t539)) t544 (decide ((mn (mn t538 t539) t544) < (-16383))))) = some r := by first | (rw [hji13] at H; exact H) | (simp only [hji13] at H ⊢; exact H)
      have hji13_ : (if t538 < t539 then t539 else t538) = ji13 := hji13
      obtain ⟨ji14, hji14⟩ : ∃ j_ : Int, (mx (ji13) t544) = j_ := ⟨_, rfl⟩
      replace H : (if (ji14) > 16383 then (perilunelaw05_CpuProducts.j0 k a0 a1 a2 t538 t539 t540 t541 (wrap64 ((wrap64 (16384 * t538)) + t539)) t544 true) else (perilunelaw05_CpuProducts.j0 k a0 a1 a2 t538 t539 t540 t541 (wrap64 ((wrap64 (16384 * t538)) + t539)) t544 (decide ((mn (mn t538 t539) t544) < (-16383))))) = some r := by first | (rw [hji14] at H; exact H) | (simp only [hji14] at H ⊢; exact H)
      have hji14_ : (if (ji13) < t544 then t544 else (ji13)) = ji14 := hji14
      by_cases c15 : (ji14) > 16383
      · rw [if_pos c15] at H
        have c15b0 : decide (16383 < (ji14)) = true := decide_eq_true c15
        clear c15
        (first | rw [c15b0] | (simp only [i64_w, i32_w]; rw [c15b0]) | skip)
        have H' := Aside0.mk H
        clear H
        go_wp2
        go_meet
        case rel => exact ⟨_, (true), (by first | rfl | (simp; done) | (simp [*]; done)), H', ⟨by first | omega | exact Nat.le_refl _⟩, ⟨by repeat (first | (with_reducible first | exact HB.out | apply below_alloc | apply pw_below_drewN | apply below_drew1) | exact HB.out)⟩⟩
      · rw [if_neg c15] at H
        have c15b0 : decide (16383 < (ji14)) = false := decide_eq_false c15
        clear c15
        (first | rw [c15b0] | (simp only [i64_w, i32_w]; rw [c15b0]) | skip)
        obtain ⟨ji16, hji16⟩ : ∃ j_ : Int, (mn t538 t539) = j_ := ⟨_, rfl⟩
        replace H : (perilunelaw05_CpuProducts.j0 k a0 a1 a2 t538 t539 t540 t541 (wrap64 ((wrap64 (16384 * t538)) + t539)) t544 (decide ((mn (ji16) t544) < (-16383)))) = some r := by first | (rw [hji16] at H; exact H) | (simp only [hji16] at H ⊢; exact H)
        have hji16_ : (if t539 < t538 then t539 else t538) = ji16 := hji16
        obtain ⟨ji17, hji17⟩ : ∃ j_ : Int, (mn (ji16) t544) = j_ := ⟨_, rfl⟩
        replace H : (perilunelaw05_CpuProducts.j0 k a0 a1 a2 t538 t539 t540 t541 (wrap64 ((wrap64 (16384 * t538)) + t539)) t544 (decide ((ji17) < (-16383)))) = some r := by first | (rw [hji17] at H; exact H) | (simp only [hji17] at H ⊢; exact H)
        have hji17_ : (if t544 < (ji16) then t544 else (ji16)) = ji17 := hji17
        have H' := Aside0.mk H
        clear H
        go_wp2
        go_meet
        case rel => exact ⟨_, (decide ((ji17) < (-16383))), (by first | rfl | (simp; done) | (simp only [← hji17] <;> (first | rfl | simp)) | (simp [*]; done)), H', ⟨by first | omega | exact Nat.le_refl _⟩, ⟨by repeat (first | (with_reducible first | exact HB.out | apply below_alloc | apply pw_below_drewN | apply below_drew1) | exact HB.out)⟩⟩
    case rest =>
      clear HC11
      try clear c1
      try clear c2
      try clear p2
      try clear p6
      try clear c7
      try clear c9
      try clear c9b0
      try clear c9b1
      try clear c15
      try clear c15b0
      obtain ⟨kq, x53_10, rfl, HA, HJ10, HB⟩ := hcut
      cases kq with
      | zero => exact absurd HA.out (by simp [perilunelaw05_CpuProducts.j0])
      | succ kj10 =>
        have H := HA.out
        clear HA
        simp only [perilunelaw05_CpuProducts.j0] at H
        by_cases c18 : x53_10 = true
        · subst c18
          have H1 : (some false) = some r := by rw [if_pos rfl] at H; exact H
          clear H
          have H := H1
          clear H1
          obtain rfl := Option.some.inj H
          go_wp2
          go_ret
          exact ⟨by first | rfl | (simp [errW_none, errW_some] <;> rfl) | (simp [*, errW_none, errW_some] <;> rfl), by repeat (first | (with_reducible first | exact HB.out | apply below_alloc | apply pw_below_drewN | apply below_drew1) | exact HB.out)⟩
        · replace c18 := Bool.eq_false_iff.mpr c18
          subst c18
          have H1 : ((cpu_Divide.f kj10 a0 a1 a2).bind fun bt545 => (if (mx (wrap64 ((wrap64 (16384 * t538)) + t539)) (wrap64 (-(wrap64 ((wrap64 (16384 * t538)) + t539))))) < (wrap64 (16384 * (mx t544 (wrap64 (-t544))))) then ((onescomp_Value.f bt545.2).bind fun t547 => (if t547 > 16383 then (some false) else (if t547 < (-16383) then (some false) else ((onescomp_Value.f bt545.1).bind fun t548 => (if (wrap64 ((wrap64 (t548 * t544)) + t547)) = (wrap64 ((wrap64 (16384 * t538)) + t539)) then (if (mx t547 (wrap64 (-t547))) ≥ (mx t544 (wrap64 (-t544))) then (some false) else (perilunelaw05_CpuProducts.j1 kj10 a1 t538 t539 t540 t541)) else (some false)))))) else (if bt545.2 = (Int.tmod a1 32768) then ((onescomp_Value.f bt545.1).bind fun t549 => (if t549 = 16383 then (perilunelaw05_CpuProducts.j1 kj10 a1 t538 t539 t540 t541) else ((onescomp_Value.f bt545.1).bind fun t550 => (if t550 = (-16383) then (perilunelaw05_CpuProducts.j1 kj10 a1 t538 t539 t540 t541) else (some false))))) else (some false)))) = some r := by rw [if_neg (show ¬ (false = true) by decide)] at H; exact H
          clear H
          have H := H1
          clear H1
          replace H := Option.bind_eq_some_iff.mp H
          obtain ⟨⟨t545, t546⟩, A190, H⟩ := H
          replace H : (if (mx (wrap64 ((wrap64 (16384 * t538)) + t539)) (wrap64 (-(wrap64 ((wrap64 (16384 * t538)) + t539))))) < (wrap64 (16384 * (mx t544 (wrap64 (-t544))))) then ((onescomp_Value.f t546).bind fun t547 => (if t547 > 16383 then (some false) else (if t547 < (-16383) then (some false) else ((onescomp_Value.f t545).bind fun t548 => (if (wrap64 ((wrap64 (t548 * t544)) + t547)) = (wrap64 ((wrap64 (16384 * t538)) + t539)) then (if (mx t547 (wrap64 (-t547))) ≥ (mx t544 (wrap64 (-t544))) then (some false) else (perilunelaw05_CpuProducts.j1 kj10 a1 t538 t539 t540 t541)) else (some false)))))) else (if t546 = (Int.tmod a1 32768) then ((onescomp_Value.f t545).bind fun t549 => (if t549 = 16383 then (perilunelaw05_CpuProducts.j1 kj10 a1 t538 t539 t540 t541) else ((onescomp_Value.f t545).bind fun t550 => (if t550 = (-16383) then (perilunelaw05_CpuProducts.j1 kj10 a1 t538 t539 t540 t541) else (some false))))) else (some false))) = some r := H
          have A19 := Aside0.mk A190
          clear A190
          obtain ⟨ji20, hji20⟩ : ∃ j_ : Int, (mx (wrap64 ((wrap64 (16384 * t538)) + t539)) (wrap64 (-(wrap64 ((wrap64 (16384 * t538)) + t539))))) = j_ := ⟨_, rfl⟩
          replace H : (if (ji20) < (wrap64 (16384 * (mx t544 (wrap64 (-t544))))) then ((onescomp_Value.f t546).bind fun t547 => (if t547 > 16383 then (some false) else (if t547 < (-16383) then (some false) else ((onescomp_Value.f t545).bind fun t548 => (if (wrap64 ((wrap64 (t548 * t544)) + t547)) = (wrap64 ((wrap64 (16384 * t538)) + t539)) then (if (mx t547 (wrap64 (-t547))) ≥ (mx t544 (wrap64 (-t544))) then (some false) else (perilunelaw05_CpuProducts.j1 kj10 a1 t538 t539 t540 t541)) else (some false)))))) else (if t546 = (Int.tmod a1 32768) then ((onescomp_Value.f t545).bind fun t549 => (if t549 = 16383 then (perilunelaw05_CpuProducts.j1 kj10 a1 t538 t539 t540 t541) else ((onescomp_Value.f t545).bind fun t550 => (if t550 = (-16383) then (perilunelaw05_CpuProducts.j1 kj10 a1 t538 t539 t540 t541) else (some false))))) else (some false))) = some r := by first | (rw [hji20] at H; exact H) | (simp only [hji20] at H ⊢; exact H)
          (try rw [hji20] at A19)
          have hji20_ : (if (wrap64 ((wrap64 (16384 * t538)) + t539)) < (wrap64 (-(wrap64 ((wrap64 (16384 * t538)) + t539)))) then (wrap64 (-(wrap64 ((wrap64 (16384 * t538)) + t539)))) else (wrap64 ((wrap64 (16384 * t538)) + t539))) = ji20 := hji20
          obtain ⟨ji21, hji21⟩ : ∃ j_ : Int, (mx t544 (wrap64 (-t544))) = j_ := ⟨_, rfl⟩
          replace H : (if (ji20) < (wrap64 (16384 * (ji21))) then ((onescomp_Value.f t546).bind fun t547 => (if t547 > 16383 then (some false) else (if t547 < (-16383) then (some false) else ((onescomp_Value.f t545).bind fun t548 => (if (wrap64 ((wrap64 (t548 * t544)) + t547)) = (wrap64 ((wrap64 (16384 * t538)) + t539)) then (if (mx t547 (wrap64 (-t547))) ≥ (ji21) then (some false) else (perilunelaw05_CpuProducts.j1 kj10 a1 t538 t539 t540 t541)) else (some false)))))) else (if t546 = (Int.tmod a1 32768) then ((onescomp_Value.f t545).bind fun t549 => (if t549 = 16383 then (perilunelaw05_CpuProducts.j1 kj10 a1 t538 t539 t540 t541) else ((onescomp_Value.f t545).bind fun t550 => (if t550 = (-16383) then (perilunelaw05_CpuProducts.j1 kj10 a1 t538 t539 t540 t541) else (some false))))) else (some false))) = some r := by first | (rw [hji21] at H; exact H) | (simp only [hji21] at H ⊢; exact H)
          (try rw [hji21] at A19)
          have hji21_ : (if t544 < (wrap64 (-t544)) then (wrap64 (-t544)) else t544) = ji21 := hji21
          have HC22 := Aside0.mk H
          clear H
          go_upto_if 70 with (first | ((with_reducible refine gate_callee (f := 26) rfl ?_); refine goesL_ (some 58) rfl rfl Tryz.func26 (by kernel_rfl) rfl #[.int .u16 a0, .int .u16 a1, .int .u16 a2] rfl (by (try simp only [List.map_toArray, List.map_cons, List.map_nil]); first | done | rfl | (simp only [List.length_drop, List.length_take]; rfl)) ?_; (with_reducible refine (cpu_Divide.calls kj10 a0 a1 a2 t545 t546 _ A19.out).mono ?_); rintro e w23 ⟨rfl, hb⟩; refine ⟨_, rfl, ?_⟩; have n0_ := Aside0.mk (below_step (by repeat (first | (with_reducible first | exact HB.out | apply below_alloc | apply pw_below_drewN | apply below_drew1) | exact HB.out)) hb); clear HB; have HB := n0_; clear n0_; (try clear hb); (try clear hb2); (try clear hk); (try clear hi)))
          (try simp only [Act.put, List.setIfInBounds_toArray, List.set_cons_zero, List.set_cons_succ])
          go_cut [] (fun wc => ∃ (kq : Nat), Aside0 (perilunelaw05_CpuProducts.j1 kq a1 t538 t539 t540 t541 = some r) ∧ Aside0 (kq ≤ kj10) ∧ Aside0 (Below w.heap.size w wc))
          case first =>
            have H := HC22.out
            clear HC22
            by_cases c24 : (ji20) < (wrap64 (16384 * (ji21)))
            · rw [if_pos c24] at H
              have c24b0 : decide ((ji20) < (wrap64 (16384 * (ji21)))) = true := decide_eq_true c24
              clear c24
              (first | rw [c24b0] | (simp only [i64_w, i32_w]; rw [c24b0]) | skip)
              replace H := Option.bind_eq_some_iff.mp H
              obtain ⟨t547, A250, H⟩ := H
              replace H : (if t547 > 16383 then (some false) else (if t547 < (-16383) then (some false) else ((onescomp_Value.f t545).bind fun t548 => (if (wrap64 ((wrap64 (t548 * t544)) + t547)) = (wrap64 ((wrap64 (16384 * t538)) + t539)) then (if (mx t547 (wrap64 (-t547))) ≥ (ji21) then (some false) else (perilunelaw05_CpuProducts.j1 kj10 a1 t538 t539 t540 t541)) else (some false))))) = some r := H
              have A25 := Aside0.mk A250
              clear A250
              by_cases c26 : t547 > 16383
              · rw [if_pos c26] at H
                have c26b0 : decide (16383 < t547) = true := decide_eq_true c26
                clear c26
                obtain rfl := Option.some.inj H
                go_wp2_with (first | ((with_reducible refine gate_callee (f := 29) rfl ?_); refine goesL_ (some 72) rfl rfl Tryz.func29 (by kernel_rfl) rfl #[.int .u16 t546] rfl (by (try simp only [List.map_toArray, List.map_cons, List.map_nil]); first | done | rfl | (simp only [List.length_drop, List.length_take]; rfl)) ?_; (with_reducible refine (onescomp_Value.calls t546 t547 _ A25.out).mono ?_); rintro e w' ⟨rfl, ⟨nd, rfl⟩⟩; refine ⟨_, rfl, ?_⟩))
                go_ret
                exact ⟨by first | rfl | (simp [errW_none, errW_some] <;> rfl) | (simp only [← hji20, ← hji21]; first | rfl | (simp [errW_none, errW_some] <;> rfl)) | (simp [*, errW_none, errW_some] <;> rfl), by repeat (first | (with_reducible first | exact HB.out | apply below_alloc | apply pw_below_drewN | apply below_drew1) | exact HB.out)⟩
              · rw [if_neg c26] at H
                have c26b0 : decide (16383 < t547) = false := decide_eq_false c26
                clear c26
                by_cases c27 : t547 < (-16383)
                · rw [if_pos c27] at H
                  have c27b0 : decide (t547 < (-16383)) = true := decide_eq_true c27
                  clear c27
                  obtain rfl := Option.some.inj H
                  go_wp2_with (first | ((with_reducible refine gate_callee (f := 29) rfl ?_); refine goesL_ (some 72) rfl rfl Tryz.func29 (by kernel_rfl) rfl #[.int .u16 t546] rfl (by (try simp only [List.map_toArray, List.map_cons, List.map_nil]); first | done | rfl | (simp only [List.length_drop, List.length_take]; rfl)) ?_; (with_reducible refine (onescomp_Value.calls t546 t547 _ A25.out).mono ?_); rintro e w' ⟨rfl, ⟨nd, rfl⟩⟩; refine ⟨_, rfl, ?_⟩))
                  go_ret
                  exact ⟨by first | rfl | (simp [errW_none, errW_some] <;> rfl) | (simp only [← hji20, ← hji21]; first | rfl | (simp [errW_none, errW_some] <;> rfl)) | (simp [*, errW_none, errW_some] <;> rfl), by repeat (first | (with_reducible first | exact HB.out | apply below_alloc | apply pw_below_drewN | apply below_drew1) | exact HB.out)⟩
                · rw [if_neg c27] at H
                  have c27b0 : decide (t547 < (-16383)) = false := decide_eq_false c27
                  clear c27
                  replace H := Option.bind_eq_some_iff.mp H
                  obtain ⟨t548, A280, H⟩ := H
                  replace H : (if (wrap64 ((wrap64 (t548 * t544)) + t547)) = (wrap64 ((wrap64 (16384 * t538)) + t539)) then (if (mx t547 (wrap64 (-t547))) ≥ (ji21) then (some false) else (perilunelaw05_CpuProducts.j1 kj10 a1 t538 t539 t540 t541)) else (some false)) = some r := H
                  have A28 := Aside0.mk A280
                  clear A280
                  by_cases c29 : (wrap64 ((wrap64 (t548 * t544)) + t547)) = (wrap64 ((wrap64 (16384 * t538)) + t539))
                  · rw [if_pos c29] at H
                    have c29b0 : ((wrap64 ((wrap64 (t548 * t544)) + t547)) == (wrap64 ((wrap64 (16384 * t538)) + t539))) = true := beq_iff_eq.mpr c29
                    have c29b1 : ((wrap64 ((wrap64 (t548 * t544)) + t547)) != (wrap64 ((wrap64 (16384 * t538)) + t539))) = false := bne_eq_false_iff_eq.mpr c29
                    clear c29
                    obtain ⟨ji30, hji30⟩ : ∃ j_ : Int, (mx t547 (wrap64 (-t547))) = j_ := ⟨_, rfl⟩
                    replace H : (if (ji30) ≥ (ji21) then (some false) else (perilunelaw05_CpuProducts.j1 kj10 a1 t538 t539 t540 t541)) = some r := by first | (rw [hji30] at H; exact H) | (simp only [hji30] at H ⊢; exact H)
                    (try rw [hji30] at A25)
                    (try rw [hji30] at A28)
                    have hji30_ : (if t547 < (wrap64 (-t547)) then (wrap64 (-t547)) else t547) = ji30 := hji30
                    by_cases c32 : (ji30) ≥ (ji21)
                    · rw [if_pos c32] at H
                      have c32b0 : decide ((ji21) ≤ (ji30)) = true := decide_eq_true c32
                      clear c32
                      obtain rfl := Option.some.inj H
                      go_wp2_with (first | ((with_reducible refine gate_callee (f := 29) rfl ?_); refine goesL_ (some 72) rfl rfl Tryz.func29 (by kernel_rfl) rfl #[.int .u16 t546] rfl (by (try simp only [List.map_toArray, List.map_cons, List.map_nil]); first | done | rfl | (simp only [List.length_drop, List.length_take]; rfl)) ?_; (with_reducible refine (onescomp_Value.calls t546 t547 _ A25.out).mono ?_); rintro e w' ⟨rfl, ⟨nd, rfl⟩⟩; refine ⟨_, rfl, ?_⟩) | (go_at_call 29; (with_reducible refine (onescomp_Value.calls t545 t548 _ A28.out).mono ?_); rintro e w' ⟨rfl, ⟨nd, rfl⟩⟩))
                      go_ret
                      exact ⟨by first | rfl | (simp [errW_none, errW_some] <;> rfl) | (simp only [← hji20, ← hji21, ← hji30]; first | rfl | (simp [errW_none, errW_some] <;> rfl)) | (simp [*, errW_none, errW_some] <;> rfl), by repeat (first | (with_reducible first | exact HB.out | apply below_alloc | apply pw_below_drewN | apply below_drew1) | exact HB.out)⟩
                    · rw [if_neg c32] at H
                      have c32b0 : decide ((ji21) ≤ (ji30)) = false := decide_eq_false c32
                      clear c32
                      have H' := Aside0.mk H
                      clear H
                      go_wp2_with (first | ((with_reducible refine gate_callee (f := 29) rfl ?_); refine goesL_ (some 72) rfl rfl Tryz.func29 (by kernel_rfl) rfl #[.int .u16 t546] rfl (by (try simp only [List.map_toArray, List.map_cons, List.map_nil]); first | done | rfl | (simp only [List.length_drop, List.length_take]; rfl)) ?_; (with_reducible refine (onescomp_Value.calls t546 t547 _ A25.out).mono ?_); rintro e w' ⟨rfl, ⟨nd, rfl⟩⟩; refine ⟨_, rfl, ?_⟩) | (go_at_call 29; (with_reducible refine (onescomp_Value.calls t545 t548 _ A28.out).mono ?_); rintro e w' ⟨rfl, ⟨nd, rfl⟩⟩))
                      go_meet
                      case rel => exact ⟨_, H', ⟨by have := HJ10.out; first | omega | exact Nat.le_refl _⟩, ⟨by repeat (first | (with_reducible first | exact HB.out | apply below_alloc | apply pw_below_drewN | apply below_drew1) | exact HB.out)⟩⟩
                  · rw [if_neg c29] at H
                    have c29b0 : ((wrap64 ((wrap64 (t548 * t544)) + t547)) == (wrap64 ((wrap64 (16384 * t538)) + t539))) = false := beq_eq_false_iff_ne.mpr c29
                    have c29b1 : ((wrap64 ((wrap64 (t548 * t544)) + t547)) != (wrap64 ((wrap64 (16384 * t538)) + t539))) = true := bne_iff_ne.mpr c29
                    obtain rfl := Option.some.inj H
                    go_wp2_with (first | ((with_reducible refine gate_callee (f := 29) rfl ?_); refine goesL_ (some 72) rfl rfl Tryz.func29 (by kernel_rfl) rfl #[.int .u16 t546] rfl (by (try simp only [List.map_toArray, List.map_cons, List.map_nil]); first | done | rfl | (simp only [List.length_drop, List.length_take]; rfl)) ?_; (with_reducible refine (onescomp_Value.calls t546 t547 _ A25.out).mono ?_); rintro e w' ⟨rfl, ⟨nd, rfl⟩⟩; refine ⟨_, rfl, ?_⟩) | (go_at_call 29; (with_reducible refine (onescomp_Value.calls t545 t548 _ A28.out).mono ?_); rintro e w' ⟨rfl, ⟨nd, rfl⟩⟩))
                    go_ret
                    exact ⟨by first | rfl | (simp [errW_none, errW_some] <;> rfl) | (simp only [← hji20, ← hji21]; first | rfl | (simp [errW_none, errW_some] <;> rfl)) | (simp [*, errW_none, errW_some] <;> rfl), by repeat (first | (with_reducible first | exact HB.out | apply below_alloc | apply pw_below_drewN | apply below_drew1) | exact HB.out)⟩
            · rw [if_neg c24] at H
              have c24b0 : decide ((ji20) < (wrap64 (16384 * (ji21)))) = false := decide_eq_false c24
              clear c24
              (first | rw [c24b0] | (simp only [i64_w, i32_w]; rw [c24b0]) | skip)
              by_cases c33 : t546 = (Int.tmod a1 32768)
              · rw [if_pos c33] at H
                have c33b0 : (t546 == (Int.tmod a1 32768)) = true := beq_iff_eq.mpr c33
                have c33b1 : (t546 != (Int.tmod a1 32768)) = false := bne_eq_false_iff_eq.mpr c33
                clear c33
                replace H := Option.bind_eq_some_iff.mp H
                obtain ⟨t549, A340, H⟩ := H
                replace H : (if t549 = 16383 then (perilunelaw05_CpuProducts.j1 kj10 a1 t538 t539 t540 t541) else ((onescomp_Value.f t545).bind fun t550 => (if t550 = (-16383) then (perilunelaw05_CpuProducts.j1 kj10 a1 t538 t539 t540 t541) else (some false)))) = some r := H
                have A34 := Aside0.mk A340
                clear A340
                by_cases c35 : t549 = 16383
                · rw [if_pos c35] at H
                  have c35b0 : (t549 == 16383) = true := beq_iff_eq.mpr c35
                  have c35b1 : (t549 != 16383) = false := bne_eq_false_iff_eq.mpr c35
                  clear c35
                  have H' := Aside0.mk H
                  clear H
                  go_wp2_with (first | (go_at_call 29; (with_reducible refine (onescomp_Value.calls t545 t549 _ A34.out).mono ?_); rintro e w' ⟨rfl, ⟨nd, rfl⟩⟩))
                  go_meet
                  case rel => exact ⟨_, H', ⟨by have := HJ10.out; first | omega | exact Nat.le_refl _⟩, ⟨by repeat (first | (with_reducible first | exact HB.out | apply below_alloc | apply pw_below_drewN | apply below_drew1) | exact HB.out)⟩⟩
                · rw [if_neg c35] at H
                  have c35b0 : (t549 == 16383) = false := beq_eq_false_iff_ne.mpr c35
                  have c35b1 : (t549 != 16383) = true := bne_iff_ne.mpr c35
                  replace H := Option.bind_eq_some_iff.mp H
                  obtain ⟨t550, A360, H⟩ := H
                  replace H : (if t550 = (-16383) then (perilunelaw05_CpuProducts.j1 kj10 a1 t538 t539 t540 t541) else (some false)) = some r := H
                  have A36 := Aside0.mk A360
                  clear A360
                  obtain rfl : t550 = t549 := Option.some.inj (A36.out.symm.trans A34.out)
                  by_cases c37 : t550 = (-16383)
                  · rw [if_pos c37] at H
                    have c37b0 : (t550 == (-16383)) = true := beq_iff_eq.mpr c37
                    have c37b1 : (t550 != (-16383)) = false := bne_eq_false_iff_eq.mpr c37
                    clear c37
                    have H' := Aside0.mk H
                    clear H
                    go_wp2_with (first | (go_at_call 29; (with_reducible refine (onescomp_Value.calls t545 t549 _ A34.out).mono ?_); rintro e w' ⟨rfl, ⟨nd, rfl⟩⟩) | (go_at_call 29; (with_reducible refine (onescomp_Value.calls t545 t550 _ A36.out).mono ?_); rintro e w' ⟨rfl, ⟨nd, rfl⟩⟩))
                    go_meet
                    case rel => exact ⟨_, H', ⟨by have := HJ10.out; first | omega | exact Nat.le_refl _⟩, ⟨by repeat (first | (with_reducible first | exact HB.out | apply below_alloc | apply pw_below_drewN | apply below_drew1) | exact HB.out)⟩⟩
                  · rw [if_neg c37] at H
                    have c37b0 : (t550 == (-16383)) = false := beq_eq_false_iff_ne.mpr c37
                    have c37b1 : (t550 != (-16383)) = true := bne_iff_ne.mpr c37
                    obtain rfl := Option.some.inj H
                    go_wp2_with (first | (go_at_call 29; (with_reducible refine (onescomp_Value.calls t545 t549 _ A34.out).mono ?_); rintro e w' ⟨rfl, ⟨nd, rfl⟩⟩) | (go_at_call 29; (with_reducible refine (onescomp_Value.calls t545 t550 _ A36.out).mono ?_); rintro e w' ⟨rfl, ⟨nd, rfl⟩⟩))
                    go_ret
                    exact ⟨by first | rfl | (simp [errW_none, errW_some] <;> rfl) | (simp only [← hji20, ← hji21]; first | rfl | (simp [errW_none, errW_some] <;> rfl)) | (simp [*, errW_none, errW_some] <;> rfl), by repeat (first | (with_reducible first | exact HB.out | apply below_alloc | apply pw_below_drewN | apply below_drew1) | exact HB.out)⟩
              · rw [if_neg c33] at H
                have c33b0 : (t546 == (Int.tmod a1 32768)) = false := beq_eq_false_iff_ne.mpr c33
                have c33b1 : (t546 != (Int.tmod a1 32768)) = true := bne_iff_ne.mpr c33
                obtain rfl := Option.some.inj H
                go_wp2
                go_ret
                exact ⟨by first | rfl | (simp [errW_none, errW_some] <;> rfl) | (simp only [← hji20, ← hji21]; first | rfl | (simp [errW_none, errW_some] <;> rfl)) | (simp [*, errW_none, errW_some] <;> rfl), by repeat (first | (with_reducible first | exact HB.out | apply below_alloc | apply pw_below_drewN | apply below_drew1) | exact HB.out)⟩
          case rest =>
            clear HC22
            try clear c1
            try clear c2
            try clear p2
            try clear c3
            try clear p6
            try clear c7
            try clear c9
            try clear c9b0
            try clear c9b1
            try clear c15
            try clear c15b0
            try clear c18
            try clear c24
            try clear c24b0
            try clear c26
            try clear c26b0
            try clear c27
            try clear c27b0
            try clear c29
            try clear c29b0
            try clear c29b1
            try clear c31
            try clear c31b0
            try clear c32
            try clear c32b0
            try clear c33
            try clear c33b0
            try clear c33b1
            try clear c35
            try clear c35b0
            try clear c35b1
            try clear c37
            try clear c37b0
            try clear c37b1
            try clear p2
            try clear p6
            obtain ⟨kq, HA, HJ21, HB⟩ := hcut
            cases kq with
            | zero => exact absurd HA.out (by simp [perilunelaw05_CpuProducts.j1])
            | succ kj21 =>
              have H := HA.out
              clear HA
              simp only [perilunelaw05_CpuProducts.j1] at H
              have HC38 := Aside0.mk H
              clear H
              go_upto_region 15 with (fail)
              go_cut [119] (fun v119 wc => ∃ (kq : Nat) (x119_37 : Bool), v119 = .bool x119_37 ∧ Aside0 (perilunelaw05_CpuProducts.j2 kq a1 t538 t540 t541 x119_37 = some r) ∧ Aside0 (kq ≤ kj21) ∧ Aside0 (Below w.heap.size w wc))
              case first =>
                have H := HC38.out
                clear HC38
                by_cases c39 : t539 = 0
                · rw [if_pos c39] at H
                  have c39b0 : (t539 == 0) = true := beq_iff_eq.mpr c39
                  have c39b1 : (t539 != 0) = false := bne_eq_false_iff_eq.mpr c39
                  clear c39
                  (first | rw [c39b0] | (simp only [i64_w, i32_w]; rw [c39b0]) | skip)
                  have H' := Aside0.mk H
                  clear H
                  go_wp2
                  go_meet
                  case rel => exact ⟨_, (true), (by first | rfl | (simp; done) | (simp [*]; done)), H', ⟨by have := HJ10.out; have := HJ21.out; first | omega | exact Nat.le_refl _⟩, ⟨by repeat (first | (with_reducible first | exact HB.out | apply below_alloc | apply pw_below_drewN | apply below_drew1) | exact HB.out)⟩⟩
                · rw [if_neg c39] at H
                  have c39b0 : (t539 == 0) = false := beq_eq_false_iff_ne.mpr c39
                  have c39b1 : (t539 != 0) = true := bne_iff_ne.mpr c39
                  (first | rw [c39b0] | (simp only [i64_w, i32_w]; rw [c39b0]) | skip)
                  have H' := Aside0.mk H
                  clear H
                  go_wp2
                  go_meet
                  case rel => exact ⟨_, ((t538 == 0)), (by first | rfl | (simp; done) | (simp [*]; done)), H', ⟨by have := HJ10.out; have := HJ21.out; first | omega | exact Nat.le_refl _⟩, ⟨by repeat (first | (with_reducible first | exact HB.out | apply below_alloc | apply pw_below_drewN | apply below_drew1) | exact HB.out)⟩⟩
              case rest =>
                clear HC38
                try clear c1
                try clear c2
                try clear p2
                try clear c3
                try clear p6
                try clear c7
                try clear c9
                try clear c9b0
                try clear c9b1
                try clear c15
                try clear c15b0
                try clear c18
                try clear c24
                try clear c24b0
                try clear c26
                try clear c26b0
                try clear c27
                try clear c27b0
                try clear c29
                try clear c29b0
                try clear c29b1
                try clear c31
                try clear c31b0
                try clear c32
                try clear c32b0
                try clear c33
                try clear c33b0
                try clear c33b1
                try clear c35
                try clear c35b0
                try clear c35b1
                try clear c37
                try clear c37b0
                try clear c37b1
                try clear c39
                try clear c39b0
                try clear c39b1
                try clear p2
                try clear p6
                obtain ⟨kq, x119_37, rfl, HA, HJ37, HB⟩ := hcut
                cases kq with
                | zero => exact absurd HA.out (by simp [perilunelaw05_CpuProducts.j2])
                | succ kj37 =>
                  have H := HA.out
                  clear HA
                  simp only [perilunelaw05_CpuProducts.j2] at H
                  by_cases c40 : x119_37 = true
                  · subst c40
                    have H1 : ((perilunelaw05_works.f).bind fun t551 => (some t551)) = some r := by rw [if_pos rfl] at H; exact H
                    clear H
                    have H := H1
                    clear H1
                    replace H := Option.bind_eq_some_iff.mp H
                    obtain ⟨t551, A410, H⟩ := H
                    replace H : (some t551) = some r := H
                    have A41 := Aside0.mk A410
                    clear A410
                    obtain rfl := Option.some.inj H
                    go_wp2_with (first | ((with_reducible refine gate_callee (f := 20) rfl ?_); refine goesL_ (some 120) rfl rfl Tryz.func20 (by kernel_rfl) rfl #[] rfl (by (try simp only [List.map_toArray, List.map_cons, List.map_nil]); first | done | rfl | (simp only [List.length_drop, List.length_take]; rfl)) ?_; (with_reducible refine (perilunelaw05_works.calls  t551 _ A41.out).mono ?_); rintro e w42 ⟨rfl, hb⟩; refine ⟨_, rfl, ?_⟩; have n0_ := Aside0.mk (below_step (by repeat (first | (with_reducible first | exact HB.out | apply below_alloc | apply pw_below_drewN | apply below_drew1) | exact HB.out)) hb); clear HB; have HB := n0_; clear n0_; (try clear hb); (try clear hb2); (try clear hk); (try clear hi)))
                    go_ret
                    exact ⟨by first | rfl | (simp [errW_none, errW_some] <;> rfl) | (simp only [← hji20, ← hji21]; first | rfl | (simp [errW_none, errW_some] <;> rfl)) | (simp [*, errW_none, errW_some] <;> rfl), by repeat (first | (with_reducible first | exact HB.out | apply below_alloc | apply pw_below_drewN | apply below_drew1) | exact HB.out)⟩
                  · replace c40 := Bool.eq_false_iff.mpr c40
                    subst c40
                    have H1 : ((cpu_Divide.f kj37 t540 t541 a1).bind fun bt552 => ((onescomp_Value.f bt552.1).bind fun t554 => (if t554 = t538 then ((onescomp_Value.f bt552.2).bind fun t555 => (if t555 = 0 then ((perilunelaw05_works.f).bind fun t556 => (some t556)) else (some false))) else (some false)))) = some r := by rw [if_neg (show ¬ (false = true) by decide)] at H; exact H
                    clear H
                    have H := H1
                    clear H1
                    replace H := Option.bind_eq_some_iff.mp H
                    obtain ⟨⟨t552, t553⟩, A430, H⟩ := H
                    replace H : ((onescomp_Value.f t552).bind fun t554 => (if t554 = t538 then ((onescomp_Value.f t553).bind fun t555 => (if t555 = 0 then ((perilunelaw05_works.f).bind fun t556 => (some t556)) else (some false))) else (some false))) = some r := H
                    have A43 := Aside0.mk A430
                    clear A430
                    replace H := Option.bind_eq_some_iff.mp H
                    obtain ⟨t554, A440, H⟩ := H
                    replace H : (if t554 = t538 then ((onescomp_Value.f t553).bind fun t555 => (if t555 = 0 then ((perilunelaw05_works.f).bind fun t556 => (some t556)) else (some false))) else (some false)) = some r := H
                    have A44 := Aside0.mk A440
                    clear A440
                    by_cases c45 : t554 = t538
                    · rw [if_pos c45] at H
                      have c45b0 : (t554 == t538) = true := beq_iff_eq.mpr c45
                      have c45b1 : (t554 != t538) = false := bne_eq_false_iff_eq.mpr c45
                      clear c45
                      replace H := Option.bind_eq_some_iff.mp H
                      obtain ⟨t555, A460, H⟩ := H
                      replace H : (if t555 = 0 then ((perilunelaw05_works.f).bind fun t556 => (some t556)) else (some false)) = some r := H
                      have A46 := Aside0.mk A460
                      clear A460
                      by_cases c47 : t555 = 0
                      · rw [if_pos c47] at H
                        have c47b0 : (t555 == 0) = true := beq_iff_eq.mpr c47
                        have c47b1 : (t555 != 0) = false := bne_eq_false_iff_eq.mpr c47
                        clear c47
                        replace H := Option.bind_eq_some_iff.mp H
                        obtain ⟨t556, A480, H⟩ := H
                        replace H : (some t556) = some r := H
                        have A48 := Aside0.mk A480
                        clear A480
                        obtain rfl := Option.some.inj H
                        go_wp2_with (first | ((with_reducible refine gate_callee (f := 26) rfl ?_); refine goesL_ (some 125) rfl rfl Tryz.func26 (by kernel_rfl) rfl #[.int .u16 t540, .int .u16 t541, .int .u16 a1] rfl (by (try simp only [List.map_toArray, List.map_cons, List.map_nil]); first | done | rfl | (simp only [List.length_drop, List.length_take]; rfl)) ?_; (with_reducible refine (cpu_Divide.calls kj37 t540 t541 a1 t552 t553 _ A43.out).mono ?_); rintro e w49 ⟨rfl, hb⟩; refine ⟨_, rfl, ?_⟩; have n0_ := Aside0.mk (below_step (by repeat (first | (with_reducible first | exact HB.out | apply below_alloc | apply pw_below_drewN | apply below_drew1) | exact HB.out)) hb); clear HB; have HB := n0_; clear n0_; (try clear hb); (try clear hb2); (try clear hk); (try clear hi)) | ((with_reducible refine gate_callee (f := 29) rfl ?_); refine goesL_ (some 129) rfl rfl Tryz.func29 (by kernel_rfl) rfl #[.int .u16 t552] rfl (by (try simp only [List.map_toArray, List.map_cons, List.map_nil]); first | done | rfl | (simp only [List.length_drop, List.length_take]; rfl)) ?_; (with_reducible refine (onescomp_Value.calls t552 t554 _ A44.out).mono ?_); rintro e w' ⟨rfl, ⟨nd, rfl⟩⟩; refine ⟨_, rfl, ?_⟩) | (go_at_call 29; (with_reducible refine (onescomp_Value.calls t553 t555 _ A46.out).mono ?_); rintro e w' ⟨rfl, ⟨nd, rfl⟩⟩) | (go_at_call 20; (with_reducible refine (perilunelaw05_works.calls  t556 _ A48.out).mono ?_); rintro e w50 ⟨rfl, hb⟩; have n0_ := Aside0.mk (below_step (by repeat (first | (with_reducible first | exact HB.out | apply below_alloc | apply pw_below_drewN | apply below_drew1) | exact HB.out)) hb); clear HB; have HB := n0_; clear n0_; (try clear hb); (try clear hb2); (try clear hk); (try clear hi)))
                        go_ret
                        exact ⟨by first | rfl | (simp [errW_none, errW_some] <;> rfl) | (simp only [← hji20, ← hji21]; first | rfl | (simp [errW_none, errW_some] <;> rfl)) | (simp [*, errW_none, errW_some] <;> rfl), by repeat (first | (with_reducible first | exact HB.out | apply below_alloc | apply pw_below_drewN | apply below_drew1) | exact HB.out)⟩
                      · rw [if_neg c47] at H
                        have c47b0 : (t555 == 0) = false := beq_eq_false_iff_ne.mpr c47
                        have c47b1 : (t555 != 0) = true := bne_iff_ne.mpr c47
                        obtain rfl := Option.some.inj H
                        go_wp2_with (first | ((with_reducible refine gate_callee (f := 26) rfl ?_); refine goesL_ (some 125) rfl rfl Tryz.func26 (by kernel_rfl) rfl #[.int .u16 t540, .int .u16 t541, .int .u16 a1] rfl (by (try simp only [List.map_toArray, List.map_cons, List.map_nil]); first | done | rfl | (simp only [List.length_drop, List.length_take]; rfl)) ?_; (with_reducible refine (cpu_Divide.calls kj37 t540 t541 a1 t552 t553 _ A43.out).mono ?_); rintro e w51 ⟨rfl, hb⟩; refine ⟨_, rfl, ?_⟩; have n0_ := Aside0.mk (below_step (by repeat (first | (with_reducible first | exact HB.out | apply below_alloc | apply pw_below_drewN | apply below_drew1) | exact HB.out)) hb); clear HB; have HB := n0_; clear n0_; (try clear hb); (try clear hb2); (try clear hk); (try clear hi)) | ((with_reducible refine gate_callee (f := 29) rfl ?_); refine goesL_ (some 129) rfl rfl Tryz.func29 (by kernel_rfl) rfl #[.int .u16 t552] rfl (by (try simp only [List.map_toArray, List.map_cons, List.map_nil]); first | done | rfl | (simp only [List.length_drop, List.length_take]; rfl)) ?_; (with_reducible refine (onescomp_Value.calls t552 t554 _ A44.out).mono ?_); rintro e w' ⟨rfl, ⟨nd, rfl⟩⟩; refine ⟨_, rfl, ?_⟩) | (go_at_call 29; (with_reducible refine (onescomp_Value.calls t553 t555 _ A46.out).mono ?_); rintro e w' ⟨rfl, ⟨nd, rfl⟩⟩))
                        go_ret
                        exact ⟨by first | rfl | (simp [errW_none, errW_some] <;> rfl) | (simp only [← hji20, ← hji21]; first | rfl | (simp [errW_none, errW_some] <;> rfl)) | (simp [*, errW_none, errW_some] <;> rfl), by repeat (first | (with_reducible first | exact HB.out | apply below_alloc | apply pw_below_drewN | apply below_drew1) | exact HB.out)⟩
                    · rw [if_neg c45] at H
                      have c45b0 : (t554 == t538) = false := beq_eq_false_iff_ne.mpr c45
                      have c45b1 : (t554 != t538) = true := bne_iff_ne.mpr c45
                      obtain rfl := Option.some.inj H
                      go_wp2_with (first | ((with_reducible refine gate_callee (f := 26) rfl ?_); refine goesL_ (some 125) rfl rfl Tryz.func26 (by kernel_rfl) rfl #[.int .u16 t540, .int .u16 t541, .int .u16 a1] rfl (by (try simp only [List.map_toArray, List.map_cons, List.map_nil]); first | done | rfl | (simp only [List.length_drop, List.length_take]; rfl)) ?_; (with_reducible refine (cpu_Divide.calls kj37 t540 t541 a1 t552 t553 _ A43.out).mono ?_); rintro e w52 ⟨rfl, hb⟩; refine ⟨_, rfl, ?_⟩; have n0_ := Aside0.mk (below_step (by repeat (first | (with_reducible first | exact HB.out | apply below_alloc | apply pw_below_drewN | apply below_drew1) | exact HB.out)) hb); clear HB; have HB := n0_; clear n0_; (try clear hb); (try clear hb2); (try clear hk); (try clear hi)) | ((with_reducible refine gate_callee (f := 29) rfl ?_); refine goesL_ (some 129) rfl rfl Tryz.func29 (by kernel_rfl) rfl #[.int .u16 t552] rfl (by (try simp only [List.map_toArray, List.map_cons, List.map_nil]); first | done | rfl | (simp only [List.length_drop, List.length_take]; rfl)) ?_; (with_reducible refine (onescomp_Value.calls t552 t554 _ A44.out).mono ?_); rintro e w' ⟨rfl, ⟨nd, rfl⟩⟩; refine ⟨_, rfl, ?_⟩))
                      go_ret
                      exact ⟨by first | rfl | (simp [errW_none, errW_some] <;> rfl) | (simp only [← hji20, ← hji21]; first | rfl | (simp [errW_none, errW_some] <;> rfl)) | (simp [*, errW_none, errW_some] <;> rfl), by repeat (first | (with_reducible first | exact HB.out | apply below_alloc | apply pw_below_drewN | apply below_drew1) | exact HB.out)⟩
  · rw [if_neg c9] at H
    have c9b0 : ((wrap64 ((wrap64 (16384 * t542)) + t543)) == (wrap64 (t538 * t539))) = false := beq_eq_false_iff_ne.mpr c9
    have c9b1 : ((wrap64 ((wrap64 (16384 * t542)) + t543)) != (wrap64 (t538 * t539))) = true := bne_iff_ne.mpr c9
    obtain rfl := Option.some.inj H
    go_enter Tryz.func7, Tryz.ntmps7
    go_wp2_with (first | ((with_reducible refine gate_callee (f := 29) rfl ?_); refine goesL_ (some 17) rfl rfl Tryz.func29 (by kernel_rfl) rfl #[.int .u16 a0] rfl (by (try simp only [List.map_toArray, List.map_cons, List.map_nil]); first | done | rfl | (simp only [List.length_drop, List.length_take]; rfl)) ?_; (with_reducible refine (onescomp_Value.calls a0 t538 _ A4.out).mono ?_); rintro e w' ⟨rfl, ⟨nd, rfl⟩⟩; refine ⟨_, rfl, ?_⟩) | ((with_reducible refine gate_callee (f := 29) rfl ?_); refine goesL_ (some 19) rfl rfl Tryz.func29 (by kernel_rfl) rfl #[.int .u16 a1] rfl (by (try simp only [List.map_toArray, List.map_cons, List.map_nil]); first | done | rfl | (simp only [List.length_drop, List.length_take]; rfl)) ?_; (with_reducible refine (onescomp_Value.calls a1 t539 _ A5.out).mono ?_); rintro e w' ⟨rfl, ⟨nd, rfl⟩⟩; refine ⟨_, rfl, ?_⟩) | ((with_reducible refine gate_callee (f := 24) rfl ?_); refine goesL_ (some 23) rfl rfl Tryz.func24 (by kernel_rfl) rfl #[.int .u16 a0, .int .u16 a1] rfl (by (try simp only [List.map_toArray, List.map_cons, List.map_nil]); first | done | rfl | (simp only [List.length_drop, List.length_take]; rfl)) ?_; (with_reducible refine (cpu_Multiply.calls a0 a1 t540 t541 _ A6.out).mono ?_); rintro e w53 ⟨rfl, hb⟩; refine ⟨_, rfl, ?_⟩; have n0_ := Aside0.mk (below_step (by repeat (first | (with_reducible first | exact HB.out | apply below_alloc | apply pw_below_drewN | apply below_drew1) | exact HB.out)) hb); clear HB; have HB := n0_; clear n0_; (try clear hb); (try clear hb2); (try clear hk); (try clear hi)) | ((with_reducible refine gate_callee (f := 29) rfl ?_); refine goesL_ (some 27) rfl rfl Tryz.func29 (by kernel_rfl) rfl #[.int .u16 t540] rfl (by (try simp only [List.map_toArray, List.map_cons, List.map_nil]); first | done | rfl | (simp only [List.length_drop, List.length_take]; rfl)) ?_; (with_reducible refine (onescomp_Value.calls t540 t542 _ A7.out).mono ?_); rintro e w' ⟨rfl, ⟨nd, rfl⟩⟩; refine ⟨_, rfl, ?_⟩) | ((with_reducible refine gate_callee (f := 29) rfl ?_); refine goesL_ (some 30) rfl rfl Tryz.func29 (by kernel_rfl) rfl #[.int .u16 t541] rfl (by (try simp only [List.map_toArray, List.map_cons, List.map_nil]); first | done | rfl | (simp only [List.length_drop, List.length_take]; rfl)) ?_; (with_reducible refine (onescomp_Value.calls t541 t543 _ A8.out).mono ?_); rintro e w' ⟨rfl, ⟨nd, rfl⟩⟩; refine ⟨_, rfl, ?_⟩))
    go_ret
    exact ⟨by first | rfl | (simp [errW_none, errW_some] <;> rfl) | (simp [*, errW_none, errW_some] <;> rfl), by repeat (first | (with_reducible first | exact HB.out | apply below_alloc | apply pw_below_drewN | apply below_drew1) | exact HB.out)⟩
end Go.Proofs.YthfobpkdloejfaaGreat.PAll
end
