/- The law CounterShifts. -/
import Derived.Test.YtebnodldfddbnaaCnt6
namespace Go.Proofs.Ytebnodldfddbnaa.Cnt
open Go.RowKit Go.Proofs.Ytebnodldfddbnaa.PAll Go.Proofs.YtebnodldfddbnaaW.PrintWords Go.Proofs.YtebnodldfddbnaaW.PrintLast Go.Proofs.YtebnodldfddbnaaW.PrintMore Go.Proofs.Ytebnodldfddbnaa.Plain Go.Proofs.Ytebnodldfddbnaa.One Go.Proofs.Ytebnodldfddbnaa.Lit
set_option linter.unusedVariables false
set_option linter.unusedSimpArgs false
/-- The word, and what has left it, after j bits of Y. -/
def xf (X Y : Int) (j : Nat) : Int := X % 2 ^ (15 - j) * 2 ^ j + Y / 2 ^ (15 - j)
def of_ (X : Int) (j : Nat) : Int := X / 2 ^ (15 - j)
theorem xf_step (X Y : Int) (X0 : 0 ≤ X) (X1 : X < 32768) (Y0 : 0 ≤ Y) (Y1 : Y < 32768) : ∀ j : Nat, j < 15 → (2 * xf X Y j + Y / 2 ^ (14 - j) % 2) % 32768 = xf X Y (j + 1)
  | 0, _ => by
    simp only [xf, of_, Nat.reduceSub, Nat.reduceAdd, Int.reducePow]
    omega
  | 1, _ => by
    simp only [xf, of_, Nat.reduceSub, Nat.reduceAdd, Int.reducePow]
    omega
  | 2, _ => by
    simp only [xf, of_, Nat.reduceSub, Nat.reduceAdd, Int.reducePow]
    omega
  | 3, _ => by
    simp only [xf, of_, Nat.reduceSub, Nat.reduceAdd, Int.reducePow]
    omega
  | 4, _ => by
    simp only [xf, of_, Nat.reduceSub, Nat.reduceAdd, Int.reducePow]
    omega
  | 5, _ => by
    simp only [xf, of_, Nat.reduceSub, Nat.reduceAdd, Int.reducePow]
    omega
  | 6, _ => by
    simp only [xf, of_, Nat.reduceSub, Nat.reduceAdd, Int.reducePow]
    omega
  | 7, _ => by
    simp only [xf, of_, Nat.reduceSub, Nat.reduceAdd, Int.reducePow]
    omega
  | 8, _ => by
    simp only [xf, of_, Nat.reduceSub, Nat.reduceAdd, Int.reducePow]
    omega
  | 9, _ => by
    simp only [xf, of_, Nat.reduceSub, Nat.reduceAdd, Int.reducePow]
    omega
  | 10, _ => by
    simp only [xf, of_, Nat.reduceSub, Nat.reduceAdd, Int.reducePow]
    omega
  | 11, _ => by
    simp only [xf, of_, Nat.reduceSub, Nat.reduceAdd, Int.reducePow]
    omega
  | 12, _ => by
    simp only [xf, of_, Nat.reduceSub, Nat.reduceAdd, Int.reducePow]
    omega
  | 13, _ => by
    simp only [xf, of_, Nat.reduceSub, Nat.reduceAdd, Int.reducePow]
    omega
  | 14, _ => by
    simp only [xf, of_, Nat.reduceSub, Nat.reduceAdd, Int.reducePow]
    omega
  | j + 15, h => by omega
theorem of_step (X Y : Int) (X0 : 0 ≤ X) (X1 : X < 32768) (Y0 : 0 ≤ Y) (Y1 : Y < 32768) : ∀ j : Nat, j < 15 → 2 * of_ X j + xf X Y j / 16384 = of_ X (j + 1)
  | 0, _ => by
    simp only [xf, of_, Nat.reduceSub, Nat.reduceAdd, Int.reducePow]
    omega
  | 1, _ => by
    simp only [xf, of_, Nat.reduceSub, Nat.reduceAdd, Int.reducePow]
    omega
  | 2, _ => by
    simp only [xf, of_, Nat.reduceSub, Nat.reduceAdd, Int.reducePow]
    omega
  | 3, _ => by
    simp only [xf, of_, Nat.reduceSub, Nat.reduceAdd, Int.reducePow]
    omega
  | 4, _ => by
    simp only [xf, of_, Nat.reduceSub, Nat.reduceAdd, Int.reducePow]
    omega
  | 5, _ => by
    simp only [xf, of_, Nat.reduceSub, Nat.reduceAdd, Int.reducePow]
    omega
  | 6, _ => by
    simp only [xf, of_, Nat.reduceSub, Nat.reduceAdd, Int.reducePow]
    omega
  | 7, _ => by
    simp only [xf, of_, Nat.reduceSub, Nat.reduceAdd, Int.reducePow]
    omega
  | 8, _ => by
    simp only [xf, of_, Nat.reduceSub, Nat.reduceAdd, Int.reducePow]
    omega
  | 9, _ => by
    simp only [xf, of_, Nat.reduceSub, Nat.reduceAdd, Int.reducePow]
    omega
  | 10, _ => by
    simp only [xf, of_, Nat.reduceSub, Nat.reduceAdd, Int.reducePow]
    omega
  | 11, _ => by
    simp only [xf, of_, Nat.reduceSub, Nat.reduceAdd, Int.reducePow]
    omega
  | 12, _ => by
    simp only [xf, of_, Nat.reduceSub, Nat.reduceAdd, Int.reducePow]
    omega
  | 13, _ => by
    simp only [xf, of_, Nat.reduceSub, Nat.reduceAdd, Int.reducePow]
    omega
  | 14, _ => by
    simp only [xf, of_, Nat.reduceSub, Nat.reduceAdd, Int.reducePow]
    omega
  | j + 15, h => by omega
theorem xf_range (X Y : Int) (X0 : 0 ≤ X) (X1 : X < 32768) (Y0 : 0 ≤ Y) (Y1 : Y < 32768) : ∀ j : Nat, j < 15 → 0 ≤ xf X Y j ∧ xf X Y j < 32768
  | 0, _ => by
    simp only [xf, of_, Nat.reduceSub, Nat.reduceAdd, Int.reducePow]
    omega
  | 1, _ => by
    simp only [xf, of_, Nat.reduceSub, Nat.reduceAdd, Int.reducePow]
    omega
  | 2, _ => by
    simp only [xf, of_, Nat.reduceSub, Nat.reduceAdd, Int.reducePow]
    omega
  | 3, _ => by
    simp only [xf, of_, Nat.reduceSub, Nat.reduceAdd, Int.reducePow]
    omega
  | 4, _ => by
    simp only [xf, of_, Nat.reduceSub, Nat.reduceAdd, Int.reducePow]
    omega
  | 5, _ => by
    simp only [xf, of_, Nat.reduceSub, Nat.reduceAdd, Int.reducePow]
    omega
  | 6, _ => by
    simp only [xf, of_, Nat.reduceSub, Nat.reduceAdd, Int.reducePow]
    omega
  | 7, _ => by
    simp only [xf, of_, Nat.reduceSub, Nat.reduceAdd, Int.reducePow]
    omega
  | 8, _ => by
    simp only [xf, of_, Nat.reduceSub, Nat.reduceAdd, Int.reducePow]
    omega
  | 9, _ => by
    simp only [xf, of_, Nat.reduceSub, Nat.reduceAdd, Int.reducePow]
    omega
  | 10, _ => by
    simp only [xf, of_, Nat.reduceSub, Nat.reduceAdd, Int.reducePow]
    omega
  | 11, _ => by
    simp only [xf, of_, Nat.reduceSub, Nat.reduceAdd, Int.reducePow]
    omega
  | 12, _ => by
    simp only [xf, of_, Nat.reduceSub, Nat.reduceAdd, Int.reducePow]
    omega
  | 13, _ => by
    simp only [xf, of_, Nat.reduceSub, Nat.reduceAdd, Int.reducePow]
    omega
  | 14, _ => by
    simp only [xf, of_, Nat.reduceSub, Nat.reduceAdd, Int.reducePow]
    omega
  | j + 15, h => by omega
theorem of_range (X Y : Int) (X0 : 0 ≤ X) (X1 : X < 32768) (Y0 : 0 ≤ Y) (Y1 : Y < 32768) : ∀ j : Nat, j < 15 → 0 ≤ of_ X j ∧ 2 * of_ X j < 32768
  | 0, _ => by
    simp only [xf, of_, Nat.reduceSub, Nat.reduceAdd, Int.reducePow]
    omega
  | 1, _ => by
    simp only [xf, of_, Nat.reduceSub, Nat.reduceAdd, Int.reducePow]
    omega
  | 2, _ => by
    simp only [xf, of_, Nat.reduceSub, Nat.reduceAdd, Int.reducePow]
    omega
  | 3, _ => by
    simp only [xf, of_, Nat.reduceSub, Nat.reduceAdd, Int.reducePow]
    omega
  | 4, _ => by
    simp only [xf, of_, Nat.reduceSub, Nat.reduceAdd, Int.reducePow]
    omega
  | 5, _ => by
    simp only [xf, of_, Nat.reduceSub, Nat.reduceAdd, Int.reducePow]
    omega
  | 6, _ => by
    simp only [xf, of_, Nat.reduceSub, Nat.reduceAdd, Int.reducePow]
    omega
  | 7, _ => by
    simp only [xf, of_, Nat.reduceSub, Nat.reduceAdd, Int.reducePow]
    omega
  | 8, _ => by
    simp only [xf, of_, Nat.reduceSub, Nat.reduceAdd, Int.reducePow]
    omega
  | 9, _ => by
    simp only [xf, of_, Nat.reduceSub, Nat.reduceAdd, Int.reducePow]
    omega
  | 10, _ => by
    simp only [xf, of_, Nat.reduceSub, Nat.reduceAdd, Int.reducePow]
    omega
  | 11, _ => by
    simp only [xf, of_, Nat.reduceSub, Nat.reduceAdd, Int.reducePow]
    omega
  | 12, _ => by
    simp only [xf, of_, Nat.reduceSub, Nat.reduceAdd, Int.reducePow]
    omega
  | 13, _ => by
    simp only [xf, of_, Nat.reduceSub, Nat.reduceAdd, Int.reducePow]
    omega
  | 14, _ => by
    simp only [xf, of_, Nat.reduceSub, Nat.reduceAdd, Int.reducePow]
    omega
  | j + 15, h => by omega
theorem xf_end (X Y : Int) (X0 : 0 ≤ X) (X1 : X < 32768) (Y0 : 0 ≤ Y) (Y1 : Y < 32768) : xf X Y 15 = Y ∧ of_ X 15 = X := by
  simp only [xf, of_, Nat.reduceSub, Int.reducePow]; omega
theorem xf_start (X Y : Int) (X0 : 0 ≤ X) (X1 : X < 32768) (Y0 : 0 ≤ Y) (Y1 : Y < 32768) : xf X Y 0 = X ∧ of_ X 0 = 0 := by
  simp only [xf, of_, Nat.reduceSub, Int.reducePow]; omega
set_option maxHeartbeats 4000000 in
theorem shifts_law (a0 a1 : Int) (w : World) (w0 : (Lit.int .u16 a0).wf = true) (w1 : (Lit.int .u16 a1).wf = true) : Calls Try.prog 4 #[.int .u16 a0, .int .u16 a1] w fun e w' => e = .returned (.bool true) ∧ Below w.heap.size w w' := by
  obtain ⟨m0, hm0, hm02⟩ := wf16 w0
  obtain ⟨m1, hm1, hm12⟩ := wf16 w1
  have HB := Aside0.mk (Below.refl w.heap.size w)
  obtain ⟨X, hX⟩ : ∃ X, a0 % 32768 = X := ⟨_, rfl⟩
  obtain ⟨Y, hY⟩ : ∃ Y, a1 % 32768 = Y := ⟨_, rfl⟩
  have t0 : Int.tmod a0 32768 = X := by rw [← hX]; exact Int.tmod_eq_emod_of_nonneg (by omega)
  have t1 : Int.tmod a1 32768 = Y := by rw [← hY]; exact Int.tmod_eq_emod_of_nonneg (by omega)
  have X0 := Lib.hid (show 0 ≤ X by omega)
  have X1 := Lib.hid (show X < 32768 by omega)
  have Y0 := Lib.hid (show 0 ≤ Y by omega)
  have Y1 := Lib.hid (show Y < 32768 by omega)
  have XS := xf_start X Y X0.out X1.out Y0.out Y1.out
  have XE := xf_end X Y X0.out X1.out Y0.out Y1.out
  clear hX hY w0 w1 hm0 hm1 hm02 hm12
  replace XS := Lib.hid XS
  replace XE := Lib.hid XE
  go_enter Try.func4, Try.ntmps4
  go_wp2
  go_loopg [5, 6, 7] 15 (fun g v5 v6 v7 w' => ∃ (j : Nat) (i x out : Int), v5 = .int .u16 x ∧ v6 = .int .u16 out ∧ v7 = .int .i64 i ∧ Aside0 (j + g = 15) ∧ Aside0 (i = 14 - (j : Int)) ∧ Aside0 (x = xf X Y j) ∧ Aside0 (out = of_ X j) ∧ Aside0 (Below w.heap.size w w'))
  case atStart => exact ⟨0, 14, X, 0, rfl, rfl, rfl, ⟨by omega⟩, ⟨by decide⟩, ⟨XS.out.1.symm⟩, ⟨XS.out.2.symm⟩, HB⟩
  case round =>
    clear HB
    obtain ⟨j, i, x, out, rfl, rfl, rfl, hg, hi, hx, ho, HB⟩ := hrel
    by_cases hlt : j < 15
    · obtain ⟨g, rfl⟩ : ∃ g, gk = g + 1 := ⟨gk - 1, by have := hg.out; omega⟩
      have i0 : 0 ≤ i := by have := hi.out; omega
      have i1 : i ≤ 14 := by have := hi.out; omega
      have hin : i.toNat = 14 - j := by have := hi.out; omega
      have b0 : decide (i ≥ 0) = true := decide_eq_true i0
      have b0' : decide (0 ≤ i) = true := decide_eq_true i0
      have xr := xf_range X Y X0.out X1.out Y0.out Y1.out j hlt
      have or_ := of_range X Y X0.out X1.out Y0.out Y1.out j hlt
      have xs := xf_step X Y X0.out X1.out Y0.out Y1.out j hlt
      have os := of_step X Y X0.out X1.out Y0.out Y1.out j hlt
      rw [← hx.out] at xr xs os
      rw [← ho.out] at or_ os
      obtain ⟨p, hp⟩ : ∃ p, Y / 2 ^ i.toNat = p := ⟨_, rfl⟩
      have hp0 : 0 ≤ p := by rw [← hp]; exact Int.ediv_nonneg Y0.out (Int.pow_nonneg (by decide))
      rw [hin] at hp
      rw [hp] at xs
      rw [← hin] at hp
      obtain ⟨bt, hbt⟩ : ∃ b, p % 2 = b := ⟨_, rfl⟩
      rw [hbt] at xs
      have bt0 : 0 ≤ bt := by omega
      have bt1 : bt < 2 := by omega
      have u0 : IntKind.u64.wrap i = i := by rw [IntKind.wrap_u64]; omega
      have u1 : Int.tmod p 2 = bt := by rw [← hbt]; exact Int.tmod_eq_emod_of_nonneg hp0
      have u2 : IntKind.u8.wrap bt = bt := by rw [IntKind.wrap_u8]; omega
      have u3 : IntKind.u8.wrap (6 + bt) = 6 + bt := by rw [IntKind.wrap_u8]; omega
      have xx : x % 32768 = x := by omega
      obtain ⟨s, hs⟩ : ∃ s, x / 16384 = s := ⟨_, rfl⟩
      obtain ⟨y, hy⟩ : ∃ y, (2 * x + bt) % 32768 = y := ⟨_, rfl⟩
      rw [hs] at os
      rw [hy] at xs
      have KK : ∀ w, Calls Try.prog 11 #[.int .u16 x, .int .u8 (6 + bt)] w fun e w' => e = .returned (.tuple #[.int .u16 y, .int .i64 s, .int .i64 0]) ∧ Below w.heap.size w w' := by
        intro w
        have : bt = 0 ∨ bt = 1 := by omega
        rcases this with h | h
        · subst h
          exact AP x 6 y s xr.1 (by omega) (by rw [apN_6, xx]; exact hy) (by rw [apS_6, xx]; exact hs) apE_6 w
        · subst h
          exact AP x 7 y s xr.1 (by omega) (by rw [apN_7, xx]; exact hy) (by rw [apS_7, xx]; exact hs) apE_7 w
      replace KK := Lib.hid KK
      have s0 : 0 ≤ s := by omega
      have s1 : s ≤ 1 := by omega
      have b1 : decide (s < 0) = false := decide_eq_false (by omega)
      have b2 : decide (s > 1) = false := decide_eq_false (by omega)
      have b2' : decide (1 < s) = false := decide_eq_false (by omega)
      have u4 : IntKind.u16.wrap s = s := u16w s0 (by omega)
      have u5 : IntKind.u16.wrap (2 * out) = 2 * out := u16w (by omega) (by omega)
      have u6 : IntKind.u16.wrap (2 * out + s) = 2 * out + s := u16w (by omega) (by omega)
      have xs' := Lib.hid xs
      have os' := Lib.hid os
      have i2 : i ≤ 16 := by omega
      clear xs os hin hbt hs hy xx xr or_ hp0
      go_wp2_with (go_at_call 11; (with_reducible refine at_args #[.int .u16 x, .int .u8 _] ?_); (with_reducible refine (KK.out _).mono ?_); rintro e w' ⟨rfl, hbz⟩; have HBn := Aside0.mk (below_step (by repeat (first | (with_reducible first | exact HB.out | apply below_alloc | apply pw_below_drewN | apply below_drew1) | exact HB.out)) hbz); clear HB hbz; have HB := HBn; clear HBn)
      go_roundg g
      case measure => omega
      case rel => exact ⟨j + 1, i - 1, y, 2 * out + s, rfl, rfl, rfl, ⟨by have := hg.out; omega⟩, ⟨by have := hi.out; omega⟩, ⟨xs'.out⟩, ⟨os'.out⟩, ⟨by repeat (first | (with_reducible first | exact HB.out | apply below_alloc | apply pw_below_drewN | apply below_drew1) | exact HB.out)⟩⟩
    · have hj : j = 15 := by have := hg.out; omega
      subst hj
      have hi' := hi.out
      have b0 : decide (i ≥ 0) = false := decide_eq_false (by omega)
      have b0' : decide (0 ≤ i) = false := decide_eq_false (by omega)
      have ex := hx.out
      have eo := ho.out
      rw [XE.out.1] at ex
      rw [XE.out.2] at eo
      subst ex
      subst eo
      have e1 : (x == x) = true := beq_self_eq_true _
      have e2 : (out == out) = true := beq_self_eq_true _
      clear hi' hi hg hx ho XE XS
      go_wp2_with (go_at_call 16; (with_reducible refine at_args #[] ?_); (with_reducible refine (works_c _).mono ?_); rintro e w' ⟨rfl, hbw⟩; have HBn := Aside0.mk (below_step (by repeat (first | (with_reducible first | exact HB.out | apply below_alloc | apply pw_below_drewN | apply below_drew1) | exact HB.out)) hbw); clear HB hbw; have HB := HBn; clear HBn)
      go_ret
      exact ⟨rfl, by repeat (first | (with_reducible first | exact HB.out | apply below_alloc | apply pw_below_drewN | apply below_drew1) | exact HB.out)⟩
end Go.Proofs.Ytebnodldfddbnaa.Cnt
