/- The walk of ParityHalf: it returns true; no condition. -/
import Derived.Test.YtjinijaegfolbaaL02a
import Derived.Lib.Hide
namespace Go.Proofs.Ytjinijaegfolbaa.L02
open Go.RowKit Go.Proofs.Ytjinijaegfolbaa.PAll Go.Proofs.YtjinijaegfolbaaW.PrintWords Go.Proofs.YtjinijaegfolbaaW.PrintLast Go.Proofs.YtjinijaegfolbaaW.PrintMore Go.Proofs.Ytjinijaegfolbaa.Plain
set_option linter.unusedVariables false
set_option linter.unusedSimpArgs false
/-- How many of the words below s are right with the parity bit on. -/
def cnt (s : Nat) : Nat := s / 2 + (if s % 2 = 1 ∧ obits (s - 1) 16 = false then 1 else 0)
theorem obits_next (s : Nat) (h : s % 2 = 0) : obits (s + 1) 16 = !obits s 16 := by
  have e : s + 1 = s ^^^ 2 ^ 0 := by
    have h2 : s ||| 1 = s + 1 := nat_join 1 s 1 (by simpa using h) (by decide)
    have h3 : s ^^^ 1 = s ||| 1 := by
      apply Nat.eq_of_testBit_eq; intro i
      rw [Nat.testBit_xor, Nat.testBit_or, show (1 : Nat) = 2 ^ 0 from rfl, Nat.testBit_two_pow]
      by_cases c : 0 = i
      · subst c
        have : s.testBit 0 = false := by rw [Nat.testBit_zero]; simp; omega
        rw [this]; simp
      · simp [c]
    rw [show (2 : Nat) ^ 0 = 1 from rfl, h3, h2]
  rw [e, obits_flip, if_pos (by decide)]
theorem cnt_next (s : Nat) : cnt (s + 1) = cnt s + (if obits s 16 = false then 1 else 0) := by
  unfold cnt
  by_cases c : s % 2 = 0
  · have h1 : (s + 1) % 2 = 1 := by omega
    have h2 : ¬ s % 2 = 1 := by omega
    simp only [h1, c, Nat.add_sub_cancel, true_and]
    have : (s + 1) / 2 = s / 2 := by omega
    rw [this]; simp
  · have h1 : ¬ (s + 1) % 2 = 1 := by omega
    have h2 : s % 2 = 1 := by omega
    have hp := obits_next (s - 1) (by omega)
    rw [show s - 1 + 1 = s by omega] at hp
    have : (s + 1) / 2 = s / 2 + 1 := by omega
    simp only [h1, h2, true_and, false_and, if_false, this, hp]
    cases obits (s - 1) 16 <;> simp
theorem obits_hi (s : Nat) (h : s < 32768) : obits (s + 32768) 16 = !obits s 16 := by
  have e : s + 32768 = s ^^^ 2 ^ 15 := by
    have h2 : 32768 ||| s = 32768 + s := nat_join 15 32768 s (by decide) (by omega)
    have h3 : s ^^^ 32768 = 32768 ||| s := by
      apply Nat.eq_of_testBit_eq; intro i
      rw [Nat.testBit_xor, Nat.testBit_or, show (32768 : Nat) = 2 ^ 15 from rfl, Nat.testBit_two_pow]
      by_cases c : 15 = i
      · subst c
        have : s.testBit 15 = false := Nat.testBit_lt_two_pow h
        rw [this]; simp
      · simp [c]
    rw [show (2 : Nat) ^ 15 = 32768 from rfl, h3, h2, Nat.add_comm]
  rw [e, obits_flip, if_pos (by decide)]

/-- The same, of whole numbers. -/
def cntI (s : Int) : Int := (cnt s.toNat : Nat)
theorem cntI_next (s : Int) (h : 0 ≤ s) : cntI (s + 1) = cntI s + (if ob16 s = false then 1 else 0) := by
  unfold cntI ob16
  obtain ⟨n, rfl⟩ := Int.eq_ofNat_of_zero_le h
  rw [show ((n : Int) + 1).toNat = n + 1 by omega, Int.toNat_natCast, cnt_next]
  split <;> simp
theorem ob16_hi (s : Int) (h : 0 ≤ s) (h1 : s < 32768) : ob16 (s + 32768) = !ob16 s := by
  unfold ob16
  obtain ⟨n, rfl⟩ := Int.eq_ofNat_of_zero_le h
  rw [show ((n : Int) + 32768).toNat = n + 32768 by omega, Int.toNat_natCast, obits_hi n (by omega)]
theorem ob15_lo (s : Int) (h : 0 ≤ s) (h1 : s < 32768) : ob15 s = ob16 s := by
  unfold ob15 ob16
  exact (obits_top s.toNat 15 (by omega)).symm
theorem putI_lo (s : Int) (h : 0 ≤ s) (h1 : s < 32768) : putI s = if ob16 s = true then s else s + 32768 := by
  rw [← ob15_lo s h h1]
  unfold putI ob15 putN
  split <;> omega
theorem cntI_le (s : Int) (h : 0 ≤ s) (h1 : s ≤ 32768) : 0 ≤ cntI s ∧ cntI s ≤ 32768 := by
  unfold cntI cnt; split <;> omega
set_option maxHeartbeats 1000000 in
theorem half_walk (w : World) : Calls Try.prog 5 #[] w fun e w' => e = .returned (.bool true) ∧ Below w.heap.size w w' := by
  have HB := Aside0.mk (Below.refl w.heap.size w)
  go_enter Try.func5, Try.ntmps5
  go_wp2
  go_loopg [1, 2] 32768 (fun g v1 v2 w' => ∃ s : Int, 0 ≤ s ∧ s ≤ 32768 ∧ v1 = .int .i64 (cntI s) ∧ v2 = .int .i64 s ∧ Aside0 (s + g = 32768) ∧ Aside0 (Below w.heap.size w w'))
  case atStart => exact ⟨0, by decide, by decide, rfl, rfl, ⟨rfl⟩, HB⟩
  case round =>
    clear HB
    obtain ⟨s, h0, h1, rfl, rfl, hg, HB⟩ := hrel
    have C0 := cntI_le s h0 h1
    have C1 := C0.1
    have C2 := C0.2
    clear C0
    by_cases hlt : s < 32768
    · obtain ⟨m, rfl⟩ : ∃ m, gk = m + 1 := ⟨gk - 1, by have := hg.out; omega⟩
      have b0 : decide (s < 32768) = true := decide_eq_true hlt
      have u1 : IntKind.u16.wrap s = s := by rw [IntKind.wrap_u16]; omega
      have u2 : IntKind.u16.wrap (s + 32768) = s + 32768 := by rw [IntKind.wrap_u16]; omega
      have G1 := Get_c s (by omega) (by omega)
      have G2 := Get_c (s + 32768) (by omega) (by omega)
      have O1 := Odd_c s (by omega) (by omega)
      have P1 := Put_c s (by omega) (by omega)
      rw [show s % 32768 = s by omega] at G1
      rw [show (s + 32768) % 32768 = s by omega, ob16_hi s h0 hlt] at G2
      rw [ob15_lo s h0 hlt] at O1
      rw [putI_lo s h0 hlt] at P1
      have N1 := cntI_next s h0
      cases hb : ob16 s with
      | true =>
        rw [hb] at G1 G2 O1 P1 N1
        simp only [Bool.not_true, if_true] at G2 P1
        rw [if_neg (by decide), Int.add_zero] at N1
        replace G1 := Lib.hid G1
        replace G2 := Lib.hid G2
        replace O1 := Lib.hid O1
        replace P1 := Lib.hid P1
        replace N1 := Lib.hid N1
        clear hb
        go_wp2_with (first | (go_at_call 11; first | ((with_reducible refine (G1.out _).mono ?_); rintro e w' ⟨rfl, ⟨nd, rfl⟩⟩) | ((with_reducible refine (G2.out _).mono ?_); rintro e w' ⟨rfl, ⟨nd, rfl⟩⟩)) | (go_at_call 13; (with_reducible refine (O1.out _).mono ?_); rintro e w' ⟨rfl, ⟨nd, rfl⟩⟩) | (go_at_call 15; (with_reducible refine (P1.out _).mono ?_); rintro e w' ⟨rfl, ⟨nd, rfl⟩⟩))
        go_roundg m
        case measure => omega
        case rel => exact ⟨s + 1, by omega, by omega, by rw [N1.out], rfl, ⟨by have := hg.out; omega⟩, ⟨by repeat (first | (with_reducible first | exact HB.out | apply below_alloc | apply pw_below_drewN | apply below_drew1) | exact HB.out)⟩⟩
      | false =>
        rw [hb] at G1 G2 O1 P1 N1
        simp only [Bool.not_false] at G2
        rw [if_neg (by decide)] at P1
        rw [if_pos rfl] at N1
        replace G1 := Lib.hid G1
        replace G2 := Lib.hid G2
        replace O1 := Lib.hid O1
        replace P1 := Lib.hid P1
        replace N1 := Lib.hid N1
        clear hb
        have b1 : (s + 32768 == s) = false := by rw [beq_eq_false_iff_ne]; omega
        go_wp2_with (first | (go_at_call 11; first | ((with_reducible refine (G1.out _).mono ?_); rintro e w' ⟨rfl, ⟨nd, rfl⟩⟩) | ((with_reducible refine (G2.out _).mono ?_); rintro e w' ⟨rfl, ⟨nd, rfl⟩⟩)) | (go_at_call 13; (with_reducible refine (O1.out _).mono ?_); rintro e w' ⟨rfl, ⟨nd, rfl⟩⟩) | (go_at_call 15; (with_reducible refine (P1.out _).mono ?_); rintro e w' ⟨rfl, ⟨nd, rfl⟩⟩))
        go_roundg m
        case measure => omega
        case rel => exact ⟨s + 1, by omega, by omega, by rw [N1.out], rfl, ⟨by have := hg.out; omega⟩, ⟨by repeat (first | (with_reducible first | exact HB.out | apply below_alloc | apply pw_below_drewN | apply below_drew1) | exact HB.out)⟩⟩
    · obtain rfl : s = 32768 := by omega
      have c0 : cntI 32768 = 16384 := by decide
      rw [c0]
      clear c0 C1 C2
      go_wp2_with ((go_at_call 17; (with_reducible refine (works_c _).mono ?_); rintro e w' ⟨rfl, ⟨nd, rfl⟩⟩))
      go_ret
      exact ⟨rfl, by repeat (first | (with_reducible first | exact HB.out | apply below_alloc | apply pw_below_drewN | apply below_drew1) | exact HB.out)⟩
end Go.Proofs.Ytjinijaegfolbaa.L02
