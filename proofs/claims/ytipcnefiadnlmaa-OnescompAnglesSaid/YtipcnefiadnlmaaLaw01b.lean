/- The walks of Edits, Back and Angles of chapter 1: each returns true; no condition but the ranges of the kinds. -/
import Derived.Test.YtipcnefiadnlmaaLaw01a
namespace Go.Proofs.Ytipcnefiadnlmaa.L01
open Go.RowKit Go.Proofs.Ytipcnefiadnlmaa.PAll Go.Proofs.Ytipcnefiadnlmaa.One Go.Proofs.YtipcnefiadnlmaaW.PrintWords Go.Proofs.YtipcnefiadnlmaaW.PrintLast Go.Proofs.YtipcnefiadnlmaaW.PrintMore Go.Proofs.Ytipcnefiadnlmaa.Plain
set_option linter.unusedVariables false
set_option linter.unusedSimpArgs false

set_option maxHeartbeats 1000000 in
theorem edits_walk (n x y : Int) (x0 : 0 ≤ x) (x1 : x < 65536) (y0 : 0 ≤ y) (y1 : y < 65536) (w : World) :
    Calls Try.prog 3 #[.int .i64 n, .int .u16 x, .int .u16 y] w fun e w' => e = .returned (.bool true) ∧ Below w.heap.size w w' := by
  have HB := Aside0.mk (Below.refl w.heap.size w)
  have K1 := cr_c x x0 x1
  replace K1 := Lib.hid K1
  have K2 := rcr_c x x0 x1
  replace K2 := Lib.hid K2
  have K3 := cl_c x x0 x1
  replace K3 := Lib.hid K3
  have K4 := rcl_c x x0 x1
  replace K4 := Lib.hid K4
  have K5 := sr_c x x0 x1
  replace K5 := Lib.hid K5
  have K6 := rsr_c x x0 x1
  replace K6 := Lib.hid K6
  have K7 := op_c x x0 x1
  replace K7 := Lib.hid K7
  have K8 := rop_c x x0 x1
  replace K8 := Lib.hid K8
  go_enter Try.func3, Try.ntmps3
  go_wp2_with (first | (go_at_call 11; (with_reducible refine at_args #[.int .u16 x] ?_); (with_reducible refine (K1.out _).mono ?_); rintro e w' ⟨rfl, ⟨nd, rfl⟩⟩) | (go_at_call 12; (with_reducible refine at_args #[.int .u16 x] ?_); (with_reducible refine (K2.out _).mono ?_); rintro e w' ⟨rfl, ⟨nd, rfl⟩⟩) | (go_at_call 13; (with_reducible refine at_args #[.int .u16 x] ?_); (with_reducible refine (K3.out _).mono ?_); rintro e w' ⟨rfl, ⟨nd, rfl⟩⟩) | (go_at_call 14; (with_reducible refine at_args #[.int .u16 x] ?_); (with_reducible refine (K4.out _).mono ?_); rintro e w' ⟨rfl, ⟨nd, rfl⟩⟩) | (go_at_call 15; (with_reducible refine at_args #[.int .u16 x] ?_); (with_reducible refine (K5.out _).mono ?_); rintro e w' ⟨rfl, ⟨nd, rfl⟩⟩) | (go_at_call 16; (with_reducible refine at_args #[.int .u16 x] ?_); (with_reducible refine (K6.out _).mono ?_); rintro e w' ⟨rfl, ⟨nd, rfl⟩⟩) | (go_at_call 17; (with_reducible refine at_args #[.int .u16 x] ?_); (with_reducible refine (K7.out _).mono ?_); rintro e w' ⟨rfl, ⟨nd, rfl⟩⟩) | (go_at_call 18; (with_reducible refine at_args #[.int .u16 x] ?_); (with_reducible refine (K8.out _).mono ?_); rintro e w' ⟨rfl, ⟨nd, rfl⟩⟩))
  go_loopg [7] 6 (fun g v7 w' => ∃ k : Int, v7 = .int .i64 k ∧ 15 ≤ k ∧ Aside0 (k + g = 21) ∧ Aside0 (Below w.heap.size w w'))
  case atStart => exact ⟨15, rfl, by decide, ⟨by decide⟩, ⟨by repeat (first | (with_reducible first | exact HB.out | apply below_alloc | apply pw_below_drewN | apply below_drew1) | exact HB.out)⟩⟩
  case round =>
    clear HB
    obtain ⟨k, rfl, k0, hg, HB⟩ := hrel
    have hg' := hg.out
    by_cases hlt : k ≤ 20
    · obtain ⟨g, rfl⟩ : ∃ g, gk = g + 1 := ⟨gk - 1, by omega⟩
      clear hg'
      have b0 : decide (k ≤ 20) = true := decide_eq_true hlt
      go_wp2_with (first | (go_at_call 19; (with_reducible refine at_args #[.int .i64 k, _] ?_); (with_reducible refine (edit_c k x x0 x1 _).mono ?_); rintro e w' ⟨rfl, hb⟩; have HBn := Aside0.mk (below_step (by repeat (first | (with_reducible first | exact HB.out | apply below_alloc | apply pw_below_drewN | apply below_drew1) | exact HB.out)) hb); clear HB hb; have HB := HBn; clear HBn) | (go_at_call 20; (with_reducible refine (redit_c x x0 x1 _ k).mono ?_); rintro e w' ⟨rfl, ⟨nd, rfl⟩⟩))
      go_roundg g
      case measure => omega
      case rel => exact ⟨k + 1, rfl, by omega, ⟨by have := hg.out; omega⟩, ⟨by repeat (first | (with_reducible first | exact HB.out | apply below_alloc | apply pw_below_drewN | apply below_drew1) | exact HB.out)⟩⟩
    · have b0 : decide (k ≤ 20) = false := decide_eq_false hlt
      clear hg'
      go_wp2_with (first | (go_at_call 19; (with_reducible refine at_args #[.int .i64 n, _] ?_); (with_reducible refine (edit_c n x x0 x1 _).mono ?_); rintro e w' ⟨rfl, hb⟩; have HBn := Aside0.mk (below_step (by repeat (first | (with_reducible first | exact HB.out | apply below_alloc | apply pw_below_drewN | apply below_drew1) | exact HB.out)) hb); clear HB hb; have HB := HBn; clear HBn) | (go_at_call 20; (with_reducible refine (redit_c x x0 x1 _ n).mono ?_); rintro e w' ⟨rfl, ⟨nd, rfl⟩⟩) | (go_at_call 21; (with_reducible refine (td_c x y x0 x1 y0 y1 _).mono ?_); rintro e w' ⟨rfl, ⟨nd, rfl⟩⟩) | (go_at_call 22; (with_reducible refine (rtd_c x y x0 x1 y0 y1 _).mono ?_); rintro e w' ⟨rfl, ⟨nd, rfl⟩⟩) | (go_at_call 23; (with_reducible refine (works_c _).mono ?_); rintro e w' ⟨rfl, hb⟩; have HBn := Aside0.mk (below_step (by repeat (first | (with_reducible first | exact HB.out | apply below_alloc | apply pw_below_drewN | apply below_drew1) | exact HB.out)) hb); clear HB hb; have HB := HBn; clear HBn))
      go_ret
      exact ⟨rfl, by repeat (first | (with_reducible first | exact HB.out | apply below_alloc | apply pw_below_drewN | apply below_drew1) | exact HB.out)⟩

def rotI (i : Nat) (v : Int) : Int := v / 2 ^ (15 - i) + v % 2 ^ (15 - i) * 2 ^ i
theorem rot_0 (v : Int) (h0 : 0 ≤ v) (h1 : v < 32768) : rotI 0 v = v := by unfold rotI; simp; omega
theorem rot_15 (v : Int) : rotI 15 v = v := by unfold rotI; simp
theorem rot_s0 (v : Int) (h0 : 0 ≤ v) (h1 : v < 32768) : clI (rotI 0 v) = rotI (0 + 1) v ∧ 0 ≤ rotI 0 v ∧ rotI 0 v < 32768 := by
  unfold rotI
  simp only [Nat.reduceSub, Nat.reduceAdd, Int.reducePow]
  obtain ⟨q, hq⟩ : ∃ q, v / 32768 = q := ⟨_, rfl⟩
  obtain ⟨s, hs⟩ : ∃ s, v % 16384 = s := ⟨_, rfl⟩
  obtain ⟨b, hb⟩ : ∃ b, v / 16384 % 2 = b := ⟨_, rfl⟩
  have hv : v = q * 32768 + b * 16384 + s := by omega
  have e1 : v / 16384 = 2 * q + b := by omega
  have e2 : v % 32768 = b * 16384 + s := by omega
  have hb2 : 0 ≤ b ∧ b ≤ 1 := by omega
  have hq2 : 0 ≤ q ∧ q < 1 := by omega
  have hs2 : 0 ≤ s ∧ s < 16384 := by omega
  rw [hq, e2, e1, hs]
  have e3 : (q + (b * 16384 + s) * 1) % 16384 = s * 1 + q := by omega
  have e5 : (q + (b * 16384 + s) * 1) % 32768 = q + (b * 16384 + s) * 1 := by omega
  have e4 : (q + (b * 16384 + s) * 1) % 32768 / 16384 = b := by rw [e5]; omega
  unfold clI
  rw [e3, e4]
  refine ⟨by omega, by omega, by omega⟩
theorem rot_s1 (v : Int) (h0 : 0 ≤ v) (h1 : v < 32768) : clI (rotI 1 v) = rotI (1 + 1) v ∧ 0 ≤ rotI 1 v ∧ rotI 1 v < 32768 := by
  unfold rotI
  simp only [Nat.reduceSub, Nat.reduceAdd, Int.reducePow]
  obtain ⟨q, hq⟩ : ∃ q, v / 16384 = q := ⟨_, rfl⟩
  obtain ⟨s, hs⟩ : ∃ s, v % 8192 = s := ⟨_, rfl⟩
  obtain ⟨b, hb⟩ : ∃ b, v / 8192 % 2 = b := ⟨_, rfl⟩
  have hv : v = q * 16384 + b * 8192 + s := by omega
  have e1 : v / 8192 = 2 * q + b := by omega
  have e2 : v % 16384 = b * 8192 + s := by omega
  have hb2 : 0 ≤ b ∧ b ≤ 1 := by omega
  have hq2 : 0 ≤ q ∧ q < 2 := by omega
  have hs2 : 0 ≤ s ∧ s < 8192 := by omega
  rw [hq, e2, e1, hs]
  have e3 : (q + (b * 8192 + s) * 2) % 16384 = s * 2 + q := by omega
  have e5 : (q + (b * 8192 + s) * 2) % 32768 = q + (b * 8192 + s) * 2 := by omega
  have e4 : (q + (b * 8192 + s) * 2) % 32768 / 16384 = b := by rw [e5]; omega
  unfold clI
  rw [e3, e4]
  refine ⟨by omega, by omega, by omega⟩
theorem rot_s2 (v : Int) (h0 : 0 ≤ v) (h1 : v < 32768) : clI (rotI 2 v) = rotI (2 + 1) v ∧ 0 ≤ rotI 2 v ∧ rotI 2 v < 32768 := by
  unfold rotI
  simp only [Nat.reduceSub, Nat.reduceAdd, Int.reducePow]
  obtain ⟨q, hq⟩ : ∃ q, v / 8192 = q := ⟨_, rfl⟩
  obtain ⟨s, hs⟩ : ∃ s, v % 4096 = s := ⟨_, rfl⟩
  obtain ⟨b, hb⟩ : ∃ b, v / 4096 % 2 = b := ⟨_, rfl⟩
  have hv : v = q * 8192 + b * 4096 + s := by omega
  have e1 : v / 4096 = 2 * q + b := by omega
  have e2 : v % 8192 = b * 4096 + s := by omega
  have hb2 : 0 ≤ b ∧ b ≤ 1 := by omega
  have hq2 : 0 ≤ q ∧ q < 4 := by omega
  have hs2 : 0 ≤ s ∧ s < 4096 := by omega
  rw [hq, e2, e1, hs]
  have e3 : (q + (b * 4096 + s) * 4) % 16384 = s * 4 + q := by omega
  have e5 : (q + (b * 4096 + s) * 4) % 32768 = q + (b * 4096 + s) * 4 := by omega
  have e4 : (q + (b * 4096 + s) * 4) % 32768 / 16384 = b := by rw [e5]; omega
  unfold clI
  rw [e3, e4]
  refine ⟨by omega, by omega, by omega⟩
theorem rot_s3 (v : Int) (h0 : 0 ≤ v) (h1 : v < 32768) : clI (rotI 3 v) = rotI (3 + 1) v ∧ 0 ≤ rotI 3 v ∧ rotI 3 v < 32768 := by
  unfold rotI
  simp only [Nat.reduceSub, Nat.reduceAdd, Int.reducePow]
  obtain ⟨q, hq⟩ : ∃ q, v / 4096 = q := ⟨_, rfl⟩
  obtain ⟨s, hs⟩ : ∃ s, v % 2048 = s := ⟨_, rfl⟩
  obtain ⟨b, hb⟩ : ∃ b, v / 2048 % 2 = b := ⟨_, rfl⟩
  have hv : v = q * 4096 + b * 2048 + s := by omega
  have e1 : v / 2048 = 2 * q + b := by omega
  have e2 : v % 4096 = b * 2048 + s := by omega
  have hb2 : 0 ≤ b ∧ b ≤ 1 := by omega
  have hq2 : 0 ≤ q ∧ q < 8 := by omega
  have hs2 : 0 ≤ s ∧ s < 2048 := by omega
  rw [hq, e2, e1, hs]
  have e3 : (q + (b * 2048 + s) * 8) % 16384 = s * 8 + q := by omega
  have e5 : (q + (b * 2048 + s) * 8) % 32768 = q + (b * 2048 + s) * 8 := by omega
  have e4 : (q + (b * 2048 + s) * 8) % 32768 / 16384 = b := by rw [e5]; omega
  unfold clI
  rw [e3, e4]
  refine ⟨by omega, by omega, by omega⟩
theorem rot_s4 (v : Int) (h0 : 0 ≤ v) (h1 : v < 32768) : clI (rotI 4 v) = rotI (4 + 1) v ∧ 0 ≤ rotI 4 v ∧ rotI 4 v < 32768 := by
  unfold rotI
  simp only [Nat.reduceSub, Nat.reduceAdd, Int.reducePow]
  obtain ⟨q, hq⟩ : ∃ q, v / 2048 = q := ⟨_, rfl⟩
  obtain ⟨s, hs⟩ : ∃ s, v % 1024 = s := ⟨_, rfl⟩
  obtain ⟨b, hb⟩ : ∃ b, v / 1024 % 2 = b := ⟨_, rfl⟩
  have hv : v = q * 2048 + b * 1024 + s := by omega
  have e1 : v / 1024 = 2 * q + b := by omega
  have e2 : v % 2048 = b * 1024 + s := by omega
  have hb2 : 0 ≤ b ∧ b ≤ 1 := by omega
  have hq2 : 0 ≤ q ∧ q < 16 := by omega
  have hs2 : 0 ≤ s ∧ s < 1024 := by omega
  rw [hq, e2, e1, hs]
  have e3 : (q + (b * 1024 + s) * 16) % 16384 = s * 16 + q := by omega
  have e5 : (q + (b * 1024 + s) * 16) % 32768 = q + (b * 1024 + s) * 16 := by omega
  have e4 : (q + (b * 1024 + s) * 16) % 32768 / 16384 = b := by rw [e5]; omega
  unfold clI
  rw [e3, e4]
  refine ⟨by omega, by omega, by omega⟩
theorem rot_s5 (v : Int) (h0 : 0 ≤ v) (h1 : v < 32768) : clI (rotI 5 v) = rotI (5 + 1) v ∧ 0 ≤ rotI 5 v ∧ rotI 5 v < 32768 := by
  unfold rotI
  simp only [Nat.reduceSub, Nat.reduceAdd, Int.reducePow]
  obtain ⟨q, hq⟩ : ∃ q, v / 1024 = q := ⟨_, rfl⟩
  obtain ⟨s, hs⟩ : ∃ s, v % 512 = s := ⟨_, rfl⟩
  obtain ⟨b, hb⟩ : ∃ b, v / 512 % 2 = b := ⟨_, rfl⟩
  have hv : v = q * 1024 + b * 512 + s := by omega
  have e1 : v / 512 = 2 * q + b := by omega
  have e2 : v % 1024 = b * 512 + s := by omega
  have hb2 : 0 ≤ b ∧ b ≤ 1 := by omega
  have hq2 : 0 ≤ q ∧ q < 32 := by omega
  have hs2 : 0 ≤ s ∧ s < 512 := by omega
  rw [hq, e2, e1, hs]
  have e3 : (q + (b * 512 + s) * 32) % 16384 = s * 32 + q := by omega
  have e5 : (q + (b * 512 + s) * 32) % 32768 = q + (b * 512 + s) * 32 := by omega
  have e4 : (q + (b * 512 + s) * 32) % 32768 / 16384 = b := by rw [e5]; omega
  unfold clI
  rw [e3, e4]
  refine ⟨by omega, by omega, by omega⟩
theorem rot_s6 (v : Int) (h0 : 0 ≤ v) (h1 : v < 32768) : clI (rotI 6 v) = rotI (6 + 1) v ∧ 0 ≤ rotI 6 v ∧ rotI 6 v < 32768 := by
  unfold rotI
  simp only [Nat.reduceSub, Nat.reduceAdd, Int.reducePow]
  obtain ⟨q, hq⟩ : ∃ q, v / 512 = q := ⟨_, rfl⟩
  obtain ⟨s, hs⟩ : ∃ s, v % 256 = s := ⟨_, rfl⟩
  obtain ⟨b, hb⟩ : ∃ b, v / 256 % 2 = b := ⟨_, rfl⟩
  have hv : v = q * 512 + b * 256 + s := by omega
  have e1 : v / 256 = 2 * q + b := by omega
  have e2 : v % 512 = b * 256 + s := by omega
  have hb2 : 0 ≤ b ∧ b ≤ 1 := by omega
  have hq2 : 0 ≤ q ∧ q < 64 := by omega
  have hs2 : 0 ≤ s ∧ s < 256 := by omega
  rw [hq, e2, e1, hs]
  have e3 : (q + (b * 256 + s) * 64) % 16384 = s * 64 + q := by omega
  have e5 : (q + (b * 256 + s) * 64) % 32768 = q + (b * 256 + s) * 64 := by omega
  have e4 : (q + (b * 256 + s) * 64) % 32768 / 16384 = b := by rw [e5]; omega
  unfold clI
  rw [e3, e4]
  refine ⟨by omega, by omega, by omega⟩
theorem rot_s7 (v : Int) (h0 : 0 ≤ v) (h1 : v < 32768) : clI (rotI 7 v) = rotI (7 + 1) v ∧ 0 ≤ rotI 7 v ∧ rotI 7 v < 32768 := by
  unfold rotI
  simp only [Nat.reduceSub, Nat.reduceAdd, Int.reducePow]
  obtain ⟨q, hq⟩ : ∃ q, v / 256 = q := ⟨_, rfl⟩
  obtain ⟨s, hs⟩ : ∃ s, v % 128 = s := ⟨_, rfl⟩
  obtain ⟨b, hb⟩ : ∃ b, v / 128 % 2 = b := ⟨_, rfl⟩
  have hv : v = q * 256 + b * 128 + s := by omega
  have e1 : v / 128 = 2 * q + b := by omega
  have e2 : v % 256 = b * 128 + s := by omega
  have hb2 : 0 ≤ b ∧ b ≤ 1 := by omega
  have hq2 : 0 ≤ q ∧ q < 128 := by omega
  have hs2 : 0 ≤ s ∧ s < 128 := by omega
  rw [hq, e2, e1, hs]
  have e3 : (q + (b * 128 + s) * 128) % 16384 = s * 128 + q := by omega
  have e5 : (q + (b * 128 + s) * 128) % 32768 = q + (b * 128 + s) * 128 := by omega
  have e4 : (q + (b * 128 + s) * 128) % 32768 / 16384 = b := by rw [e5]; omega
  unfold clI
  rw [e3, e4]
  refine ⟨by omega, by omega, by omega⟩
theorem rot_s8 (v : Int) (h0 : 0 ≤ v) (h1 : v < 32768) : clI (rotI 8 v) = rotI (8 + 1) v ∧ 0 ≤ rotI 8 v ∧ rotI 8 v < 32768 := by
  unfold rotI
  simp only [Nat.reduceSub, Nat.reduceAdd, Int.reducePow]
  obtain ⟨q, hq⟩ : ∃ q, v / 128 = q := ⟨_, rfl⟩
  obtain ⟨s, hs⟩ : ∃ s, v % 64 = s := ⟨_, rfl⟩
  obtain ⟨b, hb⟩ : ∃ b, v / 64 % 2 = b := ⟨_, rfl⟩
  have hv : v = q * 128 + b * 64 + s := by omega
  have e1 : v / 64 = 2 * q + b := by omega
  have e2 : v % 128 = b * 64 + s := by omega
  have hb2 : 0 ≤ b ∧ b ≤ 1 := by omega
  have hq2 : 0 ≤ q ∧ q < 256 := by omega
  have hs2 : 0 ≤ s ∧ s < 64 := by omega
  rw [hq, e2, e1, hs]
  have e3 : (q + (b * 64 + s) * 256) % 16384 = s * 256 + q := by omega
  have e5 : (q + (b * 64 + s) * 256) % 32768 = q + (b * 64 + s) * 256 := by omega
  have e4 : (q + (b * 64 + s) * 256) % 32768 / 16384 = b := by rw [e5]; omega
  unfold clI
  rw [e3, e4]
  refine ⟨by omega, by omega, by omega⟩
theorem rot_s9 (v : Int) (h0 : 0 ≤ v) (h1 : v < 32768) : clI (rotI 9 v) = rotI (9 + 1) v ∧ 0 ≤ rotI 9 v ∧ rotI 9 v < 32768 := by
  unfold rotI
  simp only [Nat.reduceSub, Nat.reduceAdd, Int.reducePow]
  obtain ⟨q, hq⟩ : ∃ q, v / 64 = q := ⟨_, rfl⟩
  obtain ⟨s, hs⟩ : ∃ s, v % 32 = s := ⟨_, rfl⟩
  obtain ⟨b, hb⟩ : ∃ b, v / 32 % 2 = b := ⟨_, rfl⟩
  have hv : v = q * 64 + b * 32 + s := by omega
  have e1 : v / 32 = 2 * q + b := by omega
  have e2 : v % 64 = b * 32 + s := by omega
  have hb2 : 0 ≤ b ∧ b ≤ 1 := by omega
  have hq2 : 0 ≤ q ∧ q < 512 := by omega
  have hs2 : 0 ≤ s ∧ s < 32 := by omega
  rw [hq, e2, e1, hs]
  have e3 : (q + (b * 32 + s) * 512) % 16384 = s * 512 + q := by omega
  have e5 : (q + (b * 32 + s) * 512) % 32768 = q + (b * 32 + s) * 512 := by omega
  have e4 : (q + (b * 32 + s) * 512) % 32768 / 16384 = b := by rw [e5]; omega
  unfold clI
  rw [e3, e4]
  refine ⟨by omega, by omega, by omega⟩
theorem rot_s10 (v : Int) (h0 : 0 ≤ v) (h1 : v < 32768) : clI (rotI 10 v) = rotI (10 + 1) v ∧ 0 ≤ rotI 10 v ∧ rotI 10 v < 32768 := by
  unfold rotI
  simp only [Nat.reduceSub, Nat.reduceAdd, Int.reducePow]
  obtain ⟨q, hq⟩ : ∃ q, v / 32 = q := ⟨_, rfl⟩
  obtain ⟨s, hs⟩ : ∃ s, v % 16 = s := ⟨_, rfl⟩
  obtain ⟨b, hb⟩ : ∃ b, v / 16 % 2 = b := ⟨_, rfl⟩
  have hv : v = q * 32 + b * 16 + s := by omega
  have e1 : v / 16 = 2 * q + b := by omega
  have e2 : v % 32 = b * 16 + s := by omega
  have hb2 : 0 ≤ b ∧ b ≤ 1 := by omega
  have hq2 : 0 ≤ q ∧ q < 1024 := by omega
  have hs2 : 0 ≤ s ∧ s < 16 := by omega
  rw [hq, e2, e1, hs]
  have e3 : (q + (b * 16 + s) * 1024) % 16384 = s * 1024 + q := by omega
  have e5 : (q + (b * 16 + s) * 1024) % 32768 = q + (b * 16 + s) * 1024 := by omega
  have e4 : (q + (b * 16 + s) * 1024) % 32768 / 16384 = b := by rw [e5]; omega
  unfold clI
  rw [e3, e4]
  refine ⟨by omega, by omega, by omega⟩
theorem rot_s11 (v : Int) (h0 : 0 ≤ v) (h1 : v < 32768) : clI (rotI 11 v) = rotI (11 + 1) v ∧ 0 ≤ rotI 11 v ∧ rotI 11 v < 32768 := by
  unfold rotI
  simp only [Nat.reduceSub, Nat.reduceAdd, Int.reducePow]
  obtain ⟨q, hq⟩ : ∃ q, v / 16 = q := ⟨_, rfl⟩
  obtain ⟨s, hs⟩ : ∃ s, v % 8 = s := ⟨_, rfl⟩
  obtain ⟨b, hb⟩ : ∃ b, v / 8 % 2 = b := ⟨_, rfl⟩
  have hv : v = q * 16 + b * 8 + s := by omega
  have e1 : v / 8 = 2 * q + b := by omega
  have e2 : v % 16 = b * 8 + s := by omega
  have hb2 : 0 ≤ b ∧ b ≤ 1 := by omega
  have hq2 : 0 ≤ q ∧ q < 2048 := by omega
  have hs2 : 0 ≤ s ∧ s < 8 := by omega
  rw [hq, e2, e1, hs]
  have e3 : (q + (b * 8 + s) * 2048) % 16384 = s * 2048 + q := by omega
  have e5 : (q + (b * 8 + s) * 2048) % 32768 = q + (b * 8 + s) * 2048 := by omega
  have e4 : (q + (b * 8 + s) * 2048) % 32768 / 16384 = b := by rw [e5]; omega
  unfold clI
  rw [e3, e4]
  refine ⟨by omega, by omega, by omega⟩
theorem rot_s12 (v : Int) (h0 : 0 ≤ v) (h1 : v < 32768) : clI (rotI 12 v) = rotI (12 + 1) v ∧ 0 ≤ rotI 12 v ∧ rotI 12 v < 32768 := by
  unfold rotI
  simp only [Nat.reduceSub, Nat.reduceAdd, Int.reducePow]
  obtain ⟨q, hq⟩ : ∃ q, v / 8 = q := ⟨_, rfl⟩
  obtain ⟨s, hs⟩ : ∃ s, v % 4 = s := ⟨_, rfl⟩
  obtain ⟨b, hb⟩ : ∃ b, v / 4 % 2 = b := ⟨_, rfl⟩
  have hv : v = q * 8 + b * 4 + s := by omega
  have e1 : v / 4 = 2 * q + b := by omega
  have e2 : v % 8 = b * 4 + s := by omega
  have hb2 : 0 ≤ b ∧ b ≤ 1 := by omega
  have hq2 : 0 ≤ q ∧ q < 4096 := by omega
  have hs2 : 0 ≤ s ∧ s < 4 := by omega
  rw [hq, e2, e1, hs]
  have e3 : (q + (b * 4 + s) * 4096) % 16384 = s * 4096 + q := by omega
  have e5 : (q + (b * 4 + s) * 4096) % 32768 = q + (b * 4 + s) * 4096 := by omega
  have e4 : (q + (b * 4 + s) * 4096) % 32768 / 16384 = b := by rw [e5]; omega
  unfold clI
  rw [e3, e4]
  refine ⟨by omega, by omega, by omega⟩
theorem rot_s13 (v : Int) (h0 : 0 ≤ v) (h1 : v < 32768) : clI (rotI 13 v) = rotI (13 + 1) v ∧ 0 ≤ rotI 13 v ∧ rotI 13 v < 32768 := by
  unfold rotI
  simp only [Nat.reduceSub, Nat.reduceAdd, Int.reducePow]
  obtain ⟨q, hq⟩ : ∃ q, v / 4 = q := ⟨_, rfl⟩
  obtain ⟨s, hs⟩ : ∃ s, v % 2 = s := ⟨_, rfl⟩
  obtain ⟨b, hb⟩ : ∃ b, v / 2 % 2 = b := ⟨_, rfl⟩
  have hv : v = q * 4 + b * 2 + s := by omega
  have e1 : v / 2 = 2 * q + b := by omega
  have e2 : v % 4 = b * 2 + s := by omega
  have hb2 : 0 ≤ b ∧ b ≤ 1 := by omega
  have hq2 : 0 ≤ q ∧ q < 8192 := by omega
  have hs2 : 0 ≤ s ∧ s < 2 := by omega
  rw [hq, e2, e1, hs]
  have e3 : (q + (b * 2 + s) * 8192) % 16384 = s * 8192 + q := by omega
  have e5 : (q + (b * 2 + s) * 8192) % 32768 = q + (b * 2 + s) * 8192 := by omega
  have e4 : (q + (b * 2 + s) * 8192) % 32768 / 16384 = b := by rw [e5]; omega
  unfold clI
  rw [e3, e4]
  refine ⟨by omega, by omega, by omega⟩
theorem rot_s14 (v : Int) (h0 : 0 ≤ v) (h1 : v < 32768) : clI (rotI 14 v) = rotI (14 + 1) v ∧ 0 ≤ rotI 14 v ∧ rotI 14 v < 32768 := by
  unfold rotI
  simp only [Nat.reduceSub, Nat.reduceAdd, Int.reducePow]
  obtain ⟨q, hq⟩ : ∃ q, v / 2 = q := ⟨_, rfl⟩
  obtain ⟨s, hs⟩ : ∃ s, v % 1 = s := ⟨_, rfl⟩
  obtain ⟨b, hb⟩ : ∃ b, v / 1 % 2 = b := ⟨_, rfl⟩
  have hv : v = q * 2 + b * 1 + s := by omega
  have e1 : v / 1 = 2 * q + b := by omega
  have e2 : v % 2 = b * 1 + s := by omega
  have hb2 : 0 ≤ b ∧ b ≤ 1 := by omega
  have hq2 : 0 ≤ q ∧ q < 16384 := by omega
  have hs2 : 0 ≤ s ∧ s < 1 := by omega
  rw [hq, e2, e1, hs]
  have e3 : (q + (b * 1 + s) * 16384) % 16384 = s * 16384 + q := by omega
  have e5 : (q + (b * 1 + s) * 16384) % 32768 = q + (b * 1 + s) * 16384 := by omega
  have e4 : (q + (b * 1 + s) * 16384) % 32768 / 16384 = b := by rw [e5]; omega
  unfold clI
  rw [e3, e4]
  refine ⟨by omega, by omega, by omega⟩
theorem rot_step (v : Int) (h0 : 0 ≤ v) (h1 : v < 32768) (i : Nat) (hi : i < 15) : clI (rotI i v) = rotI (i + 1) v ∧ 0 ≤ rotI i v ∧ rotI i v < 32768 := by
  rcases (by omega : i = 0 ∨ i = 1 ∨ i = 2 ∨ i = 3 ∨ i = 4 ∨ i = 5 ∨ i = 6 ∨ i = 7 ∨ i = 8 ∨ i = 9 ∨ i = 10 ∨ i = 11 ∨ i = 12 ∨ i = 13 ∨ i = 14) with h | h | h | h | h | h | h | h | h | h | h | h | h | h | h
  · subst h; exact rot_s0 v h0 h1
  · subst h; exact rot_s1 v h0 h1
  · subst h; exact rot_s2 v h0 h1
  · subst h; exact rot_s3 v h0 h1
  · subst h; exact rot_s4 v h0 h1
  · subst h; exact rot_s5 v h0 h1
  · subst h; exact rot_s6 v h0 h1
  · subst h; exact rot_s7 v h0 h1
  · subst h; exact rot_s8 v h0 h1
  · subst h; exact rot_s9 v h0 h1
  · subst h; exact rot_s10 v h0 h1
  · subst h; exact rot_s11 v h0 h1
  · subst h; exact rot_s12 v h0 h1
  · subst h; exact rot_s13 v h0 h1
  · subst h; exact rot_s14 v h0 h1
theorem cl_form (v : Int) (h0 : 0 ≤ v) (h1 : v < 32768) : clI v = v % 16384 * 2 + v / 16384 := by unfold clI; omega
theorem cr_form (v : Int) (h0 : 0 ≤ v) (h1 : v < 32768) : crI v = v % 2 * 16384 + v / 2 := by unfold crI; omega
theorem crcl (v : Int) (h0 : 0 ≤ v) (h1 : v < 32768) : crI (clI v) = v := by
  rw [cl_form v h0 h1, cr_form _ (by omega) (by omega)]
  obtain ⟨b, hb⟩ : ∃ b, v / 16384 = b := ⟨_, rfl⟩
  obtain ⟨s, hs⟩ : ∃ s, v % 16384 = s := ⟨_, rfl⟩
  have e1 : (s * 2 + b) % 2 = b := by omega
  have e2 : (s * 2 + b) / 2 = s := by omega
  rw [hb, hs, e1, e2]; omega
theorem clcr (v : Int) (h0 : 0 ≤ v) (h1 : v < 32768) : clI (crI v) = v := by
  rw [cr_form v h0 h1, cl_form _ (by omega) (by omega)]
  obtain ⟨b, hb⟩ : ∃ b, v % 2 = b := ⟨_, rfl⟩
  obtain ⟨s, hs⟩ : ∃ s, v / 2 = s := ⟨_, rfl⟩
  have e1 : (b * 16384 + s) % 16384 = s := by omega
  have e2 : (b * 16384 + s) / 16384 = b := by omega
  rw [hb, hs, e1, e2]; omega
theorem back_plain (v : Int) (h0 : 0 ≤ v) (h1 : v < 32768) : negI (negI v) = v ∧ crI (clI v) = v ∧ clI (crI v) = v ∧ addI v (negI v) = 32767 ∧ (v ≠ 32767 → ofI (valI v) = v) ∧ ofE (valI v) = 0 ∧ 0 ≤ negI v ∧ negI v < 32768 ∧ 0 ≤ clI v ∧ clI v < 32768 ∧ 0 ≤ crI v ∧ crI v < 32768 := by
  refine ⟨?_, crcl v h0 h1, clcr v h0 h1, ?_, ?_, ?_, ?_, ?_, ?_, ?_, ?_, ?_⟩
  all_goals (first | unfold negI | skip)
  all_goals (first | unfold addI | skip)
  all_goals (first | unfold ofI | skip)
  all_goals (first | unfold ofE | skip)
  all_goals (first | unfold valI | skip)
  all_goals (first | rw [cl_form v h0 h1] | rw [cr_form v h0 h1] | skip)
  all_goals (repeat' split) <;> omega

set_option maxHeartbeats 1000000 in
theorem back_walk (x v : Int) (x0 : 0 ≤ x) (x1 : x < 65536) (hv : x % 32768 = v) (v0 : 0 ≤ v) (v1 : v < 32768) (hn : v ≠ 32767) (w : World) :
    Calls Try.prog 6 #[.int .u16 x] w fun e w' => e = .returned (.bool true) ∧ Below w.heap.size w w' := by
  have HB := Aside0.mk (Below.refl w.heap.size w)
  have t1 : Int.tmod x 32768 = v := by rw [tmodp x0, hv]
  obtain ⟨f1, f2, f3, f4, f5, f6, f7, f8, f9, f10, f11, f12⟩ := back_plain v v0 v1
  have r0 := Lib.hid (rot_0 v v0 v1)
  replace f1 := Lib.hid f1
  replace f2 := Lib.hid f2
  replace f3 := Lib.hid f3
  replace f4 := Lib.hid f4
  replace f6 := Lib.hid f6
  replace f5 := Lib.hid (f5 hn)
  go_enter Try.func6, Try.ntmps6
  go_wp2
  go_loopg [3, 4] 15 (fun g v3 v4 w' => ∃ i : Nat, v3 = .int .u16 (rotI i v) ∧ v4 = .int .i64 i ∧ Aside0 (i + g = 15) ∧ Aside0 (Below w.heap.size w w'))
  case atStart => exact ⟨0, by rw [r0.out], rfl, ⟨by decide⟩, ⟨by repeat (first | (with_reducible first | exact HB.out | apply below_alloc | apply pw_below_drewN | apply below_drew1) | exact HB.out)⟩⟩
  case round =>
    clear HB
    obtain ⟨i, rfl, rfl, hg, HB⟩ := hrel
    have hg' := hg.out
    by_cases hlt : i < 15
    · obtain ⟨g, rfl⟩ : ∃ g, gk = g + 1 := ⟨gk - 1, by omega⟩
      have b0 : decide ((i : Int) < 15) = true := decide_eq_true (by omega)
      obtain ⟨hs, u0, u1⟩ := rot_step v v0 v1 i hlt
      obtain ⟨u, hu⟩ : ∃ u, rotI i v = u := ⟨_, rfl⟩
      rw [hu] at hs u0 u1 ⊢
      replace hs := Lib.hid hs
      clear hu hg'
      go_wp2_with (first | (go_at_call 13; (with_reducible refine (cl_c u u0 (by omega) _).mono ?_); rintro e w' ⟨rfl, ⟨nd, rfl⟩⟩))
      go_roundg g
      case measure => omega
      case rel => exact ⟨i + 1, by rw [← hs.out], by simp, ⟨by have := hg.out; omega⟩, ⟨by repeat (first | (with_reducible first | exact HB.out | apply below_alloc | apply pw_below_drewN | apply below_drew1) | exact HB.out)⟩⟩
    · obtain rfl : i = 15 := by omega
      rw [rot_15]
      clear hg' hg
      replace f1 := f1.out
      replace f2 := f2.out
      replace f3 := f3.out
      replace f4 := f4.out
      replace f6 := f6.out
      replace f5 := f5.out
      obtain ⟨z, hz⟩ : ∃ z, valI v = z := ⟨_, rfl⟩
      rw [hz] at f5 f6
      have K1 := value_c v v0 (by omega)
      rw [hz] at K1
      replace K1 := Lib.hid K1
      have K2 := of_c z
      rw [f5] at K2
      rw [f6] at K2
      replace K2 := Lib.hid K2
      have K3 := neg_c v v0 (by omega)
      replace K3 := Lib.hid K3
      have K4 := neg_c (negI v) f7 (by omega)
      rw [f1] at K4
      replace K4 := Lib.hid K4
      have K5 := cl_c v v0 (by omega)
      replace K5 := Lib.hid K5
      have K6 := cr_c (clI v) f9 (by omega)
      rw [f2] at K6
      replace K6 := Lib.hid K6
      have K7 := cr_c v v0 (by omega)
      replace K7 := Lib.hid K7
      have K8 := cl_c (crI v) f11 (by omega)
      rw [f3] at K8
      replace K8 := Lib.hid K8
      have K9 := add_c v (negI v) v0 (by omega) f7 (by omega)
      rw [f4] at K9
      replace K9 := Lib.hid K9
      clear f1 f2 f3 f4 f5 f6
      go_wp2_with (first | (go_at_call 26; (with_reducible refine at_args #[.int .u16 v] ?_); (with_reducible refine (K1.out _).mono ?_); rintro e w' ⟨rfl, ⟨nd, rfl⟩⟩) | (go_at_call 24; (with_reducible refine at_args #[.int .i64 z] ?_); (with_reducible refine (K2.out _).mono ?_); rintro e w' ⟨rfl, ⟨nd, rfl⟩⟩) | (go_at_call 28; (with_reducible refine at_args #[.int .u16 v] ?_); (with_reducible refine (K3.out _).mono ?_); rintro e w' ⟨rfl, ⟨nd, rfl⟩⟩) | (go_at_call 28; (with_reducible refine at_args #[.int .u16 (negI v)] ?_); (with_reducible refine (K4.out _).mono ?_); rintro e w' ⟨rfl, ⟨nd, rfl⟩⟩) | (go_at_call 13; (with_reducible refine at_args #[.int .u16 v] ?_); (with_reducible refine (K5.out _).mono ?_); rintro e w' ⟨rfl, ⟨nd, rfl⟩⟩) | (go_at_call 11; (with_reducible refine at_args #[.int .u16 (clI v)] ?_); (with_reducible refine (K6.out _).mono ?_); rintro e w' ⟨rfl, ⟨nd, rfl⟩⟩) | (go_at_call 11; (with_reducible refine at_args #[.int .u16 v] ?_); (with_reducible refine (K7.out _).mono ?_); rintro e w' ⟨rfl, ⟨nd, rfl⟩⟩) | (go_at_call 13; (with_reducible refine at_args #[.int .u16 (crI v)] ?_); (with_reducible refine (K8.out _).mono ?_); rintro e w' ⟨rfl, ⟨nd, rfl⟩⟩) | (go_at_call 30; (with_reducible refine at_args #[.int .u16 v, .int .u16 (negI v)] ?_); (with_reducible refine (K9.out _).mono ?_); rintro e w' ⟨rfl, ⟨nd, rfl⟩⟩) | (go_at_call 23; (with_reducible refine (works_c _).mono ?_); rintro e w' ⟨rfl, hb⟩; have HBn := Aside0.mk (below_step (by repeat (first | (with_reducible first | exact HB.out | apply below_alloc | apply pw_below_drewN | apply below_drew1) | exact HB.out)) hb); clear HB hb; have HB := HBn; clear HBn))
      go_ret
      exact ⟨rfl, by repeat (first | (with_reducible first | exact HB.out | apply below_alloc | apply pw_below_drewN | apply below_drew1) | exact HB.out)⟩

set_option maxHeartbeats 1000000 in
theorem back_zero (x v : Int) (x0 : 0 ≤ x) (x1 : x < 65536) (hv : x % 32768 = v) (v0 : 0 ≤ v) (v1 : v < 32768) (hn : v = 32767) (w : World) :
    Calls Try.prog 6 #[.int .u16 x] w fun e w' => e = .returned (.bool true) ∧ Below w.heap.size w w' := by
  have HB := Aside0.mk (Below.refl w.heap.size w)
  have t1 : Int.tmod x 32768 = v := by rw [tmodp x0, hv]
  obtain ⟨f1, f2, f3, f4, f5, f6, f7, f8, f9, f10, f11, f12⟩ := back_plain v v0 v1
  have r0 := Lib.hid (rot_0 v v0 v1)
  replace f1 := Lib.hid f1
  replace f2 := Lib.hid f2
  replace f3 := Lib.hid f3
  replace f4 := Lib.hid f4
  replace f6 := Lib.hid f6
  have z0 := Lib.hid (show valI v = 0 by rw [hn]; rfl)
  have b1 : (v != 32767) = false := by rw [bne_eq_false_iff_eq]; exact hn
  have b2 : ((0 : Int) != v) = true := by rw [bne_iff_ne]; omega
  have b3 : (v == 32767) = true := beq_iff_eq.mpr hn
  have b4 : ((0 : Int) == v) = false := by rw [beq_eq_false_iff_ne]; omega
  replace f5 := trivial
  replace hn := Lib.hid hn
  go_enter Try.func6, Try.ntmps6
  go_wp2
  go_loopg [3, 4] 15 (fun g v3 v4 w' => ∃ i : Nat, v3 = .int .u16 (rotI i v) ∧ v4 = .int .i64 i ∧ Aside0 (i + g = 15) ∧ Aside0 (Below w.heap.size w w'))
  case atStart => exact ⟨0, by rw [r0.out], rfl, ⟨by decide⟩, ⟨by repeat (first | (with_reducible first | exact HB.out | apply below_alloc | apply pw_below_drewN | apply below_drew1) | exact HB.out)⟩⟩
  case round =>
    clear HB
    obtain ⟨i, rfl, rfl, hg, HB⟩ := hrel
    have hg' := hg.out
    by_cases hlt : i < 15
    · obtain ⟨g, rfl⟩ : ∃ g, gk = g + 1 := ⟨gk - 1, by omega⟩
      have b0 : decide ((i : Int) < 15) = true := decide_eq_true (by omega)
      obtain ⟨hs, u0, u1⟩ := rot_step v v0 v1 i hlt
      obtain ⟨u, hu⟩ : ∃ u, rotI i v = u := ⟨_, rfl⟩
      rw [hu] at hs u0 u1 ⊢
      replace hs := Lib.hid hs
      clear hu hg'
      go_wp2_with (first | (go_at_call 13; (with_reducible refine (cl_c u u0 (by omega) _).mono ?_); rintro e w' ⟨rfl, ⟨nd, rfl⟩⟩))
      go_roundg g
      case measure => omega
      case rel => exact ⟨i + 1, by rw [← hs.out], by simp, ⟨by have := hg.out; omega⟩, ⟨by repeat (first | (with_reducible first | exact HB.out | apply below_alloc | apply pw_below_drewN | apply below_drew1) | exact HB.out)⟩⟩
    · obtain rfl : i = 15 := by omega
      rw [rot_15]
      clear hg' hg
      replace f1 := f1.out
      replace f2 := f2.out
      replace f3 := f3.out
      replace f4 := f4.out
      replace f6 := f6.out
      have K1 := value_c v v0 (by omega)
      rw [z0.out] at K1
      replace K1 := Lib.hid K1
      have K2 := of_c 0
      rw [show ofI 0 = 0 from rfl] at K2
      rw [show ofE 0 = 0 from rfl] at K2
      replace K2 := Lib.hid K2
      have K3 := neg_c v v0 (by omega)
      replace K3 := Lib.hid K3
      have K4 := neg_c (negI v) f7 (by omega)
      rw [f1] at K4
      replace K4 := Lib.hid K4
      have K5 := cl_c v v0 (by omega)
      replace K5 := Lib.hid K5
      have K6 := cr_c (clI v) f9 (by omega)
      rw [f2] at K6
      replace K6 := Lib.hid K6
      have K7 := cr_c v v0 (by omega)
      replace K7 := Lib.hid K7
      have K8 := cl_c (crI v) f11 (by omega)
      rw [f3] at K8
      replace K8 := Lib.hid K8
      have K9 := add_c v (negI v) v0 (by omega) f7 (by omega)
      rw [f4] at K9
      replace K9 := Lib.hid K9
      clear f1 f2 f3 f4 f5 f6
      go_wp2_with (first | (go_at_call 26; (with_reducible refine at_args #[.int .u16 v] ?_); (with_reducible refine (K1.out _).mono ?_); rintro e w' ⟨rfl, ⟨nd, rfl⟩⟩) | (go_at_call 24; (with_reducible refine at_args #[.int .i64 0] ?_); (with_reducible refine (K2.out _).mono ?_); rintro e w' ⟨rfl, ⟨nd, rfl⟩⟩) | (go_at_call 28; (with_reducible refine at_args #[.int .u16 v] ?_); (with_reducible refine (K3.out _).mono ?_); rintro e w' ⟨rfl, ⟨nd, rfl⟩⟩) | (go_at_call 28; (with_reducible refine at_args #[.int .u16 (negI v)] ?_); (with_reducible refine (K4.out _).mono ?_); rintro e w' ⟨rfl, ⟨nd, rfl⟩⟩) | (go_at_call 13; (with_reducible refine at_args #[.int .u16 v] ?_); (with_reducible refine (K5.out _).mono ?_); rintro e w' ⟨rfl, ⟨nd, rfl⟩⟩) | (go_at_call 11; (with_reducible refine at_args #[.int .u16 (clI v)] ?_); (with_reducible refine (K6.out _).mono ?_); rintro e w' ⟨rfl, ⟨nd, rfl⟩⟩) | (go_at_call 11; (with_reducible refine at_args #[.int .u16 v] ?_); (with_reducible refine (K7.out _).mono ?_); rintro e w' ⟨rfl, ⟨nd, rfl⟩⟩) | (go_at_call 13; (with_reducible refine at_args #[.int .u16 (crI v)] ?_); (with_reducible refine (K8.out _).mono ?_); rintro e w' ⟨rfl, ⟨nd, rfl⟩⟩) | (go_at_call 30; (with_reducible refine at_args #[.int .u16 v, .int .u16 (negI v)] ?_); (with_reducible refine (K9.out _).mono ?_); rintro e w' ⟨rfl, ⟨nd, rfl⟩⟩) | (go_at_call 23; (with_reducible refine (works_c _).mono ?_); rintro e w' ⟨rfl, hb⟩; have HBn := Aside0.mk (below_step (by repeat (first | (with_reducible first | exact HB.out | apply below_alloc | apply pw_below_drewN | apply below_drew1) | exact HB.out)) hb); clear HB hb; have HB := HBn; clear HBn))
      go_ret
      exact ⟨rfl, by repeat (first | (with_reducible first | exact HB.out | apply below_alloc | apply pw_below_drewN | apply below_drew1) | exact HB.out)⟩

theorem back_law (a0 : Int) (w : World) (w0 : (Lit.int .u16 a0).wf = true) :
    Calls Try.prog 6 #[.int .u16 a0] w fun e w' => e = .returned (.bool true) ∧ Below w.heap.size w w' := by
  obtain ⟨n, rfl, hn⟩ := wf16 w0
  by_cases c : (n : Int) % 32768 = 32767
  · exact back_zero n ((n : Int) % 32768) (by omega) (by omega) rfl (by omega) (by omega) c w
  · exact back_walk n ((n : Int) % 32768) (by omega) (by omega) rfl (by omega) (by omega) c w

theorem angles_plain (x y : Int) (x0 : 0 ≤ x) (x1 : x < 65536) (y0 : 0 ≤ y) (y1 : y < 65536) :
    0 ≤ tdI x y ∧ tdI x y < 32768 ∧ ((x % 32768 - y % 32768 + 32768) % 32768 = 16384 → valI (tdI x y) = -16383) ∧
    ((x % 32768 - y % 32768 + 32768) % 32768 ≠ 16384 → (y % 32768 + valI (tdI x y) + 32768) % 32768 = x % 32768) ∧ -16383 ≤ valI (tdI x y) ∧ valI (tdI x y) ≤ 16383 := by
  unfold tdI valI
  refine ⟨?_, ?_, ?_, ?_, ?_, ?_⟩
  all_goals (repeat' split) <;> omega

set_option maxHeartbeats 1000000 in
theorem angles_half (x y : Int) (x0 : 0 ≤ x) (x1 : x < 65536) (y0 : 0 ≤ y) (y1 : y < 65536) (hs : (x % 32768 - y % 32768 + 32768) % 32768 = 16384) (w : World) :
    Calls Try.prog 7 #[.int .u16 x, .int .u16 y] w fun e w' => e = .returned (.bool true) ∧ Below w.heap.size w w' := by
  have HB := Aside0.mk (Below.refl w.heap.size w)
  obtain ⟨f1, f2, f3, f4, f5, f6⟩ := angles_plain x y x0 x1 y0 y1
  obtain ⟨a, ha⟩ : ∃ a, x % 32768 = a := ⟨_, rfl⟩
  obtain ⟨b, hb⟩ : ∃ b, y % 32768 = b := ⟨_, rfl⟩
  have t1 : Int.tmod x 32768 = a := by rw [tmodp x0, ha]
  have t2 : Int.tmod y 32768 = b := by rw [tmodp y0, hb]
  have a0 : 0 ≤ a ∧ a < 32768 := by omega
  have b0 : 0 ≤ b ∧ b < 32768 := by omega
  obtain ⟨a0, a1⟩ := a0
  obtain ⟨b0, b1⟩ := b0
  rw [ha, hb] at f3 f4
  rw [ha, hb] at hs
  have h3 := f3 hs
  have b2 : ((a - b + 32768) % 32768 == 16384) = true := beq_iff_eq.mpr hs
  have b3 : ((a - b) % 32768 == 16384) = true := by rw [beq_iff_eq]; omega
  have K1 := td_c x y x0 x1 y0 y1
  replace K1 := Lib.hid K1
  have K2 := value_c (tdI x y) f1 (by omega)
  rw [h3] at K2
  replace K2 := Lib.hid K2
  clear f2 f3 f4 hs
  go_enter Try.func7, Try.ntmps7
  go_wp2_with (first | (go_at_call 21; (with_reducible refine at_args #[.int .u16 x, .int .u16 y] ?_); (with_reducible refine (K1.out _).mono ?_); rintro e w' ⟨rfl, ⟨nd, rfl⟩⟩) | (go_at_call 26; (with_reducible refine at_args #[.int .u16 (tdI x y)] ?_); (with_reducible refine (K2.out _).mono ?_); rintro e w' ⟨rfl, ⟨nd, rfl⟩⟩) | (go_at_call 23; (with_reducible refine (works_c _).mono ?_); rintro e w' ⟨rfl, hb⟩; have HBn := Aside0.mk (below_step (by repeat (first | (with_reducible first | exact HB.out | apply below_alloc | apply pw_below_drewN | apply below_drew1) | exact HB.out)) hb); clear HB hb; have HB := HBn; clear HBn))
  go_ret
  exact ⟨rfl, by repeat (first | (with_reducible first | exact HB.out | apply below_alloc | apply pw_below_drewN | apply below_drew1) | exact HB.out)⟩

set_option maxHeartbeats 1000000 in
theorem angles_else (x y : Int) (x0 : 0 ≤ x) (x1 : x < 65536) (y0 : 0 ≤ y) (y1 : y < 65536) (hs : (x % 32768 - y % 32768 + 32768) % 32768 ≠ 16384) (w : World) :
    Calls Try.prog 7 #[.int .u16 x, .int .u16 y] w fun e w' => e = .returned (.bool true) ∧ Below w.heap.size w w' := by
  have HB := Aside0.mk (Below.refl w.heap.size w)
  obtain ⟨f1, f2, f3, f4, f5, f6⟩ := angles_plain x y x0 x1 y0 y1
  obtain ⟨a, ha⟩ : ∃ a, x % 32768 = a := ⟨_, rfl⟩
  obtain ⟨b, hb⟩ : ∃ b, y % 32768 = b := ⟨_, rfl⟩
  have t1 : Int.tmod x 32768 = a := by rw [tmodp x0, ha]
  have t2 : Int.tmod y 32768 = b := by rw [tmodp y0, hb]
  have a0 : 0 ≤ a ∧ a < 32768 := by omega
  have b0 : 0 ≤ b ∧ b < 32768 := by omega
  obtain ⟨a0, a1⟩ := a0
  obtain ⟨b0, b1⟩ := b0
  rw [ha, hb] at f3 f4
  rw [ha, hb] at hs
  have h4 := f4 hs
  obtain ⟨d, hd⟩ : ∃ d, valI (tdI x y) = d := ⟨_, rfl⟩
  rw [hd] at h4 f5 f6
  have b2 : ((a - b + 32768) % 32768 == 16384) = false := beq_eq_false_iff_ne.mpr hs
  have b3 : ((b + d + 32768) % 32768 == a) = true := beq_iff_eq.mpr h4
  have b4 : ((a - b) % 32768 == 16384) = false := by rw [beq_eq_false_iff_ne]; omega
  have b5 : ((b + d) % 32768 == a) = true := by rw [beq_iff_eq]; omega
  have b6 : decide (-16383 ≤ d) = true := decide_eq_true f5
  have b7 : decide (d ≤ 16383) = true := decide_eq_true f6
  have K1 := td_c x y x0 x1 y0 y1
  replace K1 := Lib.hid K1
  have K2 := value_c (tdI x y) f1 (by omega)
  rw [hd] at K2
  replace K2 := Lib.hid K2
  clear f2 f3 f4 hs
  go_enter Try.func7, Try.ntmps7
  go_wp2_with (first | (go_at_call 21; (with_reducible refine at_args #[.int .u16 x, .int .u16 y] ?_); (with_reducible refine (K1.out _).mono ?_); rintro e w' ⟨rfl, ⟨nd, rfl⟩⟩) | (go_at_call 26; (with_reducible refine at_args #[.int .u16 (tdI x y)] ?_); (with_reducible refine (K2.out _).mono ?_); rintro e w' ⟨rfl, ⟨nd, rfl⟩⟩) | (go_at_call 23; (with_reducible refine (works_c _).mono ?_); rintro e w' ⟨rfl, hb⟩; have HBn := Aside0.mk (below_step (by repeat (first | (with_reducible first | exact HB.out | apply below_alloc | apply pw_below_drewN | apply below_drew1) | exact HB.out)) hb); clear HB hb; have HB := HBn; clear HBn))
  go_ret
  exact ⟨rfl, by repeat (first | (with_reducible first | exact HB.out | apply below_alloc | apply pw_below_drewN | apply below_drew1) | exact HB.out)⟩

theorem angles_law (a0 a1 : Int) (w : World) (w0 : (Lit.int .u16 a0).wf = true) (w1 : (Lit.int .u16 a1).wf = true) :
    Calls Try.prog 7 #[.int .u16 a0, .int .u16 a1] w fun e w' => e = .returned (.bool true) ∧ Below w.heap.size w w' := by
  obtain ⟨n, rfl, hn⟩ := wf16 w0
  obtain ⟨m, rfl, hm⟩ := wf16 w1
  by_cases c : ((n : Int) % 32768 - (m : Int) % 32768 + 32768) % 32768 = 16384
  · exact angles_half _ _ (by omega) (by omega) (by omega) (by omega) c w
  · exact angles_else _ _ (by omega) (by omega) (by omega) (by omega) c w
theorem edits_law (a0 a1 a2 : Int) (w : World) (w0 : (Lit.int .i64 a0).wf = true) (w1 : (Lit.int .u16 a1).wf = true) (w2 : (Lit.int .u16 a2).wf = true) :
    Calls Try.prog 3 #[.int .i64 a0, .int .u16 a1, .int .u16 a2] w fun e w' => e = .returned (.bool true) ∧ Below w.heap.size w w' := by
  obtain ⟨n, rfl, hn⟩ := wf16 w1
  obtain ⟨m, rfl, hm⟩ := wf16 w2
  exact edits_walk a0 _ _ (by omega) (by omega) (by omega) (by omega) w
end Go.Proofs.Ytipcnefiadnlmaa.L01
