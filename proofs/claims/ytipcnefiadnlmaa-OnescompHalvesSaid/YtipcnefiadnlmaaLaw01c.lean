/- The walks of Halves and Known of chapter 1: each returns true; no condition but the ranges of the kinds. -/
import Derived.Test.YtipcnefiadnlmaaLaw01a
namespace Go.Proofs.Ytipcnefiadnlmaa.L01
open Go.RowKit Go.Proofs.Ytipcnefiadnlmaa.PAll Go.Proofs.Ytipcnefiadnlmaa.One Go.Proofs.YtipcnefiadnlmaaW.PrintWords Go.Proofs.YtipcnefiadnlmaaW.PrintLast Go.Proofs.YtipcnefiadnlmaaW.PrintMore Go.Proofs.Ytipcnefiadnlmaa.Plain
set_option linter.unusedVariables false
set_option linter.unusedSimpArgs false

set_option maxHeartbeats 1000000 in
theorem halves_pos (x v : Int) (x0 : 0 ≤ x) (x1 : x < 65536) (hv : x % 32768 = v) (v0 : 0 ≤ v) (v1 : v < 32768) (h0 : 1 ≤ v) (h1 : v ≤ 16383) (w : World) :
    Calls Try.prog 9 #[.int .u16 x] w fun e w' => e = .returned (.bool true) ∧ Below w.heap.size w w' := by
  have HB := Aside0.mk (Below.refl w.heap.size w)
  have t1 : Int.tmod x 32768 = v := by rw [tmodp x0, hv]
  have e1 : valI v = v := by unfold valI; rw [if_neg (by omega)]; omega
  have e2 : extI v = v := by unfold extI; rw [if_neg (by omega)]; omega
  have e9 : 0 ≤ srI v ∧ srI v < 32768 := by unfold srI; omega
  have e3 : valI (srI v) = v / 2 := by unfold valI srI; split <;> omega
  have e4 : dimI v = v - 1 := by unfold dimI; repeat' split <;> omega
  have e5 : clsI v = 0 := by unfold clsI; repeat' split <;> omega
  have e6 : corI v = v := by unfold corI; omega
  have e7 : ovI v = 0 := by unfold ovI; omega
  have e8 : clsI (65535 - v) = 2 := by unfold clsI; repeat' split <;> omega
  have b1 : decide (16383 < v) = false := decide_eq_false (by omega)
  have b2 : (v == 0) = false := beq_eq_false_iff_ne.mpr (by omega)
  have b3 : (v < -v) = False := eq_false (by omega)
  have t2 : Int.tdiv v 2 = v / 2 := tdivp v0 2
  have K1 := value_c v v0 (by omega)
  rw [e1] at K1
  replace K1 := Lib.hid K1
  have K2 := ext_c v v0 (by omega)
  rw [e2] at K2
  replace K2 := Lib.hid K2
  have K3 := sr_c v v0 (by omega)
  replace K3 := Lib.hid K3
  have K4 := value_c (srI v) e9.1 (by omega)
  rw [e3] at K4
  replace K4 := Lib.hid K4
  have K5 := dim_c v (by omega) (by omega)
  rw [e4] at K5
  replace K5 := Lib.hid K5
  have K6 := cls_c v (by omega) (by omega)
  rw [e5] at K6
  replace K6 := Lib.hid K6
  have K7 := cor_c v (by omega) (by omega)
  rw [e6] at K7
  replace K7 := Lib.hid K7
  have K8 := ov_c v (by omega) (by omega)
  rw [e7] at K8
  replace K8 := Lib.hid K8
  have K9 := negAcc_c v (by omega) (by omega)
  rw [show negAccI v = (65535 - v) by unfold negAccI; omega] at K9
  replace K9 := Lib.hid K9
  have K10 := cls_c (65535 - v) (by omega) (by omega)
  rw [e8] at K10
  replace K10 := Lib.hid K10
  clear e1 e2 e3 e4 e5 e6 e7 e8 e9
  go_enter Try.func9, Try.ntmps9
  go_wp2_with (first | (go_at_call 26; (with_reducible refine at_args #[.int .u16 v] ?_); (with_reducible refine (K1.out _).mono ?_); rintro e w' ⟨rfl, ⟨nd, rfl⟩⟩) | (go_at_call 32; (with_reducible refine at_args #[.int .u16 v] ?_); (with_reducible refine (K2.out _).mono ?_); rintro e w' ⟨rfl, ⟨nd, rfl⟩⟩) | (go_at_call 15; (with_reducible refine at_args #[.int .u16 v] ?_); (with_reducible refine (K3.out _).mono ?_); rintro e w' ⟨rfl, ⟨nd, rfl⟩⟩) | (go_at_call 26; (with_reducible refine at_args #[.int .u16 (srI v)] ?_); (with_reducible refine (K4.out _).mono ?_); rintro e w' ⟨rfl, ⟨nd, rfl⟩⟩) | (go_at_call 44; (with_reducible refine at_args #[.int .u16 v] ?_); (with_reducible refine (K5.out _).mono ?_); rintro e w' ⟨rfl, ⟨nd, rfl⟩⟩) | (go_at_call 42; (with_reducible refine at_args #[.int .u16 v] ?_); (with_reducible refine (K6.out _).mono ?_); rintro e w' ⟨rfl, ⟨nd, rfl⟩⟩) | (go_at_call 40; (with_reducible refine at_args #[.int .u16 v] ?_); (with_reducible refine (K7.out _).mono ?_); rintro e w' ⟨rfl, ⟨nd, rfl⟩⟩) | (go_at_call 38; (with_reducible refine at_args #[.int .u16 v] ?_); (with_reducible refine (K8.out _).mono ?_); rintro e w' ⟨rfl, ⟨nd, rfl⟩⟩) | (go_at_call 36; (with_reducible refine at_args #[.int .u16 v] ?_); (with_reducible refine (K9.out _).mono ?_); rintro e w' ⟨rfl, ⟨nd, rfl⟩⟩) | (go_at_call 42; (with_reducible refine at_args #[.int .u16 (65535 - v)] ?_); (with_reducible refine (K10.out _).mono ?_); rintro e w' ⟨rfl, ⟨nd, rfl⟩⟩) | (go_at_call 23; (with_reducible refine (works_c _).mono ?_); rintro e w' ⟨rfl, hb⟩; have HBn := Aside0.mk (below_step (by repeat (first | (with_reducible first | exact HB.out | apply below_alloc | apply pw_below_drewN | apply below_drew1) | exact HB.out)) hb); clear HB hb; have HB := HBn; clear HBn))
  all_goals (go_ret; exact ⟨rfl, by repeat (first | (with_reducible first | exact HB.out | apply below_alloc | apply pw_below_drewN | apply below_drew1) | exact HB.out)⟩)

theorem tdiv_neg (v : Int) (h : v ≤ 32767) : Int.tdiv (v - 32767) 2 = -((32767 - v) / 2) := by
  rw [show v - 32767 = -(32767 - v) by omega, Int.neg_tdiv, Int.tdiv_eq_ediv_of_nonneg (by omega)]

set_option maxHeartbeats 1000000 in
theorem halves_neg (x v : Int) (x0 : 0 ≤ x) (x1 : x < 65536) (hv : x % 32768 = v) (v0 : 0 ≤ v) (v1 : v < 32768) (h0 : 16384 ≤ v) (h1 : v ≤ 32766) (w : World) :
    Calls Try.prog 9 #[.int .u16 x] w fun e w' => e = .returned (.bool true) ∧ Below w.heap.size w w' := by
  have HB := Aside0.mk (Below.refl w.heap.size w)
  have t1 : Int.tmod x 32768 = v := by rw [tmodp x0, hv]
  have e1 : valI v = v - 32767 := by unfold valI; rw [if_pos (by omega)]; omega
  have e2 : extI v = (v + 32768) := by unfold extI; rw [if_pos (by omega)]; omega
  have e9 : 0 ≤ srI v ∧ srI v < 32768 := by unfold srI; omega
  have e3 : valI (srI v) = -((32767 - v) / 2) := by unfold valI srI; split <;> omega
  have e4 : dimI (v + 32768) = 32766 - v := by unfold dimI; repeat' split <;> omega
  have e5 : clsI (v + 32768) = 2 := by unfold clsI; repeat' split <;> omega
  have e6 : corI (v + 32768) = v := by unfold corI; omega
  have e7 : ovI (v + 32768) = 0 := by unfold ovI; omega
  have e8 : clsI (32767 - v) = 0 := by unfold clsI; repeat' split <;> omega
  have b1 : decide (16383 < v) = true := decide_eq_true (by omega)
  have b2 : (v - 32767 == 0) = false := beq_eq_false_iff_ne.mpr (by omega)
  have b3 : (v == 32767) = false := beq_eq_false_iff_ne.mpr (by omega)
  have t2 := tdiv_neg v (by omega)
  have K1 := value_c v v0 (by omega)
  rw [e1] at K1
  replace K1 := Lib.hid K1
  have K2 := ext_c v v0 (by omega)
  rw [e2] at K2
  replace K2 := Lib.hid K2
  have K3 := sr_c v v0 (by omega)
  replace K3 := Lib.hid K3
  have K4 := value_c (srI v) e9.1 (by omega)
  rw [e3] at K4
  replace K4 := Lib.hid K4
  have K5 := dim_c (v + 32768) (by omega) (by omega)
  rw [e4] at K5
  replace K5 := Lib.hid K5
  have K6 := cls_c (v + 32768) (by omega) (by omega)
  rw [e5] at K6
  replace K6 := Lib.hid K6
  have K7 := cor_c (v + 32768) (by omega) (by omega)
  rw [e6] at K7
  replace K7 := Lib.hid K7
  have K8 := ov_c (v + 32768) (by omega) (by omega)
  rw [e7] at K8
  replace K8 := Lib.hid K8
  have K9 := negAcc_c (v + 32768) (by omega) (by omega)
  rw [show negAccI (v + 32768) = (32767 - v) by unfold negAccI; omega] at K9
  replace K9 := Lib.hid K9
  have K10 := cls_c (32767 - v) (by omega) (by omega)
  rw [e8] at K10
  replace K10 := Lib.hid K10
  clear e1 e2 e3 e4 e5 e6 e7 e8 e9
  go_enter Try.func9, Try.ntmps9
  go_wp2_with (first | (go_at_call 26; (with_reducible refine at_args #[.int .u16 v] ?_); (with_reducible refine (K1.out _).mono ?_); rintro e w' ⟨rfl, ⟨nd, rfl⟩⟩) | (go_at_call 32; (with_reducible refine at_args #[.int .u16 v] ?_); (with_reducible refine (K2.out _).mono ?_); rintro e w' ⟨rfl, ⟨nd, rfl⟩⟩) | (go_at_call 15; (with_reducible refine at_args #[.int .u16 v] ?_); (with_reducible refine (K3.out _).mono ?_); rintro e w' ⟨rfl, ⟨nd, rfl⟩⟩) | (go_at_call 26; (with_reducible refine at_args #[.int .u16 (srI v)] ?_); (with_reducible refine (K4.out _).mono ?_); rintro e w' ⟨rfl, ⟨nd, rfl⟩⟩) | (go_at_call 44; (with_reducible refine at_args #[.int .u16 (v + 32768)] ?_); (with_reducible refine (K5.out _).mono ?_); rintro e w' ⟨rfl, ⟨nd, rfl⟩⟩) | (go_at_call 42; (with_reducible refine at_args #[.int .u16 (v + 32768)] ?_); (with_reducible refine (K6.out _).mono ?_); rintro e w' ⟨rfl, ⟨nd, rfl⟩⟩) | (go_at_call 40; (with_reducible refine at_args #[.int .u16 (v + 32768)] ?_); (with_reducible refine (K7.out _).mono ?_); rintro e w' ⟨rfl, ⟨nd, rfl⟩⟩) | (go_at_call 38; (with_reducible refine at_args #[.int .u16 (v + 32768)] ?_); (with_reducible refine (K8.out _).mono ?_); rintro e w' ⟨rfl, ⟨nd, rfl⟩⟩) | (go_at_call 36; (with_reducible refine at_args #[.int .u16 (v + 32768)] ?_); (with_reducible refine (K9.out _).mono ?_); rintro e w' ⟨rfl, ⟨nd, rfl⟩⟩) | (go_at_call 42; (with_reducible refine at_args #[.int .u16 (32767 - v)] ?_); (with_reducible refine (K10.out _).mono ?_); rintro e w' ⟨rfl, ⟨nd, rfl⟩⟩) | (go_at_call 23; (with_reducible refine (works_c _).mono ?_); rintro e w' ⟨rfl, hb⟩; have HBn := Aside0.mk (below_step (by repeat (first | (with_reducible first | exact HB.out | apply below_alloc | apply pw_below_drewN | apply below_drew1) | exact HB.out)) hb); clear HB hb; have HB := HBn; clear HBn))
  all_goals (go_ret; exact ⟨rfl, by repeat (first | (with_reducible first | exact HB.out | apply below_alloc | apply pw_below_drewN | apply below_drew1) | exact HB.out)⟩)

set_option maxHeartbeats 1000000 in
theorem halves_zero (x : Int) (x0 : 0 ≤ x) (x1 : x < 65536) (hv : x % 32768 = 0) (w : World) :
    Calls Try.prog 9 #[.int .u16 x] w fun e w' => e = .returned (.bool true) ∧ Below w.heap.size w w' := by
  have HB := Aside0.mk (Below.refl w.heap.size w)
  have t1 : Int.tmod x 32768 = 0 := by rw [tmodp x0, hv]
  have K1 := value_c 0 (by decide) (by decide)
  rw [show valI 0 = 0 from rfl] at K1
  replace K1 := Lib.hid K1
  have K2 := ext_c 0 (by decide) (by decide)
  rw [show extI 0 = 0 from rfl] at K2
  replace K2 := Lib.hid K2
  have K3 := sr_c 0 (by decide) (by decide)
  rw [show srI 0 = 0 from rfl] at K3
  replace K3 := Lib.hid K3
  have K4 := dim_c 0 (by decide) (by decide)
  rw [show dimI 0 = 0 from rfl] at K4
  replace K4 := Lib.hid K4
  have K5 := cls_c 0 (by decide) (by decide)
  rw [show clsI 0 = 1 from rfl] at K5
  replace K5 := Lib.hid K5
  have K6 := cor_c 0 (by decide) (by decide)
  rw [show corI 0 = 0 from rfl] at K6
  replace K6 := Lib.hid K6
  have K7 := ov_c 0 (by decide) (by decide)
  rw [show ovI 0 = 0 from rfl] at K7
  replace K7 := Lib.hid K7
  have K8 := negAcc_c 0 (by decide) (by decide)
  rw [show negAccI 0 = 65535 from rfl] at K8
  replace K8 := Lib.hid K8
  have K9 := cls_c 65535 (by decide) (by decide)
  rw [show clsI 65535 = 3 from rfl] at K9
  replace K9 := Lib.hid K9
  go_enter Try.func9, Try.ntmps9
  go_wp2_with (first | (go_at_call 26; (with_reducible refine at_args #[.int .u16 0] ?_); (with_reducible refine (K1.out _).mono ?_); rintro e w' ⟨rfl, ⟨nd, rfl⟩⟩) | (go_at_call 32; (with_reducible refine at_args #[.int .u16 0] ?_); (with_reducible refine (K2.out _).mono ?_); rintro e w' ⟨rfl, ⟨nd, rfl⟩⟩) | (go_at_call 15; (with_reducible refine at_args #[.int .u16 0] ?_); (with_reducible refine (K3.out _).mono ?_); rintro e w' ⟨rfl, ⟨nd, rfl⟩⟩) | (go_at_call 44; (with_reducible refine at_args #[.int .u16 0] ?_); (with_reducible refine (K4.out _).mono ?_); rintro e w' ⟨rfl, ⟨nd, rfl⟩⟩) | (go_at_call 42; (with_reducible refine at_args #[.int .u16 0] ?_); (with_reducible refine (K5.out _).mono ?_); rintro e w' ⟨rfl, ⟨nd, rfl⟩⟩) | (go_at_call 40; (with_reducible refine at_args #[.int .u16 0] ?_); (with_reducible refine (K6.out _).mono ?_); rintro e w' ⟨rfl, ⟨nd, rfl⟩⟩) | (go_at_call 38; (with_reducible refine at_args #[.int .u16 0] ?_); (with_reducible refine (K7.out _).mono ?_); rintro e w' ⟨rfl, ⟨nd, rfl⟩⟩) | (go_at_call 36; (with_reducible refine at_args #[.int .u16 0] ?_); (with_reducible refine (K8.out _).mono ?_); rintro e w' ⟨rfl, ⟨nd, rfl⟩⟩) | (go_at_call 42; (with_reducible refine at_args #[.int .u16 65535] ?_); (with_reducible refine (K9.out _).mono ?_); rintro e w' ⟨rfl, ⟨nd, rfl⟩⟩) | (go_at_call 23; (with_reducible refine (works_c _).mono ?_); rintro e w' ⟨rfl, hb⟩; have HBn := Aside0.mk (below_step (by repeat (first | (with_reducible first | exact HB.out | apply below_alloc | apply pw_below_drewN | apply below_drew1) | exact HB.out)) hb); clear HB hb; have HB := HBn; clear HBn))
  all_goals (go_ret; exact ⟨rfl, by repeat (first | (with_reducible first | exact HB.out | apply below_alloc | apply pw_below_drewN | apply below_drew1) | exact HB.out)⟩)

set_option maxHeartbeats 1000000 in
theorem halves_mzero (x : Int) (x0 : 0 ≤ x) (x1 : x < 65536) (hv : x % 32768 = 32767) (w : World) :
    Calls Try.prog 9 #[.int .u16 x] w fun e w' => e = .returned (.bool true) ∧ Below w.heap.size w w' := by
  have HB := Aside0.mk (Below.refl w.heap.size w)
  have t1 : Int.tmod x 32768 = 32767 := by rw [tmodp x0, hv]
  have K1 := value_c 32767 (by decide) (by decide)
  rw [show valI 32767 = 0 from rfl] at K1
  replace K1 := Lib.hid K1
  have K2 := ext_c 32767 (by decide) (by decide)
  rw [show extI 32767 = 65535 from rfl] at K2
  replace K2 := Lib.hid K2
  have K3 := sr_c 32767 (by decide) (by decide)
  rw [show srI 32767 = 32767 from rfl] at K3
  replace K3 := Lib.hid K3
  have K4 := dim_c 65535 (by decide) (by decide)
  rw [show dimI 65535 = 0 from rfl] at K4
  replace K4 := Lib.hid K4
  have K5 := cls_c 65535 (by decide) (by decide)
  rw [show clsI 65535 = 3 from rfl] at K5
  replace K5 := Lib.hid K5
  have K6 := cor_c 65535 (by decide) (by decide)
  rw [show corI 65535 = 32767 from rfl] at K6
  replace K6 := Lib.hid K6
  have K7 := ov_c 65535 (by decide) (by decide)
  rw [show ovI 65535 = 0 from rfl] at K7
  replace K7 := Lib.hid K7
  have K8 := negAcc_c 65535 (by decide) (by decide)
  rw [show negAccI 65535 = 0 from rfl] at K8
  replace K8 := Lib.hid K8
  have K9 := cls_c 0 (by decide) (by decide)
  rw [show clsI 0 = 1 from rfl] at K9
  replace K9 := Lib.hid K9
  go_enter Try.func9, Try.ntmps9
  go_wp2_with (first | (go_at_call 26; (with_reducible refine at_args #[.int .u16 32767] ?_); (with_reducible refine (K1.out _).mono ?_); rintro e w' ⟨rfl, ⟨nd, rfl⟩⟩) | (go_at_call 32; (with_reducible refine at_args #[.int .u16 32767] ?_); (with_reducible refine (K2.out _).mono ?_); rintro e w' ⟨rfl, ⟨nd, rfl⟩⟩) | (go_at_call 15; (with_reducible refine at_args #[.int .u16 32767] ?_); (with_reducible refine (K3.out _).mono ?_); rintro e w' ⟨rfl, ⟨nd, rfl⟩⟩) | (go_at_call 44; (with_reducible refine at_args #[.int .u16 65535] ?_); (with_reducible refine (K4.out _).mono ?_); rintro e w' ⟨rfl, ⟨nd, rfl⟩⟩) | (go_at_call 42; (with_reducible refine at_args #[.int .u16 65535] ?_); (with_reducible refine (K5.out _).mono ?_); rintro e w' ⟨rfl, ⟨nd, rfl⟩⟩) | (go_at_call 40; (with_reducible refine at_args #[.int .u16 65535] ?_); (with_reducible refine (K6.out _).mono ?_); rintro e w' ⟨rfl, ⟨nd, rfl⟩⟩) | (go_at_call 38; (with_reducible refine at_args #[.int .u16 65535] ?_); (with_reducible refine (K7.out _).mono ?_); rintro e w' ⟨rfl, ⟨nd, rfl⟩⟩) | (go_at_call 36; (with_reducible refine at_args #[.int .u16 65535] ?_); (with_reducible refine (K8.out _).mono ?_); rintro e w' ⟨rfl, ⟨nd, rfl⟩⟩) | (go_at_call 42; (with_reducible refine at_args #[.int .u16 0] ?_); (with_reducible refine (K9.out _).mono ?_); rintro e w' ⟨rfl, ⟨nd, rfl⟩⟩) | (go_at_call 23; (with_reducible refine (works_c _).mono ?_); rintro e w' ⟨rfl, hb⟩; have HBn := Aside0.mk (below_step (by repeat (first | (with_reducible first | exact HB.out | apply below_alloc | apply pw_below_drewN | apply below_drew1) | exact HB.out)) hb); clear HB hb; have HB := HBn; clear HBn))
  all_goals (go_ret; exact ⟨rfl, by repeat (first | (with_reducible first | exact HB.out | apply below_alloc | apply pw_below_drewN | apply below_drew1) | exact HB.out)⟩)

theorem halves_law (a0 : Int) (w : World) (w0 : (Lit.int .u16 a0).wf = true) :
    Calls Try.prog 9 #[.int .u16 a0] w fun e w' => e = .returned (.bool true) ∧ Below w.heap.size w w' := by
  obtain ⟨n, rfl, hn⟩ := wf16 w0
  by_cases a : (n : Int) % 32768 = 0
  · exact halves_zero n (by omega) (by omega) a w
  · by_cases b : (n : Int) % 32768 = 32767
    · exact halves_mzero n (by omega) (by omega) b w
    · by_cases c : (n : Int) % 32768 ≤ 16383
      · exact halves_pos n ((n : Int) % 32768) (by omega) (by omega) rfl (by omega) (by omega) (by omega) c w
      · exact halves_neg n ((n : Int) % 32768) (by omega) (by omega) rfl (by omega) (by omega) (by omega) (by omega) w

end Go.Proofs.Ytipcnefiadnlmaa.L01
