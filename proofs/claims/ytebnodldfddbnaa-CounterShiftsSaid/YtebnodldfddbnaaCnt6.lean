/- The laws CounterBack and CounterShifts. -/
import Derived.Test.YtebnodldfddbnaaCnt5
namespace Go.Proofs.Ytebnodldfddbnaa.Cnt
open Go.RowKit Go.Proofs.Ytebnodldfddbnaa.PAll Go.Proofs.YtebnodldfddbnaaW.PrintWords Go.Proofs.YtebnodldfddbnaaW.PrintLast Go.Proofs.YtebnodldfddbnaaW.PrintMore Go.Proofs.Ytebnodldfddbnaa.Plain Go.Proofs.Ytebnodldfddbnaa.One Go.Proofs.Ytebnodldfddbnaa.Lit
set_option linter.unusedVariables false
set_option linter.unusedSimpArgs false
theorem AP (x k y s : Int) (x0 : 0 ≤ x) (x1 : x < 65536) (hy : apN (x % 32768) k = y) (hs : apS (x % 32768) k = s) (he : apE k = 0) (w : World) : Calls Try.prog 11 #[.int .u16 x, .int .u8 k] w fun e w' => e = .returned (.tuple #[.int .u16 y, .int .i64 s, .int .i64 0]) ∧ Below w.heap.size w w' := by
  have := Apply_c x k x0 x1 w
  rwa [hy, hs, he] at this
theorem VL (x v : Int) (x0 : 0 ≤ x) (x1 : x < 65536) (hv : valI x = v) (w : World) : Calls Try.prog 17 #[.int .u16 x] w fun e w' => e = .returned (.int .i64 v) ∧ Drawn0 w w' := by
  have := value_c x x0 x1 w
  rwa [hv] at this
set_option maxHeartbeats 4000000 in
theorem back_p (x n a b c e va v : Int) (x0 : 0 ≤ x) (x1 : x < 65536) (hn : x % 32768 = n) (K1 : Hid (∀ w, Calls Try.prog 11 #[.int .u16 n, .int .u8 1] w fun e w' => e = .returned (.tuple #[.int .u16 a, .int .i64 0, .int .i64 0]) ∧ Below w.heap.size w w'))
    (K2 : Hid (∀ w, Calls Try.prog 11 #[.int .u16 a, .int .u8 2] w fun e w' => e = .returned (.tuple #[.int .u16 b, .int .i64 0, .int .i64 0]) ∧ Below w.heap.size w w'))
    (K3 : Hid (∀ w, Calls Try.prog 11 #[.int .u16 n, .int .u8 3] w fun e w' => e = .returned (.tuple #[.int .u16 c, .int .i64 0, .int .i64 0]) ∧ Below w.heap.size w w'))
    (K4 : Hid (∀ w, Calls Try.prog 11 #[.int .u16 c, .int .u8 4] w fun e w' => e = .returned (.tuple #[.int .u16 n, .int .i64 0, .int .i64 0]) ∧ Below w.heap.size w w'))
    (K5 : Hid (∀ w, Calls Try.prog 11 #[.int .u16 n, .int .u8 5] w fun z w' => z = .returned (.tuple #[.int .u16 e, .int .i64 (1), .int .i64 0]) ∧ Below w.heap.size w w'))
    (V0 : Hid (∀ w, Calls Try.prog 17 #[.int .u16 n] w fun e w' => e = .returned (.int .i64 v) ∧ Drawn0 w w')) (V1 : Hid (∀ w, Calls Try.prog 17 #[.int .u16 a] w fun e w' => e = .returned (.int .i64 va) ∧ Drawn0 w w'))
    (V2 : Hid (∀ w, Calls Try.prog 17 #[.int .u16 b] w fun e w' => e = .returned (.int .i64 v) ∧ Drawn0 w w')) (V3 : Hid (∀ w, Calls Try.prog 17 #[.int .u16 e] w fun z w' => z = .returned (.int .i64 (v - (1))) ∧ Drawn0 w w'))
    (v0 : -16384 ≤ v) (v1 : v ≤ 16384) (b0 : decide (v > 0) = true) (b0' : decide (0 < v) = true) (b1 : decide (v < 0) = false) (hva : va = v + 1) (w : World) :
    Calls Try.prog 5 #[.int .u16 x] w fun e w' => e = .returned (.bool true) ∧ Below w.heap.size w w' := by
  have HB := Aside0.mk (Below.refl w.heap.size w)
  have t0 : Int.tmod x 32768 = n := by rw [← hn]; exact Int.tmod_eq_emod_of_nonneg x0
  have e0 : (v != v) = false := bne_self_eq_false _
  have e1 : (n == n) = true := beq_self_eq_true _
  have e2 : ((v + 1) != (v + 1)) = false := bne_self_eq_false _
  have e3 : ((v - (1)) == (v - (1))) = true := beq_self_eq_true _
  subst hva
  clear hn x0 x1
  go_enter Try.func5, Try.ntmps5
  go_wp2_with (first | (go_at_call 11; (with_reducible refine at_args #[.int .u16 n, .int .u8 1] ?_); (with_reducible refine (K1.out _).mono ?_); rintro e w' ⟨rfl, hbz⟩; have HBn := Aside0.mk (below_step (by repeat (first | (with_reducible first | exact HB.out | apply below_alloc | apply pw_below_drewN | apply below_drew1) | exact HB.out)) hbz); clear HB hbz; have HB := HBn; clear HBn) | (go_at_call 11; (with_reducible refine at_args #[.int .u16 a, .int .u8 2] ?_); (with_reducible refine (K2.out _).mono ?_); rintro e w' ⟨rfl, hbz⟩; have HBn := Aside0.mk (below_step (by repeat (first | (with_reducible first | exact HB.out | apply below_alloc | apply pw_below_drewN | apply below_drew1) | exact HB.out)) hbz); clear HB hbz; have HB := HBn; clear HBn) | (go_at_call 11; (with_reducible refine at_args #[.int .u16 n, .int .u8 3] ?_); (with_reducible refine (K3.out _).mono ?_); rintro e w' ⟨rfl, hbz⟩; have HBn := Aside0.mk (below_step (by repeat (first | (with_reducible first | exact HB.out | apply below_alloc | apply pw_below_drewN | apply below_drew1) | exact HB.out)) hbz); clear HB hbz; have HB := HBn; clear HBn) | (go_at_call 11; (with_reducible refine at_args #[.int .u16 c, .int .u8 4] ?_); (with_reducible refine (K4.out _).mono ?_); rintro e w' ⟨rfl, hbz⟩; have HBn := Aside0.mk (below_step (by repeat (first | (with_reducible first | exact HB.out | apply below_alloc | apply pw_below_drewN | apply below_drew1) | exact HB.out)) hbz); clear HB hbz; have HB := HBn; clear HBn) | (go_at_call 11; (with_reducible refine at_args #[.int .u16 n, .int .u8 5] ?_); (with_reducible refine (K5.out _).mono ?_); rintro e w' ⟨rfl, hbz⟩; have HBn := Aside0.mk (below_step (by repeat (first | (with_reducible first | exact HB.out | apply below_alloc | apply pw_below_drewN | apply below_drew1) | exact HB.out)) hbz); clear HB hbz; have HB := HBn; clear HBn) | (go_at_call 17; (with_reducible refine at_args #[.int .u16 n] ?_); (with_reducible refine (V0.out _).mono ?_); rintro e w' ⟨rfl, ⟨nd, rfl⟩⟩) | (go_at_call 17; (with_reducible refine at_args #[.int .u16 a] ?_); (with_reducible refine (V1.out _).mono ?_); rintro e w' ⟨rfl, ⟨nd, rfl⟩⟩) | (go_at_call 17; (with_reducible refine at_args #[.int .u16 b] ?_); (with_reducible refine (V2.out _).mono ?_); rintro e w' ⟨rfl, ⟨nd, rfl⟩⟩) | (go_at_call 17; (with_reducible refine at_args #[.int .u16 e] ?_); (with_reducible refine (V3.out _).mono ?_); rintro e w' ⟨rfl, ⟨nd, rfl⟩⟩) | (go_at_call 16; (with_reducible refine at_args #[] ?_); (with_reducible refine (works_c _).mono ?_); rintro e w' ⟨rfl, hbw⟩; have HBn := Aside0.mk (below_step (by repeat (first | (with_reducible first | exact HB.out | apply below_alloc | apply pw_below_drewN | apply below_drew1) | exact HB.out)) hbw); clear HB hbw; have HB := HBn; clear HBn))
  go_ret
  exact ⟨rfl, by repeat (first | (with_reducible first | exact HB.out | apply below_alloc | apply pw_below_drewN | apply below_drew1) | exact HB.out)⟩
set_option maxHeartbeats 4000000 in
theorem back_m (x n a b c e va v : Int) (x0 : 0 ≤ x) (x1 : x < 65536) (hn : x % 32768 = n) (K1 : Hid (∀ w, Calls Try.prog 11 #[.int .u16 n, .int .u8 1] w fun e w' => e = .returned (.tuple #[.int .u16 a, .int .i64 0, .int .i64 0]) ∧ Below w.heap.size w w'))
    (K2 : Hid (∀ w, Calls Try.prog 11 #[.int .u16 a, .int .u8 2] w fun e w' => e = .returned (.tuple #[.int .u16 b, .int .i64 0, .int .i64 0]) ∧ Below w.heap.size w w'))
    (K3 : Hid (∀ w, Calls Try.prog 11 #[.int .u16 n, .int .u8 3] w fun e w' => e = .returned (.tuple #[.int .u16 c, .int .i64 0, .int .i64 0]) ∧ Below w.heap.size w w'))
    (K4 : Hid (∀ w, Calls Try.prog 11 #[.int .u16 c, .int .u8 4] w fun e w' => e = .returned (.tuple #[.int .u16 n, .int .i64 0, .int .i64 0]) ∧ Below w.heap.size w w'))
    (K5 : Hid (∀ w, Calls Try.prog 11 #[.int .u16 n, .int .u8 5] w fun z w' => z = .returned (.tuple #[.int .u16 e, .int .i64 (-1), .int .i64 0]) ∧ Below w.heap.size w w'))
    (V0 : Hid (∀ w, Calls Try.prog 17 #[.int .u16 n] w fun e w' => e = .returned (.int .i64 v) ∧ Drawn0 w w')) (V1 : Hid (∀ w, Calls Try.prog 17 #[.int .u16 a] w fun e w' => e = .returned (.int .i64 va) ∧ Drawn0 w w'))
    (V2 : Hid (∀ w, Calls Try.prog 17 #[.int .u16 b] w fun e w' => e = .returned (.int .i64 v) ∧ Drawn0 w w')) (V3 : Hid (∀ w, Calls Try.prog 17 #[.int .u16 e] w fun z w' => z = .returned (.int .i64 (v - (-1))) ∧ Drawn0 w w'))
    (v0 : -16384 ≤ v) (v1 : v ≤ 16384) (b0 : decide (v > 0) = false) (b0' : decide (0 < v) = false) (b1 : decide (v < 0) = true) (hva : va = v + 1) (w : World) :
    Calls Try.prog 5 #[.int .u16 x] w fun e w' => e = .returned (.bool true) ∧ Below w.heap.size w w' := by
  have HB := Aside0.mk (Below.refl w.heap.size w)
  have t0 : Int.tmod x 32768 = n := by rw [← hn]; exact Int.tmod_eq_emod_of_nonneg x0
  have e0 : (v != v) = false := bne_self_eq_false _
  have e1 : (n == n) = true := beq_self_eq_true _
  have e2 : ((v + 1) != (v + 1)) = false := bne_self_eq_false _
  have e3 : ((v - (-1)) == (v - (-1))) = true := beq_self_eq_true _
  subst hva
  clear hn x0 x1
  go_enter Try.func5, Try.ntmps5
  go_wp2_with (first | (go_at_call 11; (with_reducible refine at_args #[.int .u16 n, .int .u8 1] ?_); (with_reducible refine (K1.out _).mono ?_); rintro e w' ⟨rfl, hbz⟩; have HBn := Aside0.mk (below_step (by repeat (first | (with_reducible first | exact HB.out | apply below_alloc | apply pw_below_drewN | apply below_drew1) | exact HB.out)) hbz); clear HB hbz; have HB := HBn; clear HBn) | (go_at_call 11; (with_reducible refine at_args #[.int .u16 a, .int .u8 2] ?_); (with_reducible refine (K2.out _).mono ?_); rintro e w' ⟨rfl, hbz⟩; have HBn := Aside0.mk (below_step (by repeat (first | (with_reducible first | exact HB.out | apply below_alloc | apply pw_below_drewN | apply below_drew1) | exact HB.out)) hbz); clear HB hbz; have HB := HBn; clear HBn) | (go_at_call 11; (with_reducible refine at_args #[.int .u16 n, .int .u8 3] ?_); (with_reducible refine (K3.out _).mono ?_); rintro e w' ⟨rfl, hbz⟩; have HBn := Aside0.mk (below_step (by repeat (first | (with_reducible first | exact HB.out | apply below_alloc | apply pw_below_drewN | apply below_drew1) | exact HB.out)) hbz); clear HB hbz; have HB := HBn; clear HBn) | (go_at_call 11; (with_reducible refine at_args #[.int .u16 c, .int .u8 4] ?_); (with_reducible refine (K4.out _).mono ?_); rintro e w' ⟨rfl, hbz⟩; have HBn := Aside0.mk (below_step (by repeat (first | (with_reducible first | exact HB.out | apply below_alloc | apply pw_below_drewN | apply below_drew1) | exact HB.out)) hbz); clear HB hbz; have HB := HBn; clear HBn) | (go_at_call 11; (with_reducible refine at_args #[.int .u16 n, .int .u8 5] ?_); (with_reducible refine (K5.out _).mono ?_); rintro e w' ⟨rfl, hbz⟩; have HBn := Aside0.mk (below_step (by repeat (first | (with_reducible first | exact HB.out | apply below_alloc | apply pw_below_drewN | apply below_drew1) | exact HB.out)) hbz); clear HB hbz; have HB := HBn; clear HBn) | (go_at_call 17; (with_reducible refine at_args #[.int .u16 n] ?_); (with_reducible refine (V0.out _).mono ?_); rintro e w' ⟨rfl, ⟨nd, rfl⟩⟩) | (go_at_call 17; (with_reducible refine at_args #[.int .u16 a] ?_); (with_reducible refine (V1.out _).mono ?_); rintro e w' ⟨rfl, ⟨nd, rfl⟩⟩) | (go_at_call 17; (with_reducible refine at_args #[.int .u16 b] ?_); (with_reducible refine (V2.out _).mono ?_); rintro e w' ⟨rfl, ⟨nd, rfl⟩⟩) | (go_at_call 17; (with_reducible refine at_args #[.int .u16 e] ?_); (with_reducible refine (V3.out _).mono ?_); rintro e w' ⟨rfl, ⟨nd, rfl⟩⟩) | (go_at_call 16; (with_reducible refine at_args #[] ?_); (with_reducible refine (works_c _).mono ?_); rintro e w' ⟨rfl, hbw⟩; have HBn := Aside0.mk (below_step (by repeat (first | (with_reducible first | exact HB.out | apply below_alloc | apply pw_below_drewN | apply below_drew1) | exact HB.out)) hbw); clear HB hbw; have HB := HBn; clear HBn))
  go_ret
  exact ⟨rfl, by repeat (first | (with_reducible first | exact HB.out | apply below_alloc | apply pw_below_drewN | apply below_drew1) | exact HB.out)⟩
set_option maxHeartbeats 4000000 in
theorem back_z (x n a b c e va v : Int) (x0 : 0 ≤ x) (x1 : x < 65536) (hn : x % 32768 = n) (K1 : Hid (∀ w, Calls Try.prog 11 #[.int .u16 n, .int .u8 1] w fun e w' => e = .returned (.tuple #[.int .u16 a, .int .i64 0, .int .i64 0]) ∧ Below w.heap.size w w'))
    (K2 : Hid (∀ w, Calls Try.prog 11 #[.int .u16 a, .int .u8 2] w fun e w' => e = .returned (.tuple #[.int .u16 b, .int .i64 0, .int .i64 0]) ∧ Below w.heap.size w w'))
    (K3 : Hid (∀ w, Calls Try.prog 11 #[.int .u16 n, .int .u8 3] w fun e w' => e = .returned (.tuple #[.int .u16 c, .int .i64 0, .int .i64 0]) ∧ Below w.heap.size w w'))
    (K4 : Hid (∀ w, Calls Try.prog 11 #[.int .u16 c, .int .u8 4] w fun e w' => e = .returned (.tuple #[.int .u16 n, .int .i64 0, .int .i64 0]) ∧ Below w.heap.size w w'))
    (K5 : Hid (∀ w, Calls Try.prog 11 #[.int .u16 n, .int .u8 5] w fun z w' => z = .returned (.tuple #[.int .u16 e, .int .i64 (0), .int .i64 0]) ∧ Below w.heap.size w w'))
    (V0 : Hid (∀ w, Calls Try.prog 17 #[.int .u16 n] w fun e w' => e = .returned (.int .i64 v) ∧ Drawn0 w w')) (V1 : Hid (∀ w, Calls Try.prog 17 #[.int .u16 a] w fun e w' => e = .returned (.int .i64 va) ∧ Drawn0 w w'))
    (V2 : Hid (∀ w, Calls Try.prog 17 #[.int .u16 b] w fun e w' => e = .returned (.int .i64 v) ∧ Drawn0 w w')) (V3 : Hid (∀ w, Calls Try.prog 17 #[.int .u16 e] w fun z w' => z = .returned (.int .i64 (v - (0))) ∧ Drawn0 w w'))
    (v0 : -16384 ≤ v) (v1 : v ≤ 16384) (b0 : decide (v > 0) = false) (b0' : decide (0 < v) = false) (b1 : decide (v < 0) = false) (hva : va = v + 1) (w : World) :
    Calls Try.prog 5 #[.int .u16 x] w fun e w' => e = .returned (.bool true) ∧ Below w.heap.size w w' := by
  have HB := Aside0.mk (Below.refl w.heap.size w)
  have t0 : Int.tmod x 32768 = n := by rw [← hn]; exact Int.tmod_eq_emod_of_nonneg x0
  have e0 : (v != v) = false := bne_self_eq_false _
  have e1 : (n == n) = true := beq_self_eq_true _
  have e2 : ((v + 1) != (v + 1)) = false := bne_self_eq_false _
  have e3 : ((v - (0)) == (v - (0))) = true := beq_self_eq_true _
  subst hva
  clear hn x0 x1
  go_enter Try.func5, Try.ntmps5
  go_wp2_with (first | (go_at_call 11; (with_reducible refine at_args #[.int .u16 n, .int .u8 1] ?_); (with_reducible refine (K1.out _).mono ?_); rintro e w' ⟨rfl, hbz⟩; have HBn := Aside0.mk (below_step (by repeat (first | (with_reducible first | exact HB.out | apply below_alloc | apply pw_below_drewN | apply below_drew1) | exact HB.out)) hbz); clear HB hbz; have HB := HBn; clear HBn) | (go_at_call 11; (with_reducible refine at_args #[.int .u16 a, .int .u8 2] ?_); (with_reducible refine (K2.out _).mono ?_); rintro e w' ⟨rfl, hbz⟩; have HBn := Aside0.mk (below_step (by repeat (first | (with_reducible first | exact HB.out | apply below_alloc | apply pw_below_drewN | apply below_drew1) | exact HB.out)) hbz); clear HB hbz; have HB := HBn; clear HBn) | (go_at_call 11; (with_reducible refine at_args #[.int .u16 n, .int .u8 3] ?_); (with_reducible refine (K3.out _).mono ?_); rintro e w' ⟨rfl, hbz⟩; have HBn := Aside0.mk (below_step (by repeat (first | (with_reducible first | exact HB.out | apply below_alloc | apply pw_below_drewN | apply below_drew1) | exact HB.out)) hbz); clear HB hbz; have HB := HBn; clear HBn) | (go_at_call 11; (with_reducible refine at_args #[.int .u16 c, .int .u8 4] ?_); (with_reducible refine (K4.out _).mono ?_); rintro e w' ⟨rfl, hbz⟩; have HBn := Aside0.mk (below_step (by repeat (first | (with_reducible first | exact HB.out | apply below_alloc | apply pw_below_drewN | apply below_drew1) | exact HB.out)) hbz); clear HB hbz; have HB := HBn; clear HBn) | (go_at_call 11; (with_reducible refine at_args #[.int .u16 n, .int .u8 5] ?_); (with_reducible refine (K5.out _).mono ?_); rintro e w' ⟨rfl, hbz⟩; have HBn := Aside0.mk (below_step (by repeat (first | (with_reducible first | exact HB.out | apply below_alloc | apply pw_below_drewN | apply below_drew1) | exact HB.out)) hbz); clear HB hbz; have HB := HBn; clear HBn) | (go_at_call 17; (with_reducible refine at_args #[.int .u16 n] ?_); (with_reducible refine (V0.out _).mono ?_); rintro e w' ⟨rfl, ⟨nd, rfl⟩⟩) | (go_at_call 17; (with_reducible refine at_args #[.int .u16 a] ?_); (with_reducible refine (V1.out _).mono ?_); rintro e w' ⟨rfl, ⟨nd, rfl⟩⟩) | (go_at_call 17; (with_reducible refine at_args #[.int .u16 b] ?_); (with_reducible refine (V2.out _).mono ?_); rintro e w' ⟨rfl, ⟨nd, rfl⟩⟩) | (go_at_call 17; (with_reducible refine at_args #[.int .u16 e] ?_); (with_reducible refine (V3.out _).mono ?_); rintro e w' ⟨rfl, ⟨nd, rfl⟩⟩) | (go_at_call 16; (with_reducible refine at_args #[] ?_); (with_reducible refine (works_c _).mono ?_); rintro e w' ⟨rfl, hbw⟩; have HBn := Aside0.mk (below_step (by repeat (first | (with_reducible first | exact HB.out | apply below_alloc | apply pw_below_drewN | apply below_drew1) | exact HB.out)) hbw); clear HB hbw; have HB := HBn; clear HBn))
  go_ret
  exact ⟨rfl, by repeat (first | (with_reducible first | exact HB.out | apply below_alloc | apply pw_below_drewN | apply below_drew1) | exact HB.out)⟩
set_option maxHeartbeats 4000000 in
theorem back_o (x n a b c e va v : Int) (x0 : 0 ≤ x) (x1 : x < 65536) (hn : x % 32768 = n) (K1 : Hid (∀ w, Calls Try.prog 11 #[.int .u16 n, .int .u8 1] w fun e w' => e = .returned (.tuple #[.int .u16 a, .int .i64 1, .int .i64 0]) ∧ Below w.heap.size w w'))
    (K2 : Hid (∀ w, Calls Try.prog 11 #[.int .u16 a, .int .u8 2] w fun e w' => e = .returned (.tuple #[.int .u16 b, .int .i64 0, .int .i64 0]) ∧ Below w.heap.size w w'))
    (K3 : Hid (∀ w, Calls Try.prog 11 #[.int .u16 n, .int .u8 3] w fun e w' => e = .returned (.tuple #[.int .u16 c, .int .i64 0, .int .i64 0]) ∧ Below w.heap.size w w'))
    (K4 : Hid (∀ w, Calls Try.prog 11 #[.int .u16 c, .int .u8 4] w fun e w' => e = .returned (.tuple #[.int .u16 n, .int .i64 0, .int .i64 0]) ∧ Below w.heap.size w w'))
    (K5 : Hid (∀ w, Calls Try.prog 11 #[.int .u16 n, .int .u8 5] w fun z w' => z = .returned (.tuple #[.int .u16 e, .int .i64 (1), .int .i64 0]) ∧ Below w.heap.size w w'))
    (V0 : Hid (∀ w, Calls Try.prog 17 #[.int .u16 n] w fun e w' => e = .returned (.int .i64 v) ∧ Drawn0 w w'))
    (V3 : Hid (∀ w, Calls Try.prog 17 #[.int .u16 e] w fun z w' => z = .returned (.int .i64 (v - (1))) ∧ Drawn0 w w'))
    (v0 : -16384 ≤ v) (v1 : v ≤ 16384) (b0 : decide (v > 0) = true) (b0' : decide (0 < v) = true) (b1 : decide (v < 0) = false) (hn2 : (n != 16383) = false) (ha : (a != 0) = false) (w : World) :
    Calls Try.prog 5 #[.int .u16 x] w fun e w' => e = .returned (.bool true) ∧ Below w.heap.size w w' := by
  have HB := Aside0.mk (Below.refl w.heap.size w)
  have t0 : Int.tmod x 32768 = n := by rw [← hn]; exact Int.tmod_eq_emod_of_nonneg x0
  have e0 : (v != v) = false := bne_self_eq_false _
  have e1 : (n == n) = true := beq_self_eq_true _
  have e2 : ((v + 1) != (v + 1)) = false := bne_self_eq_false _
  have e3 : ((v - (1)) == (v - (1))) = true := beq_self_eq_true _
  clear hn x0 x1
  go_enter Try.func5, Try.ntmps5
  go_wp2_with (first | (go_at_call 11; (with_reducible refine at_args #[.int .u16 n, .int .u8 1] ?_); (with_reducible refine (K1.out _).mono ?_); rintro e w' ⟨rfl, hbz⟩; have HBn := Aside0.mk (below_step (by repeat (first | (with_reducible first | exact HB.out | apply below_alloc | apply pw_below_drewN | apply below_drew1) | exact HB.out)) hbz); clear HB hbz; have HB := HBn; clear HBn) | (go_at_call 11; (with_reducible refine at_args #[.int .u16 a, .int .u8 2] ?_); (with_reducible refine (K2.out _).mono ?_); rintro e w' ⟨rfl, hbz⟩; have HBn := Aside0.mk (below_step (by repeat (first | (with_reducible first | exact HB.out | apply below_alloc | apply pw_below_drewN | apply below_drew1) | exact HB.out)) hbz); clear HB hbz; have HB := HBn; clear HBn) | (go_at_call 11; (with_reducible refine at_args #[.int .u16 n, .int .u8 3] ?_); (with_reducible refine (K3.out _).mono ?_); rintro e w' ⟨rfl, hbz⟩; have HBn := Aside0.mk (below_step (by repeat (first | (with_reducible first | exact HB.out | apply below_alloc | apply pw_below_drewN | apply below_drew1) | exact HB.out)) hbz); clear HB hbz; have HB := HBn; clear HBn) | (go_at_call 11; (with_reducible refine at_args #[.int .u16 c, .int .u8 4] ?_); (with_reducible refine (K4.out _).mono ?_); rintro e w' ⟨rfl, hbz⟩; have HBn := Aside0.mk (below_step (by repeat (first | (with_reducible first | exact HB.out | apply below_alloc | apply pw_below_drewN | apply below_drew1) | exact HB.out)) hbz); clear HB hbz; have HB := HBn; clear HBn) | (go_at_call 11; (with_reducible refine at_args #[.int .u16 n, .int .u8 5] ?_); (with_reducible refine (K5.out _).mono ?_); rintro e w' ⟨rfl, hbz⟩; have HBn := Aside0.mk (below_step (by repeat (first | (with_reducible first | exact HB.out | apply below_alloc | apply pw_below_drewN | apply below_drew1) | exact HB.out)) hbz); clear HB hbz; have HB := HBn; clear HBn) | (go_at_call 17; (with_reducible refine at_args #[.int .u16 n] ?_); (with_reducible refine (V0.out _).mono ?_); rintro e w' ⟨rfl, ⟨nd, rfl⟩⟩) | (go_at_call 17; (with_reducible refine at_args #[.int .u16 a] ?_); (with_reducible refine (V1.out _).mono ?_); rintro e w' ⟨rfl, ⟨nd, rfl⟩⟩) | (go_at_call 17; (with_reducible refine at_args #[.int .u16 b] ?_); (with_reducible refine (V2.out _).mono ?_); rintro e w' ⟨rfl, ⟨nd, rfl⟩⟩) | (go_at_call 17; (with_reducible refine at_args #[.int .u16 e] ?_); (with_reducible refine (V3.out _).mono ?_); rintro e w' ⟨rfl, ⟨nd, rfl⟩⟩) | (go_at_call 16; (with_reducible refine at_args #[] ?_); (with_reducible refine (works_c _).mono ?_); rintro e w' ⟨rfl, hbw⟩; have HBn := Aside0.mk (below_step (by repeat (first | (with_reducible first | exact HB.out | apply below_alloc | apply pw_below_drewN | apply below_drew1) | exact HB.out)) hbw); clear HB hbw; have HB := HBn; clear HBn))
  go_ret
  exact ⟨rfl, by repeat (first | (with_reducible first | exact HB.out | apply below_alloc | apply pw_below_drewN | apply below_drew1) | exact HB.out)⟩
theorem back_law (a0 : Int) (w : World) (w0 : (Lit.int .u16 a0).wf = true) : Calls Try.prog 5 #[.int .u16 a0] w fun e w' => e = .returned (.bool true) ∧ Below w.heap.size w w' := by
  obtain ⟨m, hm, hm2⟩ := wf16 w0
  have x0 : 0 ≤ a0 := by omega
  have x1 : a0 < 65536 := by omega
  obtain ⟨n, hn⟩ : ∃ n, a0 % 32768 = n := ⟨_, rfl⟩
  have n0 : 0 ≤ n := by omega
  have n1 : n < 32768 := by omega
  have nn : n % 32768 = n := by omega
  have c0 : 0 ≤ (n + 1) % 32768 := by omega
  have c1 : (n + 1) % 32768 < 32768 := by omega
  have K3 := Lib.hid (AP n 3 _ 0 n0 (by omega) (apN_3 _) (apS_3 _) apE_3)
  have K4 := Lib.hid (AP ((n + 1) % 32768) 4 n 0 c0 (by omega) (by rw [apN_4]; omega) (apS_4 _) apE_4)
  have K5 : ∀ e g, dmN n = e → dmS n = g → Hid (∀ w, Calls Try.prog 11 #[.int .u16 n, .int .u8 5] w fun z w' => z = .returned (.tuple #[.int .u16 e, .int .i64 g, .int .i64 0]) ∧ Below w.heap.size w w') := fun e g he hg => Lib.hid (AP n 5 e g n0 (by omega) (by rw [apN_5, nn, he]) (by rw [apS_5, nn, hg]) apE_5)
  rw [nn] at K3
  by_cases c : n = 16383
  · subst c
    have K1 := Lib.hid (AP 16383 1 0 1 (by decide) (by decide) (by decide) (by decide) apE_1)
    have K2 := Lib.hid (AP 0 2 32766 0 (by decide) (by decide) (by decide) (by decide) apE_2)
    exact back_o a0 16383 0 32766 _ 16382 0 16383 x0 x1 hn K1 K2 K3 K4 (K5 16382 1 (by decide) (by decide)) (Lib.hid (VL 16383 16383 (by decide) (by decide) (by decide))) (Lib.hid (VL 16382 _ (by decide) (by decide) (by decide))) (by decide) (by decide) (by decide) (by decide) (by decide) rfl rfl w
  · have ea : apN (n % 32768) 1 = addI n 1 := by rw [apN_1, nn, if_neg c]
    have es : apS (n % 32768) 1 = 0 := by rw [apS_1, nn, if_neg c]
    have K1 := Lib.hid (AP n 1 _ _ n0 (by omega) ea es apE_1)
    obtain ⟨a, ha⟩ : ∃ a, addI n 1 = a := ⟨_, rfl⟩
    rw [ha] at K1
    have hA : a = if n = 32767 then 1 else n + 1 := by rw [← ha]; unfold addI; rw [nn]; simp only [show (1 : Int) % 32768 = 1 by decide]; split <;> split <;> omega
    have a0' : 1 ≤ a ∧ a < 32768 ∧ a ≠ 16384 := by rw [hA]; split <;> omega
    have aa : a % 32768 = a := by omega
    obtain ⟨b, hb⟩ : ∃ b, addI a 32766 = b := ⟨_, rfl⟩
    have hB : b = if a = 1 then 32767 else a - 1 := by rw [← hb]; unfold addI; rw [aa]; simp only [show (32766 : Int) % 32768 = 32766 by decide]; split <;> split <;> omega
    have b0' : 0 ≤ b ∧ b < 32768 := by rw [hB]; split <;> omega
    have K2 := Lib.hid (AP a 2 b 0 (by omega) (by omega) (by rw [apN_2, aa, if_neg a0'.2.2, hb]) (by rw [apS_2, aa, if_neg a0'.2.2]) apE_2)
    have hv : valI n = if n > 16383 then n - 32767 else n := by unfold valI; rw [nn]
    have hva : valI a = valI n + 1 := by rw [hv]; unfold valI; rw [aa, hA]; repeat' split; all_goals omega
    have hvb : valI b = valI n := by rw [hv]; unfold valI; rw [show b % 32768 = b by omega, hB, hA]; repeat' split; all_goals omega
    have e0 : 0 ≤ dmN n ∧ dmN n < 32768 := by unfold dmN; repeat' split; all_goals omega
    have V0 := Lib.hid (VL n _ n0 (by omega) rfl)
    have V1 := Lib.hid (VL a _ (by omega) (by omega) hva)
    have V2 := Lib.hid (VL b _ (by omega) (by omega) hvb)
    have vb : -16384 ≤ valI n ∧ valI n ≤ 16384 := by rw [hv]; split <;> omega
    by_cases p : 1 ≤ n ∧ n ≤ 16383
    · have hs : dmS n = 1 := by unfold dmS; rw [if_pos p]
      have V3 := Lib.hid (VL (dmN n) (valI n - 1) e0.1 (by omega) (by rw [hv]; unfold dmN valI; rw [if_pos p]; repeat' split; all_goals omega))
      have vp : 0 < valI n := by rw [hv]; split <;> omega
      exact back_p a0 n a b _ (dmN n) _ (valI n) x0 x1 hn K1 K2 K3 K4 (K5 _ _ rfl hs) V0 V1 V2 V3 vb.1 vb.2 (decide_eq_true vp) (decide_eq_true vp) (decide_eq_false (by omega)) rfl w
    · by_cases q : 16384 ≤ n ∧ n ≤ 32766
      · have hs : dmS n = -1 := by unfold dmS; rw [if_neg p, if_pos q]
        have V3 := Lib.hid (VL (dmN n) (valI n - (-1)) e0.1 (by omega) (by rw [hv]; unfold dmN valI; rw [if_neg p, if_pos q]; repeat' split; all_goals omega))
        have vp : valI n < 0 := by rw [hv]; split <;> omega
        exact back_m a0 n a b _ (dmN n) _ (valI n) x0 x1 hn K1 K2 K3 K4 (K5 _ _ rfl hs) V0 V1 V2 V3 vb.1 vb.2 (decide_eq_false (by omega)) (decide_eq_false (by omega)) (decide_eq_true vp) rfl w
      · have hs : dmS n = 0 := by unfold dmS; rw [if_neg p, if_neg q]
        have V3 := Lib.hid (VL (dmN n) (valI n - 0) e0.1 (by omega) (by rw [hv]; unfold dmN valI; rw [if_neg p, if_neg q]; repeat' split; all_goals omega))
        have vp : valI n = 0 := by rw [hv]; split <;> omega
        exact back_z a0 n a b _ (dmN n) _ (valI n) x0 x1 hn K1 K2 K3 K4 (K5 _ _ rfl hs) V0 V1 V2 V3 vb.1 vb.2 (decide_eq_false (by omega)) (decide_eq_false (by omega)) (decide_eq_false (by omega)) rfl w
end Go.Proofs.Ytebnodldfddbnaa.Cnt
