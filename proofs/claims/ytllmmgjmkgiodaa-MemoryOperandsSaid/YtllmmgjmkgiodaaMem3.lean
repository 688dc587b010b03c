/- MemoryReaches and MemoryOperands, as plain laws: the program's operands lead back to their words. -/
import Derived.Test.YtllmmgjmkgiodaaMem
namespace Go.Proofs.Ytllmmgjmkgiodaa.Mem
open Go.RowKit Go.Proofs.Ytllmmgjmkgiodaa.PAll Go.Proofs.YtllmmgjmkgiodaaW.PrintWords Go.Proofs.YtllmmgjmkgiodaaW.PrintLast Go.Proofs.YtllmmgjmkgiodaaW.PrintMore Go.Proofs.Ytllmmgjmkgiodaa.Plain
set_option linter.unusedVariables false
set_option linter.unusedSimpArgs false
theorem opdE_1 {x b c : Int} (x0 : 0 ≤ x) (x1 : x < 2048) (b0 : 0 ≤ b) (b1 : b < 8) (c0 : 0 ≤ c) (c1 : c < 36) : opdE 1 x b c = if x < 768 then 0 else if x / 256 = b then 0 else 3 := by
  have nb : ¬ opdBad 1 x b c := by unfold opdBad; omega
  unfold opdE; rw [if_neg (by omega), if_neg nb, if_pos rfl]
theorem opdN_1 {x b c : Int} (x0 : 0 ≤ x) (x1 : x < 2048) (b0 : 0 ≤ b) (b1 : b < 8) (c0 : 0 ≤ c) (c1 : c < 36) : opdN 1 x b c = if x < 768 then x else if x / 256 = b then 768 + x % 256 else 0 := by
  have nb : ¬ opdBad 1 x b c := by unfold opdBad; omega
  unfold opdN; rw [if_neg (by omega), if_neg nb, if_pos rfl]
theorem opdE_2 {x b c : Int} (x0 : 0 ≤ x) (x1 : x < 36864) (b0 : 0 ≤ b) (b1 : b < 8) (c0 : 0 ≤ c) (c1 : c < 36) : opdE 2 x b c = if x / 2048 = 1 then 0 else if x / 1024 = c then 0 else 3 := by
  have nb : ¬ opdBad 2 x b c := by unfold opdBad; omega
  unfold opdE; rw [if_neg (by omega), if_neg nb, if_neg (by decide)]
theorem opdN_2 {x b c : Int} (x0 : 0 ≤ x) (x1 : x < 36864) (b0 : 0 ≤ b) (b1 : b < 8) (c0 : 0 ≤ c) (c1 : c < 36) : opdN 2 x b c = if x / 2048 = 1 then x else if x / 1024 = c then 1024 + x % 1024 else 0 := by
  have nb : ¬ opdBad 2 x b c := by unfold opdBad; omega
  unfold opdN; rw [if_neg (by omega), if_neg nb, if_neg (by decide)]
theorem abs_in {k b c : Int} (k0 : 0 ≤ k) (k1 : k < 4096) (b0 : 0 ≤ b) (b1 : b < 8) (c0 : 0 ≤ c) (c1 : c < 36) : absE k b c = 0 ∧ absX k b c = (if k < 1024 then 1 else 2) ∧ absA k b c = (if k < 768 then k else if k < 1024 then b * 256 + k - 768 else if k < 2048 then c * 1024 + k - 1024 else k) := by
  have nb : ¬ (k < 0 ∨ k > 4095 ∨ b < 0 ∨ b > 7 ∨ c < 0 ∨ c > 35) := by omega
  unfold absE absX absA; rw [if_neg nb, if_neg nb, if_neg nb]; exact ⟨rfl, rfl, rfl⟩
theorem leads_1 (d : Nat) {x b c : Int} (x0 : 0 ≤ x) (x1 : x < 2048) (b0 : 0 ≤ b) (b1 : b < 8) (c0 : 0 ≤ c) (c1 : c < 36) (h : opdE 1 x b c = 0) : perilunelaw03_leads.f (d + 1) (opdN 1 x b c) b c 1 x = some true := by
  rw [opdE_1 x0 x1 b0 b1 c0 c1] at h
  rw [leads_f, opdN_1 x0 x1 b0 b1 c0 c1]
  by_cases d1 : x < 768
  · rw [if_pos d1]; obtain ⟨q1, q2, q3⟩ := abs_in (k := x) (b := b) (c := c) (by omega) (by omega) b0 b1 c0 c1
    rw [q1, q2, q3, if_pos (by omega), if_pos (by omega)]; simp
  · rw [if_neg d1] at h
    by_cases d2 : x / 256 = b
    · rw [if_neg d1, if_pos d2]; obtain ⟨q1, q2, q3⟩ := abs_in (k := 768 + x % 256) (b := b) (c := c) (by omega) (by omega) b0 b1 c0 c1
      rw [q1, q2, q3, if_pos (by omega), if_neg (by omega), if_pos (by omega)]; simp; omega
    · rw [if_neg d2] at h; omega
theorem leads_2 (d : Nat) {x b c : Int} (x0 : 0 ≤ x) (x1 : x < 36864) (b0 : 0 ≤ b) (b1 : b < 8) (c0 : 0 ≤ c) (c1 : c < 36) (h : opdE 2 x b c = 0) : perilunelaw03_leads.f (d + 1) (opdN 2 x b c) b c 2 x = some true := by
  rw [opdE_2 x0 x1 b0 b1 c0 c1] at h
  rw [leads_f, opdN_2 x0 x1 b0 b1 c0 c1]
  by_cases d1 : x / 2048 = 1
  · rw [if_pos d1]; obtain ⟨q1, q2, q3⟩ := abs_in (k := x) (b := b) (c := c) (by omega) (by omega) b0 b1 c0 c1
    rw [q1, q2, q3, if_neg (by omega), if_neg (by omega), if_neg (by omega), if_neg (by omega)]; simp
  · rw [if_neg d1] at h
    by_cases d2 : x / 1024 = c
    · rw [if_neg d1, if_pos d2]; obtain ⟨q1, q2, q3⟩ := abs_in (k := 1024 + x % 1024) (b := b) (c := c) (by omega) (by omega) b0 b1 c0 c1
      rw [q1, q2, q3, if_neg (by omega), if_neg (by omega), if_neg (by omega), if_pos (by omega)]; simp; omega
    · rw [if_neg d2] at h; omega
theorem leads_c (k e f s a : Int) (h : perilunelaw03_leads.f 1 k e f s a = some true) (w : World) : Calls Try.prog 17 #[.int .i64 k, .int .i64 e, .int .i64 f, .int .u8 s, .int .i64 a] w fun z w' => z = .returned (.bool true) ∧ Drawn0 w w' := perilunelaw03_leads.calls 1 _ _ _ _ _ _ w h
set_option maxHeartbeats 1000000 in
theorem reaches_A2 (a a1 a2 x b c z n m : Int) (l0 : 0 ≤ a) (l1 : a < 65536) (l2 : 0 ≤ a1) (l3 : a1 < 256) (l4 : 0 ≤ a2) (l5 : a2 < 256) (hx : Int.tmod a 2048 = x) (hb : Int.tmod a1 8 = b) (hc : Int.tmod a2 36 = c) (hz : Int.tmod a 36864 = z) (x0 : 0 ≤ x) (x1 : x < 2048) (b0 : 0 ≤ b) (b1 : b < 8) (c0 : 0 ≤ c) (c1 : c < 36) (z0 : 0 ≤ z) (z1 : z < 36864) (p0 : decide (x < 768) = true) (q0 : (z / 1024 == 2) = true)
    (K1 : Hid (∀ w, Calls Try.prog 14 #[.int .u8 1, .int .i64 x, .int .i64 b, .int .i64 c] w fun e w' => e = .returned (.tuple #[.int .i64 n, .int .i64 0]) ∧ Drawn0 w w'))
    (K2 : Hid (∀ w, Calls Try.prog 14 #[.int .u8 2, .int .i64 z, .int .i64 b, .int .i64 c] w fun e w' => e = .returned (.tuple #[.int .i64 m, .int .i64 0]) ∧ Drawn0 w w'))
    (K3 : Hid (∀ w, Calls Try.prog 17 #[.int .i64 n, .int .i64 b, .int .i64 c, .int .u8 1, .int .i64 x] w fun e w' => e = .returned (.bool true) ∧ Drawn0 w w'))
    (K4 : Hid (∀ w, Calls Try.prog 17 #[.int .i64 m, .int .i64 b, .int .i64 c, .int .u8 2, .int .i64 z] w fun e w' => e = .returned (.bool true) ∧ Drawn0 w w'))
    (w : World) : Calls Try.prog 4 #[.int .u16 a, .int .u8 a1, .int .u8 a2] w fun e w' => e = .returned (.bool true) ∧ Below w.heap.size w w' := by
  have HB := Aside0.mk (Below.refl w.heap.size w)
  have t2 : Int.tdiv x 256 = x / 256 := tdivp x0 256
  have t3 : Int.tdiv z 1024 = z / 1024 := tdivp z0 1024
  go_enter Try.func4, Try.ntmps4
  go_wp2_with (first | (go_at_call 14; (with_reducible refine at_args #[.int .u8 1, .int .i64 x, .int .i64 b, .int .i64 c] ?_); (with_reducible refine (K1.out _).mono ?_); rintro e w' ⟨rfl, ⟨nd, rfl⟩⟩) | (go_at_call 14; (with_reducible refine at_args #[.int .u8 2, .int .i64 z, .int .i64 b, .int .i64 c] ?_); (with_reducible refine (K2.out _).mono ?_); rintro e w' ⟨rfl, ⟨nd, rfl⟩⟩) | (go_at_call 17; (with_reducible refine at_args #[.int .i64 n, .int .i64 b, .int .i64 c, .int .u8 1, .int .i64 x] ?_); (with_reducible refine (K3.out _).mono ?_); rintro e w' ⟨rfl, ⟨nd, rfl⟩⟩) | (go_at_call 17; (with_reducible refine at_args #[.int .i64 m, .int .i64 b, .int .i64 c, .int .u8 2, .int .i64 z] ?_); (with_reducible refine (K4.out _).mono ?_); rintro e w' ⟨rfl, ⟨nd, rfl⟩⟩) | (go_at_call 16; (with_reducible refine (works_c _).mono ?_); rintro e w' ⟨rfl, hbw⟩; have HBn := Aside0.mk (below_step (by repeat (first | (with_reducible first | exact HB.out | apply below_alloc | apply pw_below_drewN | apply below_drew1) | exact HB.out)) hbw); clear HB hbw; have HB := HBn; clear HBn))
  all_goals (go_ret; exact ⟨rfl, by repeat (first | (with_reducible first | exact HB.out | apply below_alloc | apply pw_below_drewN | apply below_drew1) | exact HB.out)⟩)
set_option maxHeartbeats 1000000 in
theorem reaches_A3 (a a1 a2 x b c z n m : Int) (l0 : 0 ≤ a) (l1 : a < 65536) (l2 : 0 ≤ a1) (l3 : a1 < 256) (l4 : 0 ≤ a2) (l5 : a2 < 256) (hx : Int.tmod a 2048 = x) (hb : Int.tmod a1 8 = b) (hc : Int.tmod a2 36 = c) (hz : Int.tmod a 36864 = z) (x0 : 0 ≤ x) (x1 : x < 2048) (b0 : 0 ≤ b) (b1 : b < 8) (c0 : 0 ≤ c) (c1 : c < 36) (z0 : 0 ≤ z) (z1 : z < 36864) (p0 : decide (x < 768) = true) (q0 : (z / 1024 == 2) = false) (q1 : (z / 1024 == 3) = true)
    (K1 : Hid (∀ w, Calls Try.prog 14 #[.int .u8 1, .int .i64 x, .int .i64 b, .int .i64 c] w fun e w' => e = .returned (.tuple #[.int .i64 n, .int .i64 0]) ∧ Drawn0 w w'))
    (K2 : Hid (∀ w, Calls Try.prog 14 #[.int .u8 2, .int .i64 z, .int .i64 b, .int .i64 c] w fun e w' => e = .returned (.tuple #[.int .i64 m, .int .i64 0]) ∧ Drawn0 w w'))
    (K3 : Hid (∀ w, Calls Try.prog 17 #[.int .i64 n, .int .i64 b, .int .i64 c, .int .u8 1, .int .i64 x] w fun e w' => e = .returned (.bool true) ∧ Drawn0 w w'))
    (K4 : Hid (∀ w, Calls Try.prog 17 #[.int .i64 m, .int .i64 b, .int .i64 c, .int .u8 2, .int .i64 z] w fun e w' => e = .returned (.bool true) ∧ Drawn0 w w'))
    (w : World) : Calls Try.prog 4 #[.int .u16 a, .int .u8 a1, .int .u8 a2] w fun e w' => e = .returned (.bool true) ∧ Below w.heap.size w w' := by
  have HB := Aside0.mk (Below.refl w.heap.size w)
  have t2 : Int.tdiv x 256 = x / 256 := tdivp x0 256
  have t3 : Int.tdiv z 1024 = z / 1024 := tdivp z0 1024
  go_enter Try.func4, Try.ntmps4
  go_wp2_with (first | (go_at_call 14; (with_reducible refine at_args #[.int .u8 1, .int .i64 x, .int .i64 b, .int .i64 c] ?_); (with_reducible refine (K1.out _).mono ?_); rintro e w' ⟨rfl, ⟨nd, rfl⟩⟩) | (go_at_call 14; (with_reducible refine at_args #[.int .u8 2, .int .i64 z, .int .i64 b, .int .i64 c] ?_); (with_reducible refine (K2.out _).mono ?_); rintro e w' ⟨rfl, ⟨nd, rfl⟩⟩) | (go_at_call 17; (with_reducible refine at_args #[.int .i64 n, .int .i64 b, .int .i64 c, .int .u8 1, .int .i64 x] ?_); (with_reducible refine (K3.out _).mono ?_); rintro e w' ⟨rfl, ⟨nd, rfl⟩⟩) | (go_at_call 17; (with_reducible refine at_args #[.int .i64 m, .int .i64 b, .int .i64 c, .int .u8 2, .int .i64 z] ?_); (with_reducible refine (K4.out _).mono ?_); rintro e w' ⟨rfl, ⟨nd, rfl⟩⟩) | (go_at_call 16; (with_reducible refine (works_c _).mono ?_); rintro e w' ⟨rfl, hbw⟩; have HBn := Aside0.mk (below_step (by repeat (first | (with_reducible first | exact HB.out | apply below_alloc | apply pw_below_drewN | apply below_drew1) | exact HB.out)) hbw); clear HB hbw; have HB := HBn; clear HBn))
  all_goals (go_ret; exact ⟨rfl, by repeat (first | (with_reducible first | exact HB.out | apply below_alloc | apply pw_below_drewN | apply below_drew1) | exact HB.out)⟩)
set_option maxHeartbeats 1000000 in
theorem reaches_Ac (a a1 a2 x b c z n m : Int) (l0 : 0 ≤ a) (l1 : a < 65536) (l2 : 0 ≤ a1) (l3 : a1 < 256) (l4 : 0 ≤ a2) (l5 : a2 < 256) (hx : Int.tmod a 2048 = x) (hb : Int.tmod a1 8 = b) (hc : Int.tmod a2 36 = c) (hz : Int.tmod a 36864 = z) (x0 : 0 ≤ x) (x1 : x < 2048) (b0 : 0 ≤ b) (b1 : b < 8) (c0 : 0 ≤ c) (c1 : c < 36) (z0 : 0 ≤ z) (z1 : z < 36864) (p0 : decide (x < 768) = true) (q0 : (z / 1024 == 2) = false) (q1 : (z / 1024 == 3) = false) (q2 : (z / 1024 == c) = true)
    (K1 : Hid (∀ w, Calls Try.prog 14 #[.int .u8 1, .int .i64 x, .int .i64 b, .int .i64 c] w fun e w' => e = .returned (.tuple #[.int .i64 n, .int .i64 0]) ∧ Drawn0 w w'))
    (K2 : Hid (∀ w, Calls Try.prog 14 #[.int .u8 2, .int .i64 z, .int .i64 b, .int .i64 c] w fun e w' => e = .returned (.tuple #[.int .i64 m, .int .i64 0]) ∧ Drawn0 w w'))
    (K3 : Hid (∀ w, Calls Try.prog 17 #[.int .i64 n, .int .i64 b, .int .i64 c, .int .u8 1, .int .i64 x] w fun e w' => e = .returned (.bool true) ∧ Drawn0 w w'))
    (K4 : Hid (∀ w, Calls Try.prog 17 #[.int .i64 m, .int .i64 b, .int .i64 c, .int .u8 2, .int .i64 z] w fun e w' => e = .returned (.bool true) ∧ Drawn0 w w'))
    (w : World) : Calls Try.prog 4 #[.int .u16 a, .int .u8 a1, .int .u8 a2] w fun e w' => e = .returned (.bool true) ∧ Below w.heap.size w w' := by
  have HB := Aside0.mk (Below.refl w.heap.size w)
  have t2 : Int.tdiv x 256 = x / 256 := tdivp x0 256
  have t3 : Int.tdiv z 1024 = z / 1024 := tdivp z0 1024
  go_enter Try.func4, Try.ntmps4
  go_wp2_with (first | (go_at_call 14; (with_reducible refine at_args #[.int .u8 1, .int .i64 x, .int .i64 b, .int .i64 c] ?_); (with_reducible refine (K1.out _).mono ?_); rintro e w' ⟨rfl, ⟨nd, rfl⟩⟩) | (go_at_call 14; (with_reducible refine at_args #[.int .u8 2, .int .i64 z, .int .i64 b, .int .i64 c] ?_); (with_reducible refine (K2.out _).mono ?_); rintro e w' ⟨rfl, ⟨nd, rfl⟩⟩) | (go_at_call 17; (with_reducible refine at_args #[.int .i64 n, .int .i64 b, .int .i64 c, .int .u8 1, .int .i64 x] ?_); (with_reducible refine (K3.out _).mono ?_); rintro e w' ⟨rfl, ⟨nd, rfl⟩⟩) | (go_at_call 17; (with_reducible refine at_args #[.int .i64 m, .int .i64 b, .int .i64 c, .int .u8 2, .int .i64 z] ?_); (with_reducible refine (K4.out _).mono ?_); rintro e w' ⟨rfl, ⟨nd, rfl⟩⟩) | (go_at_call 16; (with_reducible refine (works_c _).mono ?_); rintro e w' ⟨rfl, hbw⟩; have HBn := Aside0.mk (below_step (by repeat (first | (with_reducible first | exact HB.out | apply below_alloc | apply pw_below_drewN | apply below_drew1) | exact HB.out)) hbw); clear HB hbw; have HB := HBn; clear HBn))
  all_goals (go_ret; exact ⟨rfl, by repeat (first | (with_reducible first | exact HB.out | apply below_alloc | apply pw_below_drewN | apply below_drew1) | exact HB.out)⟩)
set_option maxHeartbeats 1000000 in
theorem reaches_An (a a1 a2 x b c z n m : Int) (l0 : 0 ≤ a) (l1 : a < 65536) (l2 : 0 ≤ a1) (l3 : a1 < 256) (l4 : 0 ≤ a2) (l5 : a2 < 256) (hx : Int.tmod a 2048 = x) (hb : Int.tmod a1 8 = b) (hc : Int.tmod a2 36 = c) (hz : Int.tmod a 36864 = z) (x0 : 0 ≤ x) (x1 : x < 2048) (b0 : 0 ≤ b) (b1 : b < 8) (c0 : 0 ≤ c) (c1 : c < 36) (z0 : 0 ≤ z) (z1 : z < 36864) (p0 : decide (x < 768) = true) (q0 : (z / 1024 == 2) = false) (q1 : (z / 1024 == 3) = false) (q2 : (z / 1024 == c) = false)
    (K1 : Hid (∀ w, Calls Try.prog 14 #[.int .u8 1, .int .i64 x, .int .i64 b, .int .i64 c] w fun e w' => e = .returned (.tuple #[.int .i64 n, .int .i64 0]) ∧ Drawn0 w w'))
    (K2 : Hid (∀ w, Calls Try.prog 14 #[.int .u8 2, .int .i64 z, .int .i64 b, .int .i64 c] w fun e w' => e = .returned (.tuple #[.int .i64 m, .int .i64 3]) ∧ Drawn0 w w'))
    (K3 : Hid (∀ w, Calls Try.prog 17 #[.int .i64 n, .int .i64 b, .int .i64 c, .int .u8 1, .int .i64 x] w fun e w' => e = .returned (.bool true) ∧ Drawn0 w w'))
    (w : World) : Calls Try.prog 4 #[.int .u16 a, .int .u8 a1, .int .u8 a2] w fun e w' => e = .returned (.bool true) ∧ Below w.heap.size w w' := by
  have HB := Aside0.mk (Below.refl w.heap.size w)
  have t2 : Int.tdiv x 256 = x / 256 := tdivp x0 256
  have t3 : Int.tdiv z 1024 = z / 1024 := tdivp z0 1024
  go_enter Try.func4, Try.ntmps4
  go_wp2_with (first | (go_at_call 14; (with_reducible refine at_args #[.int .u8 1, .int .i64 x, .int .i64 b, .int .i64 c] ?_); (with_reducible refine (K1.out _).mono ?_); rintro e w' ⟨rfl, ⟨nd, rfl⟩⟩) | (go_at_call 14; (with_reducible refine at_args #[.int .u8 2, .int .i64 z, .int .i64 b, .int .i64 c] ?_); (with_reducible refine (K2.out _).mono ?_); rintro e w' ⟨rfl, ⟨nd, rfl⟩⟩) | (go_at_call 17; (with_reducible refine at_args #[.int .i64 n, .int .i64 b, .int .i64 c, .int .u8 1, .int .i64 x] ?_); (with_reducible refine (K3.out _).mono ?_); rintro e w' ⟨rfl, ⟨nd, rfl⟩⟩) | (go_at_call 16; (with_reducible refine (works_c _).mono ?_); rintro e w' ⟨rfl, hbw⟩; have HBn := Aside0.mk (below_step (by repeat (first | (with_reducible first | exact HB.out | apply below_alloc | apply pw_below_drewN | apply below_drew1) | exact HB.out)) hbw); clear HB hbw; have HB := HBn; clear HBn))
  all_goals (go_ret; exact ⟨rfl, by repeat (first | (with_reducible first | exact HB.out | apply below_alloc | apply pw_below_drewN | apply below_drew1) | exact HB.out)⟩)
set_option maxHeartbeats 1000000 in
theorem reaches_B2 (a a1 a2 x b c z n m : Int) (l0 : 0 ≤ a) (l1 : a < 65536) (l2 : 0 ≤ a1) (l3 : a1 < 256) (l4 : 0 ≤ a2) (l5 : a2 < 256) (hx : Int.tmod a 2048 = x) (hb : Int.tmod a1 8 = b) (hc : Int.tmod a2 36 = c) (hz : Int.tmod a 36864 = z) (x0 : 0 ≤ x) (x1 : x < 2048) (b0 : 0 ≤ b) (b1 : b < 8) (c0 : 0 ≤ c) (c1 : c < 36) (z0 : 0 ≤ z) (z1 : z < 36864) (p0 : decide (x < 768) = false) (p1 : (x / 256 == b) = true) (q0 : (z / 1024 == 2) = true)
    (K1 : Hid (∀ w, Calls Try.prog 14 #[.int .u8 1, .int .i64 x, .int .i64 b, .int .i64 c] w fun e w' => e = .returned (.tuple #[.int .i64 n, .int .i64 0]) ∧ Drawn0 w w'))
    (K2 : Hid (∀ w, Calls Try.prog 14 #[.int .u8 2, .int .i64 z, .int .i64 b, .int .i64 c] w fun e w' => e = .returned (.tuple #[.int .i64 m, .int .i64 0]) ∧ Drawn0 w w'))
    (K3 : Hid (∀ w, Calls Try.prog 17 #[.int .i64 n, .int .i64 b, .int .i64 c, .int .u8 1, .int .i64 x] w fun e w' => e = .returned (.bool true) ∧ Drawn0 w w'))
    (K4 : Hid (∀ w, Calls Try.prog 17 #[.int .i64 m, .int .i64 b, .int .i64 c, .int .u8 2, .int .i64 z] w fun e w' => e = .returned (.bool true) ∧ Drawn0 w w'))
    (w : World) : Calls Try.prog 4 #[.int .u16 a, .int .u8 a1, .int .u8 a2] w fun e w' => e = .returned (.bool true) ∧ Below w.heap.size w w' := by
  have HB := Aside0.mk (Below.refl w.heap.size w)
  have t2 : Int.tdiv x 256 = x / 256 := tdivp x0 256
  have t3 : Int.tdiv z 1024 = z / 1024 := tdivp z0 1024
  go_enter Try.func4, Try.ntmps4
  go_wp2_with (first | (go_at_call 14; (with_reducible refine at_args #[.int .u8 1, .int .i64 x, .int .i64 b, .int .i64 c] ?_); (with_reducible refine (K1.out _).mono ?_); rintro e w' ⟨rfl, ⟨nd, rfl⟩⟩) | (go_at_call 14; (with_reducible refine at_args #[.int .u8 2, .int .i64 z, .int .i64 b, .int .i64 c] ?_); (with_reducible refine (K2.out _).mono ?_); rintro e w' ⟨rfl, ⟨nd, rfl⟩⟩) | (go_at_call 17; (with_reducible refine at_args #[.int .i64 n, .int .i64 b, .int .i64 c, .int .u8 1, .int .i64 x] ?_); (with_reducible refine (K3.out _).mono ?_); rintro e w' ⟨rfl, ⟨nd, rfl⟩⟩) | (go_at_call 17; (with_reducible refine at_args #[.int .i64 m, .int .i64 b, .int .i64 c, .int .u8 2, .int .i64 z] ?_); (with_reducible refine (K4.out _).mono ?_); rintro e w' ⟨rfl, ⟨nd, rfl⟩⟩) | (go_at_call 16; (with_reducible refine (works_c _).mono ?_); rintro e w' ⟨rfl, hbw⟩; have HBn := Aside0.mk (below_step (by repeat (first | (with_reducible first | exact HB.out | apply below_alloc | apply pw_below_drewN | apply below_drew1) | exact HB.out)) hbw); clear HB hbw; have HB := HBn; clear HBn))
  all_goals (go_ret; exact ⟨rfl, by repeat (first | (with_reducible first | exact HB.out | apply below_alloc | apply pw_below_drewN | apply below_drew1) | exact HB.out)⟩)
set_option maxHeartbeats 1000000 in
theorem reaches_B3 (a a1 a2 x b c z n m : Int) (l0 : 0 ≤ a) (l1 : a < 65536) (l2 : 0 ≤ a1) (l3 : a1 < 256) (l4 : 0 ≤ a2) (l5 : a2 < 256) (hx : Int.tmod a 2048 = x) (hb : Int.tmod a1 8 = b) (hc : Int.tmod a2 36 = c) (hz : Int.tmod a 36864 = z) (x0 : 0 ≤ x) (x1 : x < 2048) (b0 : 0 ≤ b) (b1 : b < 8) (c0 : 0 ≤ c) (c1 : c < 36) (z0 : 0 ≤ z) (z1 : z < 36864) (p0 : decide (x < 768) = false) (p1 : (x / 256 == b) = true) (q0 : (z / 1024 == 2) = false) (q1 : (z / 1024 == 3) = true)
    (K1 : Hid (∀ w, Calls Try.prog 14 #[.int .u8 1, .int .i64 x, .int .i64 b, .int .i64 c] w fun e w' => e = .returned (.tuple #[.int .i64 n, .int .i64 0]) ∧ Drawn0 w w'))
    (K2 : Hid (∀ w, Calls Try.prog 14 #[.int .u8 2, .int .i64 z, .int .i64 b, .int .i64 c] w fun e w' => e = .returned (.tuple #[.int .i64 m, .int .i64 0]) ∧ Drawn0 w w'))
    (K3 : Hid (∀ w, Calls Try.prog 17 #[.int .i64 n, .int .i64 b, .int .i64 c, .int .u8 1, .int .i64 x] w fun e w' => e = .returned (.bool true) ∧ Drawn0 w w'))
    (K4 : Hid (∀ w, Calls Try.prog 17 #[.int .i64 m, .int .i64 b, .int .i64 c, .int .u8 2, .int .i64 z] w fun e w' => e = .returned (.bool true) ∧ Drawn0 w w'))
    (w : World) : Calls Try.prog 4 #[.int .u16 a, .int .u8 a1, .int .u8 a2] w fun e w' => e = .returned (.bool true) ∧ Below w.heap.size w w' := by
  have HB := Aside0.mk (Below.refl w.heap.size w)
  have t2 : Int.tdiv x 256 = x / 256 := tdivp x0 256
  have t3 : Int.tdiv z 1024 = z / 1024 := tdivp z0 1024
  go_enter Try.func4, Try.ntmps4
  go_wp2_with (first | (go_at_call 14; (with_reducible refine at_args #[.int .u8 1, .int .i64 x, .int .i64 b, .int .i64 c] ?_); (with_reducible refine (K1.out _).mono ?_); rintro e w' ⟨rfl, ⟨nd, rfl⟩⟩) | (go_at_call 14; (with_reducible refine at_args #[.int .u8 2, .int .i64 z, .int .i64 b, .int .i64 c] ?_); (with_reducible refine (K2.out _).mono ?_); rintro e w' ⟨rfl, ⟨nd, rfl⟩⟩) | (go_at_call 17; (with_reducible refine at_args #[.int .i64 n, .int .i64 b, .int .i64 c, .int .u8 1, .int .i64 x] ?_); (with_reducible refine (K3.out _).mono ?_); rintro e w' ⟨rfl, ⟨nd, rfl⟩⟩) | (go_at_call 17; (with_reducible refine at_args #[.int .i64 m, .int .i64 b, .int .i64 c, .int .u8 2, .int .i64 z] ?_); (with_reducible refine (K4.out _).mono ?_); rintro e w' ⟨rfl, ⟨nd, rfl⟩⟩) | (go_at_call 16; (with_reducible refine (works_c _).mono ?_); rintro e w' ⟨rfl, hbw⟩; have HBn := Aside0.mk (below_step (by repeat (first | (with_reducible first | exact HB.out | apply below_alloc | apply pw_below_drewN | apply below_drew1) | exact HB.out)) hbw); clear HB hbw; have HB := HBn; clear HBn))
  all_goals (go_ret; exact ⟨rfl, by repeat (first | (with_reducible first | exact HB.out | apply below_alloc | apply pw_below_drewN | apply below_drew1) | exact HB.out)⟩)
set_option maxHeartbeats 1000000 in
theorem reaches_Bc (a a1 a2 x b c z n m : Int) (l0 : 0 ≤ a) (l1 : a < 65536) (l2 : 0 ≤ a1) (l3 : a1 < 256) (l4 : 0 ≤ a2) (l5 : a2 < 256) (hx : Int.tmod a 2048 = x) (hb : Int.tmod a1 8 = b) (hc : Int.tmod a2 36 = c) (hz : Int.tmod a 36864 = z) (x0 : 0 ≤ x) (x1 : x < 2048) (b0 : 0 ≤ b) (b1 : b < 8) (c0 : 0 ≤ c) (c1 : c < 36) (z0 : 0 ≤ z) (z1 : z < 36864) (p0 : decide (x < 768) = false) (p1 : (x / 256 == b) = true) (q0 : (z / 1024 == 2) = false) (q1 : (z / 1024 == 3) = false) (q2 : (z / 1024 == c) = true)
    (K1 : Hid (∀ w, Calls Try.prog 14 #[.int .u8 1, .int .i64 x, .int .i64 b, .int .i64 c] w fun e w' => e = .returned (.tuple #[.int .i64 n, .int .i64 0]) ∧ Drawn0 w w'))
    (K2 : Hid (∀ w, Calls Try.prog 14 #[.int .u8 2, .int .i64 z, .int .i64 b, .int .i64 c] w fun e w' => e = .returned (.tuple #[.int .i64 m, .int .i64 0]) ∧ Drawn0 w w'))
    (K3 : Hid (∀ w, Calls Try.prog 17 #[.int .i64 n, .int .i64 b, .int .i64 c, .int .u8 1, .int .i64 x] w fun e w' => e = .returned (.bool true) ∧ Drawn0 w w'))
    (K4 : Hid (∀ w, Calls Try.prog 17 #[.int .i64 m, .int .i64 b, .int .i64 c, .int .u8 2, .int .i64 z] w fun e w' => e = .returned (.bool true) ∧ Drawn0 w w'))
    (w : World) : Calls Try.prog 4 #[.int .u16 a, .int .u8 a1, .int .u8 a2] w fun e w' => e = .returned (.bool true) ∧ Below w.heap.size w w' := by
  have HB := Aside0.mk (Below.refl w.heap.size w)
  have t2 : Int.tdiv x 256 = x / 256 := tdivp x0 256
  have t3 : Int.tdiv z 1024 = z / 1024 := tdivp z0 1024
  go_enter Try.func4, Try.ntmps4
  go_wp2_with (first | (go_at_call 14; (with_reducible refine at_args #[.int .u8 1, .int .i64 x, .int .i64 b, .int .i64 c] ?_); (with_reducible refine (K1.out _).mono ?_); rintro e w' ⟨rfl, ⟨nd, rfl⟩⟩) | (go_at_call 14; (with_reducible refine at_args #[.int .u8 2, .int .i64 z, .int .i64 b, .int .i64 c] ?_); (with_reducible refine (K2.out _).mono ?_); rintro e w' ⟨rfl, ⟨nd, rfl⟩⟩) | (go_at_call 17; (with_reducible refine at_args #[.int .i64 n, .int .i64 b, .int .i64 c, .int .u8 1, .int .i64 x] ?_); (with_reducible refine (K3.out _).mono ?_); rintro e w' ⟨rfl, ⟨nd, rfl⟩⟩) | (go_at_call 17; (with_reducible refine at_args #[.int .i64 m, .int .i64 b, .int .i64 c, .int .u8 2, .int .i64 z] ?_); (with_reducible refine (K4.out _).mono ?_); rintro e w' ⟨rfl, ⟨nd, rfl⟩⟩) | (go_at_call 16; (with_reducible refine (works_c _).mono ?_); rintro e w' ⟨rfl, hbw⟩; have HBn := Aside0.mk (below_step (by repeat (first | (with_reducible first | exact HB.out | apply below_alloc | apply pw_below_drewN | apply below_drew1) | exact HB.out)) hbw); clear HB hbw; have HB := HBn; clear HBn))
  all_goals (go_ret; exact ⟨rfl, by repeat (first | (with_reducible first | exact HB.out | apply below_alloc | apply pw_below_drewN | apply below_drew1) | exact HB.out)⟩)
set_option maxHeartbeats 1000000 in
theorem reaches_Bn (a a1 a2 x b c z n m : Int) (l0 : 0 ≤ a) (l1 : a < 65536) (l2 : 0 ≤ a1) (l3 : a1 < 256) (l4 : 0 ≤ a2) (l5 : a2 < 256) (hx : Int.tmod a 2048 = x) (hb : Int.tmod a1 8 = b) (hc : Int.tmod a2 36 = c) (hz : Int.tmod a 36864 = z) (x0 : 0 ≤ x) (x1 : x < 2048) (b0 : 0 ≤ b) (b1 : b < 8) (c0 : 0 ≤ c) (c1 : c < 36) (z0 : 0 ≤ z) (z1 : z < 36864) (p0 : decide (x < 768) = false) (p1 : (x / 256 == b) = true) (q0 : (z / 1024 == 2) = false) (q1 : (z / 1024 == 3) = false) (q2 : (z / 1024 == c) = false)
    (K1 : Hid (∀ w, Calls Try.prog 14 #[.int .u8 1, .int .i64 x, .int .i64 b, .int .i64 c] w fun e w' => e = .returned (.tuple #[.int .i64 n, .int .i64 0]) ∧ Drawn0 w w'))
    (K2 : Hid (∀ w, Calls Try.prog 14 #[.int .u8 2, .int .i64 z, .int .i64 b, .int .i64 c] w fun e w' => e = .returned (.tuple #[.int .i64 m, .int .i64 3]) ∧ Drawn0 w w'))
    (K3 : Hid (∀ w, Calls Try.prog 17 #[.int .i64 n, .int .i64 b, .int .i64 c, .int .u8 1, .int .i64 x] w fun e w' => e = .returned (.bool true) ∧ Drawn0 w w'))
    (w : World) : Calls Try.prog 4 #[.int .u16 a, .int .u8 a1, .int .u8 a2] w fun e w' => e = .returned (.bool true) ∧ Below w.heap.size w w' := by
  have HB := Aside0.mk (Below.refl w.heap.size w)
  have t2 : Int.tdiv x 256 = x / 256 := tdivp x0 256
  have t3 : Int.tdiv z 1024 = z / 1024 := tdivp z0 1024
  go_enter Try.func4, Try.ntmps4
  go_wp2_with (first | (go_at_call 14; (with_reducible refine at_args #[.int .u8 1, .int .i64 x, .int .i64 b, .int .i64 c] ?_); (with_reducible refine (K1.out _).mono ?_); rintro e w' ⟨rfl, ⟨nd, rfl⟩⟩) | (go_at_call 14; (with_reducible refine at_args #[.int .u8 2, .int .i64 z, .int .i64 b, .int .i64 c] ?_); (with_reducible refine (K2.out _).mono ?_); rintro e w' ⟨rfl, ⟨nd, rfl⟩⟩) | (go_at_call 17; (with_reducible refine at_args #[.int .i64 n, .int .i64 b, .int .i64 c, .int .u8 1, .int .i64 x] ?_); (with_reducible refine (K3.out _).mono ?_); rintro e w' ⟨rfl, ⟨nd, rfl⟩⟩) | (go_at_call 16; (with_reducible refine (works_c _).mono ?_); rintro e w' ⟨rfl, hbw⟩; have HBn := Aside0.mk (below_step (by repeat (first | (with_reducible first | exact HB.out | apply below_alloc | apply pw_below_drewN | apply below_drew1) | exact HB.out)) hbw); clear HB hbw; have HB := HBn; clear HBn))
  all_goals (go_ret; exact ⟨rfl, by repeat (first | (with_reducible first | exact HB.out | apply below_alloc | apply pw_below_drewN | apply below_drew1) | exact HB.out)⟩)
set_option maxHeartbeats 1000000 in
theorem reaches_C2 (a a1 a2 x b c z n m : Int) (l0 : 0 ≤ a) (l1 : a < 65536) (l2 : 0 ≤ a1) (l3 : a1 < 256) (l4 : 0 ≤ a2) (l5 : a2 < 256) (hx : Int.tmod a 2048 = x) (hb : Int.tmod a1 8 = b) (hc : Int.tmod a2 36 = c) (hz : Int.tmod a 36864 = z) (x0 : 0 ≤ x) (x1 : x < 2048) (b0 : 0 ≤ b) (b1 : b < 8) (c0 : 0 ≤ c) (c1 : c < 36) (z0 : 0 ≤ z) (z1 : z < 36864) (p0 : decide (x < 768) = false) (p1 : (x / 256 == b) = false) (q0 : (z / 1024 == 2) = true)
    (K1 : Hid (∀ w, Calls Try.prog 14 #[.int .u8 1, .int .i64 x, .int .i64 b, .int .i64 c] w fun e w' => e = .returned (.tuple #[.int .i64 n, .int .i64 3]) ∧ Drawn0 w w'))
    (K2 : Hid (∀ w, Calls Try.prog 14 #[.int .u8 2, .int .i64 z, .int .i64 b, .int .i64 c] w fun e w' => e = .returned (.tuple #[.int .i64 m, .int .i64 0]) ∧ Drawn0 w w'))
    (K4 : Hid (∀ w, Calls Try.prog 17 #[.int .i64 m, .int .i64 b, .int .i64 c, .int .u8 2, .int .i64 z] w fun e w' => e = .returned (.bool true) ∧ Drawn0 w w'))
    (w : World) : Calls Try.prog 4 #[.int .u16 a, .int .u8 a1, .int .u8 a2] w fun e w' => e = .returned (.bool true) ∧ Below w.heap.size w w' := by
  have HB := Aside0.mk (Below.refl w.heap.size w)
  have t2 : Int.tdiv x 256 = x / 256 := tdivp x0 256
  have t3 : Int.tdiv z 1024 = z / 1024 := tdivp z0 1024
  go_enter Try.func4, Try.ntmps4
  go_wp2_with (first | (go_at_call 14; (with_reducible refine at_args #[.int .u8 1, .int .i64 x, .int .i64 b, .int .i64 c] ?_); (with_reducible refine (K1.out _).mono ?_); rintro e w' ⟨rfl, ⟨nd, rfl⟩⟩) | (go_at_call 14; (with_reducible refine at_args #[.int .u8 2, .int .i64 z, .int .i64 b, .int .i64 c] ?_); (with_reducible refine (K2.out _).mono ?_); rintro e w' ⟨rfl, ⟨nd, rfl⟩⟩) | (go_at_call 17; (with_reducible refine at_args #[.int .i64 m, .int .i64 b, .int .i64 c, .int .u8 2, .int .i64 z] ?_); (with_reducible refine (K4.out _).mono ?_); rintro e w' ⟨rfl, ⟨nd, rfl⟩⟩) | (go_at_call 16; (with_reducible refine (works_c _).mono ?_); rintro e w' ⟨rfl, hbw⟩; have HBn := Aside0.mk (below_step (by repeat (first | (with_reducible first | exact HB.out | apply below_alloc | apply pw_below_drewN | apply below_drew1) | exact HB.out)) hbw); clear HB hbw; have HB := HBn; clear HBn))
  all_goals (go_ret; exact ⟨rfl, by repeat (first | (with_reducible first | exact HB.out | apply below_alloc | apply pw_below_drewN | apply below_drew1) | exact HB.out)⟩)
set_option maxHeartbeats 1000000 in
theorem reaches_C3 (a a1 a2 x b c z n m : Int) (l0 : 0 ≤ a) (l1 : a < 65536) (l2 : 0 ≤ a1) (l3 : a1 < 256) (l4 : 0 ≤ a2) (l5 : a2 < 256) (hx : Int.tmod a 2048 = x) (hb : Int.tmod a1 8 = b) (hc : Int.tmod a2 36 = c) (hz : Int.tmod a 36864 = z) (x0 : 0 ≤ x) (x1 : x < 2048) (b0 : 0 ≤ b) (b1 : b < 8) (c0 : 0 ≤ c) (c1 : c < 36) (z0 : 0 ≤ z) (z1 : z < 36864) (p0 : decide (x < 768) = false) (p1 : (x / 256 == b) = false) (q0 : (z / 1024 == 2) = false) (q1 : (z / 1024 == 3) = true)
    (K1 : Hid (∀ w, Calls Try.prog 14 #[.int .u8 1, .int .i64 x, .int .i64 b, .int .i64 c] w fun e w' => e = .returned (.tuple #[.int .i64 n, .int .i64 3]) ∧ Drawn0 w w'))
    (K2 : Hid (∀ w, Calls Try.prog 14 #[.int .u8 2, .int .i64 z, .int .i64 b, .int .i64 c] w fun e w' => e = .returned (.tuple #[.int .i64 m, .int .i64 0]) ∧ Drawn0 w w'))
    (K4 : Hid (∀ w, Calls Try.prog 17 #[.int .i64 m, .int .i64 b, .int .i64 c, .int .u8 2, .int .i64 z] w fun e w' => e = .returned (.bool true) ∧ Drawn0 w w'))
    (w : World) : Calls Try.prog 4 #[.int .u16 a, .int .u8 a1, .int .u8 a2] w fun e w' => e = .returned (.bool true) ∧ Below w.heap.size w w' := by
  have HB := Aside0.mk (Below.refl w.heap.size w)
  have t2 : Int.tdiv x 256 = x / 256 := tdivp x0 256
  have t3 : Int.tdiv z 1024 = z / 1024 := tdivp z0 1024
  go_enter Try.func4, Try.ntmps4
  go_wp2_with (first | (go_at_call 14; (with_reducible refine at_args #[.int .u8 1, .int .i64 x, .int .i64 b, .int .i64 c] ?_); (with_reducible refine (K1.out _).mono ?_); rintro e w' ⟨rfl, ⟨nd, rfl⟩⟩) | (go_at_call 14; (with_reducible refine at_args #[.int .u8 2, .int .i64 z, .int .i64 b, .int .i64 c] ?_); (with_reducible refine (K2.out _).mono ?_); rintro e w' ⟨rfl, ⟨nd, rfl⟩⟩) | (go_at_call 17; (with_reducible refine at_args #[.int .i64 m, .int .i64 b, .int .i64 c, .int .u8 2, .int .i64 z] ?_); (with_reducible refine (K4.out _).mono ?_); rintro e w' ⟨rfl, ⟨nd, rfl⟩⟩) | (go_at_call 16; (with_reducible refine (works_c _).mono ?_); rintro e w' ⟨rfl, hbw⟩; have HBn := Aside0.mk (below_step (by repeat (first | (with_reducible first | exact HB.out | apply below_alloc | apply pw_below_drewN | apply below_drew1) | exact HB.out)) hbw); clear HB hbw; have HB := HBn; clear HBn))
  all_goals (go_ret; exact ⟨rfl, by repeat (first | (with_reducible first | exact HB.out | apply below_alloc | apply pw_below_drewN | apply below_drew1) | exact HB.out)⟩)
set_option maxHeartbeats 1000000 in
theorem reaches_Cc (a a1 a2 x b c z n m : Int) (l0 : 0 ≤ a) (l1 : a < 65536) (l2 : 0 ≤ a1) (l3 : a1 < 256) (l4 : 0 ≤ a2) (l5 : a2 < 256) (hx : Int.tmod a 2048 = x) (hb : Int.tmod a1 8 = b) (hc : Int.tmod a2 36 = c) (hz : Int.tmod a 36864 = z) (x0 : 0 ≤ x) (x1 : x < 2048) (b0 : 0 ≤ b) (b1 : b < 8) (c0 : 0 ≤ c) (c1 : c < 36) (z0 : 0 ≤ z) (z1 : z < 36864) (p0 : decide (x < 768) = false) (p1 : (x / 256 == b) = false) (q0 : (z / 1024 == 2) = false) (q1 : (z / 1024 == 3) = false) (q2 : (z / 1024 == c) = true)
    (K1 : Hid (∀ w, Calls Try.prog 14 #[.int .u8 1, .int .i64 x, .int .i64 b, .int .i64 c] w fun e w' => e = .returned (.tuple #[.int .i64 n, .int .i64 3]) ∧ Drawn0 w w'))
    (K2 : Hid (∀ w, Calls Try.prog 14 #[.int .u8 2, .int .i64 z, .int .i64 b, .int .i64 c] w fun e w' => e = .returned (.tuple #[.int .i64 m, .int .i64 0]) ∧ Drawn0 w w'))
    (K4 : Hid (∀ w, Calls Try.prog 17 #[.int .i64 m, .int .i64 b, .int .i64 c, .int .u8 2, .int .i64 z] w fun e w' => e = .returned (.bool true) ∧ Drawn0 w w'))
    (w : World) : Calls Try.prog 4 #[.int .u16 a, .int .u8 a1, .int .u8 a2] w fun e w' => e = .returned (.bool true) ∧ Below w.heap.size w w' := by
  have HB := Aside0.mk (Below.refl w.heap.size w)
  have t2 : Int.tdiv x 256 = x / 256 := tdivp x0 256
  have t3 : Int.tdiv z 1024 = z / 1024 := tdivp z0 1024
  go_enter Try.func4, Try.ntmps4
  go_wp2_with (first | (go_at_call 14; (with_reducible refine at_args #[.int .u8 1, .int .i64 x, .int .i64 b, .int .i64 c] ?_); (with_reducible refine (K1.out _).mono ?_); rintro e w' ⟨rfl, ⟨nd, rfl⟩⟩) | (go_at_call 14; (with_reducible refine at_args #[.int .u8 2, .int .i64 z, .int .i64 b, .int .i64 c] ?_); (with_reducible refine (K2.out _).mono ?_); rintro e w' ⟨rfl, ⟨nd, rfl⟩⟩) | (go_at_call 17; (with_reducible refine at_args #[.int .i64 m, .int .i64 b, .int .i64 c, .int .u8 2, .int .i64 z] ?_); (with_reducible refine (K4.out _).mono ?_); rintro e w' ⟨rfl, ⟨nd, rfl⟩⟩) | (go_at_call 16; (with_reducible refine (works_c _).mono ?_); rintro e w' ⟨rfl, hbw⟩; have HBn := Aside0.mk (below_step (by repeat (first | (with_reducible first | exact HB.out | apply below_alloc | apply pw_below_drewN | apply below_drew1) | exact HB.out)) hbw); clear HB hbw; have HB := HBn; clear HBn))
  all_goals (go_ret; exact ⟨rfl, by repeat (first | (with_reducible first | exact HB.out | apply below_alloc | apply pw_below_drewN | apply below_drew1) | exact HB.out)⟩)
set_option maxHeartbeats 1000000 in
theorem reaches_Cn (a a1 a2 x b c z n m : Int) (l0 : 0 ≤ a) (l1 : a < 65536) (l2 : 0 ≤ a1) (l3 : a1 < 256) (l4 : 0 ≤ a2) (l5 : a2 < 256) (hx : Int.tmod a 2048 = x) (hb : Int.tmod a1 8 = b) (hc : Int.tmod a2 36 = c) (hz : Int.tmod a 36864 = z) (x0 : 0 ≤ x) (x1 : x < 2048) (b0 : 0 ≤ b) (b1 : b < 8) (c0 : 0 ≤ c) (c1 : c < 36) (z0 : 0 ≤ z) (z1 : z < 36864) (p0 : decide (x < 768) = false) (p1 : (x / 256 == b) = false) (q0 : (z / 1024 == 2) = false) (q1 : (z / 1024 == 3) = false) (q2 : (z / 1024 == c) = false)
    (K1 : Hid (∀ w, Calls Try.prog 14 #[.int .u8 1, .int .i64 x, .int .i64 b, .int .i64 c] w fun e w' => e = .returned (.tuple #[.int .i64 n, .int .i64 3]) ∧ Drawn0 w w'))
    (K2 : Hid (∀ w, Calls Try.prog 14 #[.int .u8 2, .int .i64 z, .int .i64 b, .int .i64 c] w fun e w' => e = .returned (.tuple #[.int .i64 m, .int .i64 3]) ∧ Drawn0 w w'))
    (w : World) : Calls Try.prog 4 #[.int .u16 a, .int .u8 a1, .int .u8 a2] w fun e w' => e = .returned (.bool true) ∧ Below w.heap.size w w' := by
  have HB := Aside0.mk (Below.refl w.heap.size w)
  have t2 : Int.tdiv x 256 = x / 256 := tdivp x0 256
  have t3 : Int.tdiv z 1024 = z / 1024 := tdivp z0 1024
  go_enter Try.func4, Try.ntmps4
  go_wp2_with (first | (go_at_call 14; (with_reducible refine at_args #[.int .u8 1, .int .i64 x, .int .i64 b, .int .i64 c] ?_); (with_reducible refine (K1.out _).mono ?_); rintro e w' ⟨rfl, ⟨nd, rfl⟩⟩) | (go_at_call 14; (with_reducible refine at_args #[.int .u8 2, .int .i64 z, .int .i64 b, .int .i64 c] ?_); (with_reducible refine (K2.out _).mono ?_); rintro e w' ⟨rfl, ⟨nd, rfl⟩⟩) | (go_at_call 16; (with_reducible refine (works_c _).mono ?_); rintro e w' ⟨rfl, hbw⟩; have HBn := Aside0.mk (below_step (by repeat (first | (with_reducible first | exact HB.out | apply below_alloc | apply pw_below_drewN | apply below_drew1) | exact HB.out)) hbw); clear HB hbw; have HB := HBn; clear HBn))
  all_goals (go_ret; exact ⟨rfl, by repeat (first | (with_reducible first | exact HB.out | apply below_alloc | apply pw_below_drewN | apply below_drew1) | exact HB.out)⟩)
theorem reaches_in (a a1 a2 : Int) (l0 : 0 ≤ a) (l1 : a < 65536) (l2 : 0 ≤ a1) (l3 : a1 < 256) (l4 : 0 ≤ a2) (l5 : a2 < 256) (w : World) : Calls Try.prog 4 #[.int .u16 a, .int .u8 a1, .int .u8 a2] w fun e w' => e = .returned (.bool true) ∧ Below w.heap.size w w' := by
  have hx := tmodp l0 2048
  have hb := tmodp l2 8
  have hc := tmodp l4 36
  have hz := tmodp l0 36864
  have x0 : 0 ≤ a % 2048 ∧ a % 2048 < 2048 := by omega
  have b0 : 0 ≤ a1 % 8 ∧ a1 % 8 < 8 := by omega
  have c0 : 0 ≤ a2 % 36 ∧ a2 % 36 < 36 := by omega
  have z0 : 0 ≤ a % 36864 ∧ a % 36864 < 36864 := by omega
  revert hx hb hc hz x0 b0 c0 z0
  generalize a % 2048 = x
  generalize a1 % 8 = b
  generalize a2 % 36 = c
  generalize a % 36864 = z
  rintro hx hb hc hz ⟨x0, x1⟩ ⟨b0, b1⟩ ⟨c0, c1⟩ ⟨z0, z1⟩
  have e1 := opdE_1 x0 x1 b0 b1 c0 c1
  have e2 := opdE_2 z0 z1 b0 b1 c0 c1
  have K1 := opd_c 1 x b c
  have K2 := opd_c 2 z b c
  have K3 := fun h w => leads_c _ _ _ _ _ (leads_1 0 x0 x1 b0 b1 c0 c1 h) w
  have K4 := fun h w => leads_c _ _ _ _ _ (leads_2 0 z0 z1 b0 b1 c0 c1 h) w
  by_cases d1 : x < 768
  · rw [if_pos d1] at e1; rw [e1] at K1
    by_cases d2 : z / 1024 = 2
    · rw [if_pos (by omega)] at e2; rw [e2] at K2; exact reaches_A2 a a1 a2 x b c z _ _ l0 l1 l2 l3 l4 l5 hx hb hc hz x0 x1 b0 b1 c0 c1 z0 z1 (decide_eq_true d1) (beq_iff_eq.mpr d2) (Lib.hid K1) (Lib.hid K2) (Lib.hid (K3 e1)) (Lib.hid (K4 e2)) w
    · by_cases d3 : z / 1024 = 3
      · rw [if_pos (by omega)] at e2; rw [e2] at K2; exact reaches_A3 a a1 a2 x b c z _ _ l0 l1 l2 l3 l4 l5 hx hb hc hz x0 x1 b0 b1 c0 c1 z0 z1 (decide_eq_true d1) (beq_eq_false_iff_ne.mpr d2) (beq_iff_eq.mpr d3) (Lib.hid K1) (Lib.hid K2) (Lib.hid (K3 e1)) (Lib.hid (K4 e2)) w
      · rw [if_neg (by omega)] at e2
        by_cases d4 : z / 1024 = c
        · rw [if_pos d4] at e2; rw [e2] at K2; exact reaches_Ac a a1 a2 x b c z _ _ l0 l1 l2 l3 l4 l5 hx hb hc hz x0 x1 b0 b1 c0 c1 z0 z1 (decide_eq_true d1) (beq_eq_false_iff_ne.mpr d2) (beq_eq_false_iff_ne.mpr d3) (beq_iff_eq.mpr d4) (Lib.hid K1) (Lib.hid K2) (Lib.hid (K3 e1)) (Lib.hid (K4 e2)) w
        · rw [if_neg d4] at e2; rw [e2] at K2; exact reaches_An a a1 a2 x b c z _ _ l0 l1 l2 l3 l4 l5 hx hb hc hz x0 x1 b0 b1 c0 c1 z0 z1 (decide_eq_true d1) (beq_eq_false_iff_ne.mpr d2) (beq_eq_false_iff_ne.mpr d3) (beq_eq_false_iff_ne.mpr d4) (Lib.hid K1) (Lib.hid K2) (Lib.hid (K3 e1))  w
  · rw [if_neg d1] at e1
    by_cases d5 : x / 256 = b
    · rw [if_pos d5] at e1; rw [e1] at K1
      by_cases d2 : z / 1024 = 2
      · rw [if_pos (by omega)] at e2; rw [e2] at K2; exact reaches_B2 a a1 a2 x b c z _ _ l0 l1 l2 l3 l4 l5 hx hb hc hz x0 x1 b0 b1 c0 c1 z0 z1 (decide_eq_false d1) (beq_iff_eq.mpr d5) (beq_iff_eq.mpr d2) (Lib.hid K1) (Lib.hid K2) (Lib.hid (K3 e1)) (Lib.hid (K4 e2)) w
      · by_cases d3 : z / 1024 = 3
        · rw [if_pos (by omega)] at e2; rw [e2] at K2; exact reaches_B3 a a1 a2 x b c z _ _ l0 l1 l2 l3 l4 l5 hx hb hc hz x0 x1 b0 b1 c0 c1 z0 z1 (decide_eq_false d1) (beq_iff_eq.mpr d5) (beq_eq_false_iff_ne.mpr d2) (beq_iff_eq.mpr d3) (Lib.hid K1) (Lib.hid K2) (Lib.hid (K3 e1)) (Lib.hid (K4 e2)) w
        · rw [if_neg (by omega)] at e2
          by_cases d4 : z / 1024 = c
          · rw [if_pos d4] at e2; rw [e2] at K2; exact reaches_Bc a a1 a2 x b c z _ _ l0 l1 l2 l3 l4 l5 hx hb hc hz x0 x1 b0 b1 c0 c1 z0 z1 (decide_eq_false d1) (beq_iff_eq.mpr d5) (beq_eq_false_iff_ne.mpr d2) (beq_eq_false_iff_ne.mpr d3) (beq_iff_eq.mpr d4) (Lib.hid K1) (Lib.hid K2) (Lib.hid (K3 e1)) (Lib.hid (K4 e2)) w
          · rw [if_neg d4] at e2; rw [e2] at K2; exact reaches_Bn a a1 a2 x b c z _ _ l0 l1 l2 l3 l4 l5 hx hb hc hz x0 x1 b0 b1 c0 c1 z0 z1 (decide_eq_false d1) (beq_iff_eq.mpr d5) (beq_eq_false_iff_ne.mpr d2) (beq_eq_false_iff_ne.mpr d3) (beq_eq_false_iff_ne.mpr d4) (Lib.hid K1) (Lib.hid K2) (Lib.hid (K3 e1))  w
    · rw [if_neg d5] at e1; rw [e1] at K1
      by_cases d2 : z / 1024 = 2
      · rw [if_pos (by omega)] at e2; rw [e2] at K2; exact reaches_C2 a a1 a2 x b c z _ _ l0 l1 l2 l3 l4 l5 hx hb hc hz x0 x1 b0 b1 c0 c1 z0 z1 (decide_eq_false d1) (beq_eq_false_iff_ne.mpr d5) (beq_iff_eq.mpr d2) (Lib.hid K1) (Lib.hid K2)  (Lib.hid (K4 e2)) w
      · by_cases d3 : z / 1024 = 3
        · rw [if_pos (by omega)] at e2; rw [e2] at K2; exact reaches_C3 a a1 a2 x b c z _ _ l0 l1 l2 l3 l4 l5 hx hb hc hz x0 x1 b0 b1 c0 c1 z0 z1 (decide_eq_false d1) (beq_eq_false_iff_ne.mpr d5) (beq_eq_false_iff_ne.mpr d2) (beq_iff_eq.mpr d3) (Lib.hid K1) (Lib.hid K2)  (Lib.hid (K4 e2)) w
        · rw [if_neg (by omega)] at e2
          by_cases d4 : z / 1024 = c
          · rw [if_pos d4] at e2; rw [e2] at K2; exact reaches_Cc a a1 a2 x b c z _ _ l0 l1 l2 l3 l4 l5 hx hb hc hz x0 x1 b0 b1 c0 c1 z0 z1 (decide_eq_false d1) (beq_eq_false_iff_ne.mpr d5) (beq_eq_false_iff_ne.mpr d2) (beq_eq_false_iff_ne.mpr d3) (beq_iff_eq.mpr d4) (Lib.hid K1) (Lib.hid K2)  (Lib.hid (K4 e2)) w
          · rw [if_neg d4] at e2; rw [e2] at K2; exact reaches_Cn a a1 a2 x b c z _ _ l0 l1 l2 l3 l4 l5 hx hb hc hz x0 x1 b0 b1 c0 c1 z0 z1 (decide_eq_false d1) (beq_eq_false_iff_ne.mpr d5) (beq_eq_false_iff_ne.mpr d2) (beq_eq_false_iff_ne.mpr d3) (beq_eq_false_iff_ne.mpr d4) (Lib.hid K1) (Lib.hid K2)   w
theorem reaches_law (a b c : Int) (w : World) (ha : (Lit.int .u16 a).wf = true) (hb : (Lit.int .u8 b).wf = true) (hc : (Lit.int .u8 c).wf = true) : Calls Try.prog 4 #[.int .u16 a, .int .u8 b, .int .u8 c] w fun e w' => e = .returned (.bool true) ∧ Below w.heap.size w w' := by
  obtain ⟨n, rfl, hn⟩ := wf16 ha
  obtain ⟨m, rfl, hm⟩ := wf8 hb
  obtain ⟨l, rfl, hl⟩ := wf8 hc
  exact reaches_in _ _ _ (by omega) (by omega) (by omega) (by omega) (by omega) (by omega) w
end Go.Proofs.Ytllmmgjmkgiodaa.Mem
