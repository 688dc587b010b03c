/- The walk of MemoryOperands: it returns true; no condition but the ranges of the kinds. -/
import Derived.Test.YtllmmgjmkgiodaaMem3
namespace Go.Proofs.Ytllmmgjmkgiodaa.Mem
open Go.RowKit Go.Proofs.Ytllmmgjmkgiodaa.PAll Go.Proofs.YtllmmgjmkgiodaaW.PrintWords Go.Proofs.YtllmmgjmkgiodaaW.PrintLast Go.Proofs.YtllmmgjmkgiodaaW.PrintMore Go.Proofs.Ytllmmgjmkgiodaa.Plain
set_option linter.unusedVariables false
set_option linter.unusedSimpArgs false
set_option maxHeartbeats 1000000 in
theorem operands_A (a k n b q c o d p f t u : Int) (l0 : 0 ≤ a) (l1 : a < 65536) (l2 : 0 ≤ k) (l3 : k < 65536) (hn : Int.tmod a 4096 = n) (hb : Int.tmod k 8 = b) (hq : Int.tdiv k 8 = q) (hc : Int.tmod q 36 = c) (ho : Int.tdiv k 288 = o) (hd : Int.tmod o 8 = d) (hp : Int.tmod o 35 = p) (hf : Int.tmod (c + 1 + p) 36 = f)
    (n0 : 0 ≤ n) (n1 : n < 4096) (b0 : 0 ≤ b) (b1 : b < 8) (q0 : 0 ≤ q) (q1 : q < 8192) (c0 : 0 ≤ c) (c1 : c < 36) (o0 : 0 ≤ o) (o1 : o < 228) (d0 : 0 ≤ d) (d1 : d < 8) (g0 : 0 ≤ p) (g1 : p < 35) (f0 : 0 ≤ f) (f1 : f < 36) (t0 : 0 ≤ t) (t1 : t < 36864) (u0 : 0 ≤ u) (u1 : u < 36864) (p0 : n < 768)
    (K1 : Hid (∀ w, Calls Try.prog 12 #[.int .i64 n, .int .i64 b, .int .i64 c] w fun e w' => e = .returned (.tuple #[.int .u8 1, .int .i64 n, .int .i64 0]) ∧ Drawn0 w w'))
    (K2 : Hid (∀ w, Calls Try.prog 14 #[.int .u8 1, .int .i64 n, .int .i64 b, .int .i64 c] w fun e w' => e = .returned (.tuple #[.int .i64 n, .int .i64 0]) ∧ Drawn0 w w'))
    (K3 : Hid (∀ w, Calls Try.prog 12 #[.int .i64 n, .int .i64 d, .int .i64 f] w fun e w' => e = .returned (.tuple #[.int .u8 1, .int .i64 n, .int .i64 0]) ∧ Drawn0 w w'))
    (w : World) : Calls Try.prog 5 #[.int .u16 a, .int .u16 k] w fun e w' => e = .returned (.bool true) ∧ Below w.heap.size w w' := by
  have HB := Aside0.mk (Below.refl w.heap.size w)
  have r0 : decide (n < 768) = true := decide_eq_true p0
  clear p0
  go_enter Try.func5, Try.ntmps5
  go_wp2_with (first | (go_at_call 12; (with_reducible refine at_args #[.int .i64 n, .int .i64 b, .int .i64 c] ?_); (with_reducible refine (K1.out _).mono ?_); rintro e w' ⟨rfl, ⟨nd, rfl⟩⟩) | (go_at_call 12; (with_reducible refine at_args #[.int .i64 n, .int .i64 d, .int .i64 f] ?_); (with_reducible refine (K3.out _).mono ?_); rintro e w' ⟨rfl, ⟨nd, rfl⟩⟩) | (go_at_call 14; (with_reducible refine at_args #[.int .u8 1, .int .i64 n, .int .i64 b, .int .i64 c] ?_); (with_reducible refine (K2.out _).mono ?_); rintro e w' ⟨rfl, ⟨nd, rfl⟩⟩) | (go_at_call 16; (with_reducible refine (works_c _).mono ?_); rintro e w' ⟨rfl, hbw⟩; have HBn := Aside0.mk (below_step (by repeat (first | (with_reducible first | exact HB.out | apply below_alloc | apply pw_below_drewN | apply below_drew1) | exact HB.out)) hbw); clear HB hbw; have HB := HBn; clear HBn))
  all_goals (go_ret; exact ⟨rfl, by repeat (first | (with_reducible first | exact HB.out | apply below_alloc | apply pw_below_drewN | apply below_drew1) | exact HB.out)⟩)
set_option maxHeartbeats 1000000 in
theorem operands_B1 (a k n b q c o d p f t u : Int) (l0 : 0 ≤ a) (l1 : a < 65536) (l2 : 0 ≤ k) (l3 : k < 65536) (hn : Int.tmod a 4096 = n) (hb : Int.tmod k 8 = b) (hq : Int.tdiv k 8 = q) (hc : Int.tmod q 36 = c) (ho : Int.tdiv k 288 = o) (hd : Int.tmod o 8 = d) (hp : Int.tmod o 35 = p) (hf : Int.tmod (c + 1 + p) 36 = f)
    (n0 : 0 ≤ n) (n1 : n < 4096) (b0 : 0 ≤ b) (b1 : b < 8) (q0 : 0 ≤ q) (q1 : q < 8192) (c0 : 0 ≤ c) (c1 : c < 36) (o0 : 0 ≤ o) (o1 : o < 228) (d0 : 0 ≤ d) (d1 : d < 8) (g0 : 0 ≤ p) (g1 : p < 35) (f0 : 0 ≤ f) (f1 : f < 36) (t0 : 0 ≤ t) (t1 : t < 36864) (u0 : 0 ≤ u) (u1 : u < 36864) (p0 : ¬ (n < 768)) (p1 : ¬ (n ≥ 2048)) (p2 : ¬ (t = n)) (p3 : ¬ (t ≥ 768)) (p4 : n < 1024) (p5 : d = b)
    (K1 : Hid (∀ w, Calls Try.prog 12 #[.int .i64 n, .int .i64 b, .int .i64 c] w fun e w' => e = .returned (.tuple #[.int .u8 1, .int .i64 t, .int .i64 0]) ∧ Drawn0 w w'))
    (K2 : Hid (∀ w, Calls Try.prog 14 #[.int .u8 1, .int .i64 t, .int .i64 b, .int .i64 c] w fun e w' => e = .returned (.tuple #[.int .i64 t, .int .i64 0]) ∧ Drawn0 w w'))
    (K3 : Hid (∀ w, Calls Try.prog 12 #[.int .i64 n, .int .i64 d, .int .i64 f] w fun e w' => e = .returned (.tuple #[.int .u8 1, .int .i64 t, .int .i64 0]) ∧ Drawn0 w w'))
    (w : World) : Calls Try.prog 5 #[.int .u16 a, .int .u16 k] w fun e w' => e = .returned (.bool true) ∧ Below w.heap.size w w' := by
  have HB := Aside0.mk (Below.refl w.heap.size w)
  have r0 : decide (n < 768) = false := decide_eq_false p0
  clear p0
  have r1 : decide (n ≥ 2048) = false := decide_eq_false p1
  clear p1
  have r2 : (t == n) = false := beq_eq_false_iff_ne.mpr p2
  have s2 : (t != n) = true := bne_iff_ne.mpr p2
  clear p2
  have r3 : decide (t ≥ 768) = false := decide_eq_false p3
  clear p3
  have r4 : decide (n < 1024) = true := decide_eq_true p4
  clear p4
  have r5 : (d == b) = true := beq_iff_eq.mpr p5
  have s5 : (d != b) = false := by simp [p5]
  clear p5
  go_enter Try.func5, Try.ntmps5
  go_wp2_with (first | (go_at_call 12; (with_reducible refine at_args #[.int .i64 n, .int .i64 b, .int .i64 c] ?_); (with_reducible refine (K1.out _).mono ?_); rintro e w' ⟨rfl, ⟨nd, rfl⟩⟩) | (go_at_call 12; (with_reducible refine at_args #[.int .i64 n, .int .i64 d, .int .i64 f] ?_); (with_reducible refine (K3.out _).mono ?_); rintro e w' ⟨rfl, ⟨nd, rfl⟩⟩) | (go_at_call 14; (with_reducible refine at_args #[.int .u8 1, .int .i64 t, .int .i64 b, .int .i64 c] ?_); (with_reducible refine (K2.out _).mono ?_); rintro e w' ⟨rfl, ⟨nd, rfl⟩⟩) | (go_at_call 16; (with_reducible refine (works_c _).mono ?_); rintro e w' ⟨rfl, hbw⟩; have HBn := Aside0.mk (below_step (by repeat (first | (with_reducible first | exact HB.out | apply below_alloc | apply pw_below_drewN | apply below_drew1) | exact HB.out)) hbw); clear HB hbw; have HB := HBn; clear HBn))
  all_goals (go_ret; exact ⟨rfl, by repeat (first | (with_reducible first | exact HB.out | apply below_alloc | apply pw_below_drewN | apply below_drew1) | exact HB.out)⟩)
set_option maxHeartbeats 1000000 in
theorem operands_B2 (a k n b q c o d p f t u : Int) (l0 : 0 ≤ a) (l1 : a < 65536) (l2 : 0 ≤ k) (l3 : k < 65536) (hn : Int.tmod a 4096 = n) (hb : Int.tmod k 8 = b) (hq : Int.tdiv k 8 = q) (hc : Int.tmod q 36 = c) (ho : Int.tdiv k 288 = o) (hd : Int.tmod o 8 = d) (hp : Int.tmod o 35 = p) (hf : Int.tmod (c + 1 + p) 36 = f)
    (n0 : 0 ≤ n) (n1 : n < 4096) (b0 : 0 ≤ b) (b1 : b < 8) (q0 : 0 ≤ q) (q1 : q < 8192) (c0 : 0 ≤ c) (c1 : c < 36) (o0 : 0 ≤ o) (o1 : o < 228) (d0 : 0 ≤ d) (d1 : d < 8) (g0 : 0 ≤ p) (g1 : p < 35) (f0 : 0 ≤ f) (f1 : f < 36) (t0 : 0 ≤ t) (t1 : t < 36864) (u0 : 0 ≤ u) (u1 : u < 36864) (p0 : ¬ (n < 768)) (p1 : ¬ (n ≥ 2048)) (p2 : ¬ (t = n)) (p3 : ¬ (t ≥ 768)) (p4 : n < 1024) (p5 : ¬ (d = b)) (p6 : ¬ (u = t))
    (K1 : Hid (∀ w, Calls Try.prog 12 #[.int .i64 n, .int .i64 b, .int .i64 c] w fun e w' => e = .returned (.tuple #[.int .u8 1, .int .i64 t, .int .i64 0]) ∧ Drawn0 w w'))
    (K2 : Hid (∀ w, Calls Try.prog 14 #[.int .u8 1, .int .i64 t, .int .i64 b, .int .i64 c] w fun e w' => e = .returned (.tuple #[.int .i64 t, .int .i64 0]) ∧ Drawn0 w w'))
    (K3 : Hid (∀ w, Calls Try.prog 12 #[.int .i64 n, .int .i64 d, .int .i64 f] w fun e w' => e = .returned (.tuple #[.int .u8 1, .int .i64 u, .int .i64 0]) ∧ Drawn0 w w'))
    (w : World) : Calls Try.prog 5 #[.int .u16 a, .int .u16 k] w fun e w' => e = .returned (.bool true) ∧ Below w.heap.size w w' := by
  have HB := Aside0.mk (Below.refl w.heap.size w)
  have r0 : decide (n < 768) = false := decide_eq_false p0
  clear p0
  have r1 : decide (n ≥ 2048) = false := decide_eq_false p1
  clear p1
  have r2 : (t == n) = false := beq_eq_false_iff_ne.mpr p2
  have s2 : (t != n) = true := bne_iff_ne.mpr p2
  clear p2
  have r3 : decide (t ≥ 768) = false := decide_eq_false p3
  clear p3
  have r4 : decide (n < 1024) = true := decide_eq_true p4
  clear p4
  have r5 : (d == b) = false := beq_eq_false_iff_ne.mpr p5
  have s5 : (d != b) = true := bne_iff_ne.mpr p5
  clear p5
  have r6 : (u == t) = false := beq_eq_false_iff_ne.mpr p6
  have s6 : (u != t) = true := bne_iff_ne.mpr p6
  clear p6
  go_enter Try.func5, Try.ntmps5
  go_wp2_with (first | (go_at_call 12; (with_reducible refine at_args #[.int .i64 n, .int .i64 b, .int .i64 c] ?_); (with_reducible refine (K1.out _).mono ?_); rintro e w' ⟨rfl, ⟨nd, rfl⟩⟩) | (go_at_call 12; (with_reducible refine at_args #[.int .i64 n, .int .i64 d, .int .i64 f] ?_); (with_reducible refine (K3.out _).mono ?_); rintro e w' ⟨rfl, ⟨nd, rfl⟩⟩) | (go_at_call 14; (with_reducible refine at_args #[.int .u8 1, .int .i64 t, .int .i64 b, .int .i64 c] ?_); (with_reducible refine (K2.out _).mono ?_); rintro e w' ⟨rfl, ⟨nd, rfl⟩⟩) | (go_at_call 16; (with_reducible refine (works_c _).mono ?_); rintro e w' ⟨rfl, hbw⟩; have HBn := Aside0.mk (below_step (by repeat (first | (with_reducible first | exact HB.out | apply below_alloc | apply pw_below_drewN | apply below_drew1) | exact HB.out)) hbw); clear HB hbw; have HB := HBn; clear HBn))
  all_goals (go_ret; exact ⟨rfl, by repeat (first | (with_reducible first | exact HB.out | apply below_alloc | apply pw_below_drewN | apply below_drew1) | exact HB.out)⟩)
set_option maxHeartbeats 1000000 in
theorem operands_B3 (a k n b q c o d p f t u : Int) (l0 : 0 ≤ a) (l1 : a < 65536) (l2 : 0 ≤ k) (l3 : k < 65536) (hn : Int.tmod a 4096 = n) (hb : Int.tmod k 8 = b) (hq : Int.tdiv k 8 = q) (hc : Int.tmod q 36 = c) (ho : Int.tdiv k 288 = o) (hd : Int.tmod o 8 = d) (hp : Int.tmod o 35 = p) (hf : Int.tmod (c + 1 + p) 36 = f)
    (n0 : 0 ≤ n) (n1 : n < 4096) (b0 : 0 ≤ b) (b1 : b < 8) (q0 : 0 ≤ q) (q1 : q < 8192) (c0 : 0 ≤ c) (c1 : c < 36) (o0 : 0 ≤ o) (o1 : o < 228) (d0 : 0 ≤ d) (d1 : d < 8) (g0 : 0 ≤ p) (g1 : p < 35) (f0 : 0 ≤ f) (f1 : f < 36) (t0 : 0 ≤ t) (t1 : t < 36864) (u0 : 0 ≤ u) (u1 : u < 36864) (p0 : ¬ (n < 768)) (p1 : ¬ (n ≥ 2048)) (p2 : n < 1024) (p3 : d = b)
    (K1 : Hid (∀ w, Calls Try.prog 12 #[.int .i64 n, .int .i64 b, .int .i64 c] w fun e w' => e = .returned (.tuple #[.int .u8 1, .int .i64 t, .int .i64 0]) ∧ Drawn0 w w'))
    (K2 : Hid (∀ w, Calls Try.prog 14 #[.int .u8 1, .int .i64 t, .int .i64 b, .int .i64 c] w fun e w' => e = .returned (.tuple #[.int .i64 n, .int .i64 0]) ∧ Drawn0 w w'))
    (K3 : Hid (∀ w, Calls Try.prog 12 #[.int .i64 n, .int .i64 d, .int .i64 f] w fun e w' => e = .returned (.tuple #[.int .u8 1, .int .i64 t, .int .i64 0]) ∧ Drawn0 w w'))
    (w : World) : Calls Try.prog 5 #[.int .u16 a, .int .u16 k] w fun e w' => e = .returned (.bool true) ∧ Below w.heap.size w w' := by
  have HB := Aside0.mk (Below.refl w.heap.size w)
  have r0 : decide (n < 768) = false := decide_eq_false p0
  clear p0
  have r1 : decide (n ≥ 2048) = false := decide_eq_false p1
  clear p1
  have r2 : decide (n < 1024) = true := decide_eq_true p2
  clear p2
  have r3 : (d == b) = true := beq_iff_eq.mpr p3
  have s3 : (d != b) = false := by simp [p3]
  clear p3
  go_enter Try.func5, Try.ntmps5
  go_wp2_with (first | (go_at_call 12; (with_reducible refine at_args #[.int .i64 n, .int .i64 b, .int .i64 c] ?_); (with_reducible refine (K1.out _).mono ?_); rintro e w' ⟨rfl, ⟨nd, rfl⟩⟩) | (go_at_call 12; (with_reducible refine at_args #[.int .i64 n, .int .i64 d, .int .i64 f] ?_); (with_reducible refine (K3.out _).mono ?_); rintro e w' ⟨rfl, ⟨nd, rfl⟩⟩) | (go_at_call 14; (with_reducible refine at_args #[.int .u8 1, .int .i64 t, .int .i64 b, .int .i64 c] ?_); (with_reducible refine (K2.out _).mono ?_); rintro e w' ⟨rfl, ⟨nd, rfl⟩⟩) | (go_at_call 16; (with_reducible refine (works_c _).mono ?_); rintro e w' ⟨rfl, hbw⟩; have HBn := Aside0.mk (below_step (by repeat (first | (with_reducible first | exact HB.out | apply below_alloc | apply pw_below_drewN | apply below_drew1) | exact HB.out)) hbw); clear HB hbw; have HB := HBn; clear HBn))
  all_goals (go_ret; exact ⟨rfl, by repeat (first | (with_reducible first | exact HB.out | apply below_alloc | apply pw_below_drewN | apply below_drew1) | exact HB.out)⟩)
set_option maxHeartbeats 1000000 in
theorem operands_B4 (a k n b q c o d p f t u : Int) (l0 : 0 ≤ a) (l1 : a < 65536) (l2 : 0 ≤ k) (l3 : k < 65536) (hn : Int.tmod a 4096 = n) (hb : Int.tmod k 8 = b) (hq : Int.tdiv k 8 = q) (hc : Int.tmod q 36 = c) (ho : Int.tdiv k 288 = o) (hd : Int.tmod o 8 = d) (hp : Int.tmod o 35 = p) (hf : Int.tmod (c + 1 + p) 36 = f)
    (n0 : 0 ≤ n) (n1 : n < 4096) (b0 : 0 ≤ b) (b1 : b < 8) (q0 : 0 ≤ q) (q1 : q < 8192) (c0 : 0 ≤ c) (c1 : c < 36) (o0 : 0 ≤ o) (o1 : o < 228) (d0 : 0 ≤ d) (d1 : d < 8) (g0 : 0 ≤ p) (g1 : p < 35) (f0 : 0 ≤ f) (f1 : f < 36) (t0 : 0 ≤ t) (t1 : t < 36864) (u0 : 0 ≤ u) (u1 : u < 36864) (p0 : ¬ (n < 768)) (p1 : ¬ (n ≥ 2048)) (p2 : n < 1024) (p3 : ¬ (d = b)) (p4 : ¬ (u = t))
    (K1 : Hid (∀ w, Calls Try.prog 12 #[.int .i64 n, .int .i64 b, .int .i64 c] w fun e w' => e = .returned (.tuple #[.int .u8 1, .int .i64 t, .int .i64 0]) ∧ Drawn0 w w'))
    (K2 : Hid (∀ w, Calls Try.prog 14 #[.int .u8 1, .int .i64 t, .int .i64 b, .int .i64 c] w fun e w' => e = .returned (.tuple #[.int .i64 n, .int .i64 0]) ∧ Drawn0 w w'))
    (K3 : Hid (∀ w, Calls Try.prog 12 #[.int .i64 n, .int .i64 d, .int .i64 f] w fun e w' => e = .returned (.tuple #[.int .u8 1, .int .i64 u, .int .i64 0]) ∧ Drawn0 w w'))
    (w : World) : Calls Try.prog 5 #[.int .u16 a, .int .u16 k] w fun e w' => e = .returned (.bool true) ∧ Below w.heap.size w w' := by
  have HB := Aside0.mk (Below.refl w.heap.size w)
  have r0 : decide (n < 768) = false := decide_eq_false p0
  clear p0
  have r1 : decide (n ≥ 2048) = false := decide_eq_false p1
  clear p1
  have r2 : decide (n < 1024) = true := decide_eq_true p2
  clear p2
  have r3 : (d == b) = false := beq_eq_false_iff_ne.mpr p3
  have s3 : (d != b) = true := bne_iff_ne.mpr p3
  clear p3
  have r4 : (u == t) = false := beq_eq_false_iff_ne.mpr p4
  have s4 : (u != t) = true := bne_iff_ne.mpr p4
  clear p4
  go_enter Try.func5, Try.ntmps5
  go_wp2_with (first | (go_at_call 12; (with_reducible refine at_args #[.int .i64 n, .int .i64 b, .int .i64 c] ?_); (with_reducible refine (K1.out _).mono ?_); rintro e w' ⟨rfl, ⟨nd, rfl⟩⟩) | (go_at_call 12; (with_reducible refine at_args #[.int .i64 n, .int .i64 d, .int .i64 f] ?_); (with_reducible refine (K3.out _).mono ?_); rintro e w' ⟨rfl, ⟨nd, rfl⟩⟩) | (go_at_call 14; (with_reducible refine at_args #[.int .u8 1, .int .i64 t, .int .i64 b, .int .i64 c] ?_); (with_reducible refine (K2.out _).mono ?_); rintro e w' ⟨rfl, ⟨nd, rfl⟩⟩) | (go_at_call 16; (with_reducible refine (works_c _).mono ?_); rintro e w' ⟨rfl, hbw⟩; have HBn := Aside0.mk (below_step (by repeat (first | (with_reducible first | exact HB.out | apply below_alloc | apply pw_below_drewN | apply below_drew1) | exact HB.out)) hbw); clear HB hbw; have HB := HBn; clear HBn))
  all_goals (go_ret; exact ⟨rfl, by repeat (first | (with_reducible first | exact HB.out | apply below_alloc | apply pw_below_drewN | apply below_drew1) | exact HB.out)⟩)
set_option maxHeartbeats 1000000 in
theorem operands_C1 (a k n b q c o d p f t u : Int) (l0 : 0 ≤ a) (l1 : a < 65536) (l2 : 0 ≤ k) (l3 : k < 65536) (hn : Int.tmod a 4096 = n) (hb : Int.tmod k 8 = b) (hq : Int.tdiv k 8 = q) (hc : Int.tmod q 36 = c) (ho : Int.tdiv k 288 = o) (hd : Int.tmod o 8 = d) (hp : Int.tmod o 35 = p) (hf : Int.tmod (c + 1 + p) 36 = f)
    (n0 : 0 ≤ n) (n1 : n < 4096) (b0 : 0 ≤ b) (b1 : b < 8) (q0 : 0 ≤ q) (q1 : q < 8192) (c0 : 0 ≤ c) (c1 : c < 36) (o0 : 0 ≤ o) (o1 : o < 228) (d0 : 0 ≤ d) (d1 : d < 8) (g0 : 0 ≤ p) (g1 : p < 35) (f0 : 0 ≤ f) (f1 : f < 36) (t0 : 0 ≤ t) (t1 : t < 36864) (u0 : 0 ≤ u) (u1 : u < 36864) (p0 : ¬ (n < 768)) (p1 : ¬ (n ≥ 2048)) (p2 : ¬ (t = n)) (p3 : t ≥ 768) (p4 : ¬ (t < 2048)) (p5 : ¬ (n < 1024)) (p6 : ¬ (u = t))
    (K1 : Hid (∀ w, Calls Try.prog 12 #[.int .i64 n, .int .i64 b, .int .i64 c] w fun e w' => e = .returned (.tuple #[.int .u8 2, .int .i64 t, .int .i64 0]) ∧ Drawn0 w w'))
    (K2 : Hid (∀ w, Calls Try.prog 14 #[.int .u8 2, .int .i64 t, .int .i64 b, .int .i64 c] w fun e w' => e = .returned (.tuple #[.int .i64 t, .int .i64 0]) ∧ Drawn0 w w'))
    (K3 : Hid (∀ w, Calls Try.prog 12 #[.int .i64 n, .int .i64 d, .int .i64 f] w fun e w' => e = .returned (.tuple #[.int .u8 2, .int .i64 u, .int .i64 0]) ∧ Drawn0 w w'))
    (w : World) : Calls Try.prog 5 #[.int .u16 a, .int .u16 k] w fun e w' => e = .returned (.bool true) ∧ Below w.heap.size w w' := by
  have HB := Aside0.mk (Below.refl w.heap.size w)
  have r0 : decide (n < 768) = false := decide_eq_false p0
  clear p0
  have r1 : decide (n ≥ 2048) = false := decide_eq_false p1
  clear p1
  have r2 : (t == n) = false := beq_eq_false_iff_ne.mpr p2
  have s2 : (t != n) = true := bne_iff_ne.mpr p2
  clear p2
  have r3 : decide (t ≥ 768) = true := decide_eq_true p3
  clear p3
  have r4 : decide (t < 2048) = false := decide_eq_false p4
  clear p4
  have r5 : decide (n < 1024) = false := decide_eq_false p5
  clear p5
  have r6 : (u == t) = false := beq_eq_false_iff_ne.mpr p6
  have s6 : (u != t) = true := bne_iff_ne.mpr p6
  clear p6
  go_enter Try.func5, Try.ntmps5
  go_wp2_with (first | (go_at_call 12; (with_reducible refine at_args #[.int .i64 n, .int .i64 b, .int .i64 c] ?_); (with_reducible refine (K1.out _).mono ?_); rintro e w' ⟨rfl, ⟨nd, rfl⟩⟩) | (go_at_call 12; (with_reducible refine at_args #[.int .i64 n, .int .i64 d, .int .i64 f] ?_); (with_reducible refine (K3.out _).mono ?_); rintro e w' ⟨rfl, ⟨nd, rfl⟩⟩) | (go_at_call 14; (with_reducible refine at_args #[.int .u8 2, .int .i64 t, .int .i64 b, .int .i64 c] ?_); (with_reducible refine (K2.out _).mono ?_); rintro e w' ⟨rfl, ⟨nd, rfl⟩⟩) | (go_at_call 16; (with_reducible refine (works_c _).mono ?_); rintro e w' ⟨rfl, hbw⟩; have HBn := Aside0.mk (below_step (by repeat (first | (with_reducible first | exact HB.out | apply below_alloc | apply pw_below_drewN | apply below_drew1) | exact HB.out)) hbw); clear HB hbw; have HB := HBn; clear HBn))
  all_goals (go_ret; exact ⟨rfl, by repeat (first | (with_reducible first | exact HB.out | apply below_alloc | apply pw_below_drewN | apply below_drew1) | exact HB.out)⟩)
set_option maxHeartbeats 1000000 in
theorem operands_C2 (a k n b q c o d p f t u : Int) (l0 : 0 ≤ a) (l1 : a < 65536) (l2 : 0 ≤ k) (l3 : k < 65536) (hn : Int.tmod a 4096 = n) (hb : Int.tmod k 8 = b) (hq : Int.tdiv k 8 = q) (hc : Int.tmod q 36 = c) (ho : Int.tdiv k 288 = o) (hd : Int.tmod o 8 = d) (hp : Int.tmod o 35 = p) (hf : Int.tmod (c + 1 + p) 36 = f)
    (n0 : 0 ≤ n) (n1 : n < 4096) (b0 : 0 ≤ b) (b1 : b < 8) (q0 : 0 ≤ q) (q1 : q < 8192) (c0 : 0 ≤ c) (c1 : c < 36) (o0 : 0 ≤ o) (o1 : o < 228) (d0 : 0 ≤ d) (d1 : d < 8) (g0 : 0 ≤ p) (g1 : p < 35) (f0 : 0 ≤ f) (f1 : f < 36) (t0 : 0 ≤ t) (t1 : t < 36864) (u0 : 0 ≤ u) (u1 : u < 36864) (p0 : ¬ (n < 768)) (p1 : ¬ (n ≥ 2048)) (p2 : ¬ (n < 1024)) (p3 : ¬ (u = t))
    (K1 : Hid (∀ w, Calls Try.prog 12 #[.int .i64 n, .int .i64 b, .int .i64 c] w fun e w' => e = .returned (.tuple #[.int .u8 2, .int .i64 t, .int .i64 0]) ∧ Drawn0 w w'))
    (K2 : Hid (∀ w, Calls Try.prog 14 #[.int .u8 2, .int .i64 t, .int .i64 b, .int .i64 c] w fun e w' => e = .returned (.tuple #[.int .i64 n, .int .i64 0]) ∧ Drawn0 w w'))
    (K3 : Hid (∀ w, Calls Try.prog 12 #[.int .i64 n, .int .i64 d, .int .i64 f] w fun e w' => e = .returned (.tuple #[.int .u8 2, .int .i64 u, .int .i64 0]) ∧ Drawn0 w w'))
    (w : World) : Calls Try.prog 5 #[.int .u16 a, .int .u16 k] w fun e w' => e = .returned (.bool true) ∧ Below w.heap.size w w' := by
  have HB := Aside0.mk (Below.refl w.heap.size w)
  have r0 : decide (n < 768) = false := decide_eq_false p0
  clear p0
  have r1 : decide (n ≥ 2048) = false := decide_eq_false p1
  clear p1
  have r2 : decide (n < 1024) = false := decide_eq_false p2
  clear p2
  have r3 : (u == t) = false := beq_eq_false_iff_ne.mpr p3
  have s3 : (u != t) = true := bne_iff_ne.mpr p3
  clear p3
  go_enter Try.func5, Try.ntmps5
  go_wp2_with (first | (go_at_call 12; (with_reducible refine at_args #[.int .i64 n, .int .i64 b, .int .i64 c] ?_); (with_reducible refine (K1.out _).mono ?_); rintro e w' ⟨rfl, ⟨nd, rfl⟩⟩) | (go_at_call 12; (with_reducible refine at_args #[.int .i64 n, .int .i64 d, .int .i64 f] ?_); (with_reducible refine (K3.out _).mono ?_); rintro e w' ⟨rfl, ⟨nd, rfl⟩⟩) | (go_at_call 14; (with_reducible refine at_args #[.int .u8 2, .int .i64 t, .int .i64 b, .int .i64 c] ?_); (with_reducible refine (K2.out _).mono ?_); rintro e w' ⟨rfl, ⟨nd, rfl⟩⟩) | (go_at_call 16; (with_reducible refine (works_c _).mono ?_); rintro e w' ⟨rfl, hbw⟩; have HBn := Aside0.mk (below_step (by repeat (first | (with_reducible first | exact HB.out | apply below_alloc | apply pw_below_drewN | apply below_drew1) | exact HB.out)) hbw); clear HB hbw; have HB := HBn; clear HBn))
  all_goals (go_ret; exact ⟨rfl, by repeat (first | (with_reducible first | exact HB.out | apply below_alloc | apply pw_below_drewN | apply below_drew1) | exact HB.out)⟩)
set_option maxHeartbeats 1000000 in
theorem operands_D (a k n b q c o d p f t u : Int) (l0 : 0 ≤ a) (l1 : a < 65536) (l2 : 0 ≤ k) (l3 : k < 65536) (hn : Int.tmod a 4096 = n) (hb : Int.tmod k 8 = b) (hq : Int.tdiv k 8 = q) (hc : Int.tmod q 36 = c) (ho : Int.tdiv k 288 = o) (hd : Int.tmod o 8 = d) (hp : Int.tmod o 35 = p) (hf : Int.tmod (c + 1 + p) 36 = f)
    (n0 : 0 ≤ n) (n1 : n < 4096) (b0 : 0 ≤ b) (b1 : b < 8) (q0 : 0 ≤ q) (q1 : q < 8192) (c0 : 0 ≤ c) (c1 : c < 36) (o0 : 0 ≤ o) (o1 : o < 228) (d0 : 0 ≤ d) (d1 : d < 8) (g0 : 0 ≤ p) (g1 : p < 35) (f0 : 0 ≤ f) (f1 : f < 36) (t0 : 0 ≤ t) (t1 : t < 36864) (u0 : 0 ≤ u) (u1 : u < 36864) (p0 : ¬ (n < 768)) (p1 : n ≥ 2048)
    (K1 : Hid (∀ w, Calls Try.prog 12 #[.int .i64 n, .int .i64 b, .int .i64 c] w fun e w' => e = .returned (.tuple #[.int .u8 2, .int .i64 n, .int .i64 0]) ∧ Drawn0 w w'))
    (K2 : Hid (∀ w, Calls Try.prog 14 #[.int .u8 2, .int .i64 n, .int .i64 b, .int .i64 c] w fun e w' => e = .returned (.tuple #[.int .i64 n, .int .i64 0]) ∧ Drawn0 w w'))
    (K3 : Hid (∀ w, Calls Try.prog 12 #[.int .i64 n, .int .i64 d, .int .i64 f] w fun e w' => e = .returned (.tuple #[.int .u8 2, .int .i64 n, .int .i64 0]) ∧ Drawn0 w w'))
    (w : World) : Calls Try.prog 5 #[.int .u16 a, .int .u16 k] w fun e w' => e = .returned (.bool true) ∧ Below w.heap.size w w' := by
  have HB := Aside0.mk (Below.refl w.heap.size w)
  have r0 : decide (n < 768) = false := decide_eq_false p0
  clear p0
  have r1 : decide (n ≥ 2048) = true := decide_eq_true p1
  clear p1
  go_enter Try.func5, Try.ntmps5
  go_wp2_with (first | (go_at_call 12; (with_reducible refine at_args #[.int .i64 n, .int .i64 b, .int .i64 c] ?_); (with_reducible refine (K1.out _).mono ?_); rintro e w' ⟨rfl, ⟨nd, rfl⟩⟩) | (go_at_call 12; (with_reducible refine at_args #[.int .i64 n, .int .i64 d, .int .i64 f] ?_); (with_reducible refine (K3.out _).mono ?_); rintro e w' ⟨rfl, ⟨nd, rfl⟩⟩) | (go_at_call 14; (with_reducible refine at_args #[.int .u8 2, .int .i64 n, .int .i64 b, .int .i64 c] ?_); (with_reducible refine (K2.out _).mono ?_); rintro e w' ⟨rfl, ⟨nd, rfl⟩⟩) | (go_at_call 16; (with_reducible refine (works_c _).mono ?_); rintro e w' ⟨rfl, hbw⟩; have HBn := Aside0.mk (below_step (by repeat (first | (with_reducible first | exact HB.out | apply below_alloc | apply pw_below_drewN | apply below_drew1) | exact HB.out)) hbw); clear HB hbw; have HB := HBn; clear HBn))
  all_goals (go_ret; exact ⟨rfl, by repeat (first | (with_reducible first | exact HB.out | apply below_alloc | apply pw_below_drewN | apply below_drew1) | exact HB.out)⟩)
theorem operands_in (a k : Int) (l0 : 0 ≤ a) (l1 : a < 65536) (l2 : 0 ≤ k) (l3 : k < 65536) (w : World) : Calls Try.prog 5 #[.int .u16 a, .int .u16 k] w fun e w' => e = .returned (.bool true) ∧ Below w.heap.size w w' := by
  have hn := tmodp l0 4096
  have hb := tmodp l2 8
  have hq := tdivp l2 8
  have ho := tdivp l2 288
  have hc := tmodp (show 0 ≤ k / 8 by omega) 36
  have hd := tmodp (show 0 ≤ k / 288 by omega) 8
  have hp := tmodp (show 0 ≤ k / 288 by omega) 35
  have n0 : 0 ≤ a % 4096 ∧ a % 4096 < 4096 := by omega
  have b0 : 0 ≤ k % 8 ∧ k % 8 < 8 := by omega
  have q0 : 0 ≤ k / 8 ∧ k / 8 < 8192 := by omega
  have o0 : 0 ≤ k / 288 ∧ k / 288 < 228 := by omega
  revert hn hb hq ho hc hd hp n0 b0 q0 o0
  generalize a % 4096 = n
  generalize k % 8 = b
  generalize k / 8 = q
  generalize k / 288 = o
  rintro hn hb hq ho hc hd hp ⟨n0, n1⟩ ⟨b0, b1⟩ ⟨q0, q1⟩ ⟨o0, o1⟩
  have c0 : 0 ≤ q % 36 ∧ q % 36 < 36 := by omega
  have d0 : 0 ≤ o % 8 ∧ o % 8 < 8 := by omega
  have g0 : 0 ≤ o % 35 ∧ o % 35 < 35 := by omega
  revert hc hd hp c0 d0 g0
  generalize q % 36 = c
  generalize o % 8 = d
  generalize o % 35 = p
  rintro hc hd hp ⟨c0, c1⟩ ⟨d0, d1⟩ ⟨g0, g1⟩
  have hf := tmodp (show 0 ≤ c + 1 + p by omega) 36
  have f0 : 0 ≤ (c + 1 + p) % 36 ∧ (c + 1 + p) % 36 < 36 ∧ (c + 1 + p) % 36 ≠ c := by omega
  revert hf f0
  generalize (c + 1 + p) % 36 = f
  rintro hf ⟨f0, f1, fc⟩
  obtain ⟨x1, x2, x3⟩ := abs_in n0 n1 b0 b1 c0 c1
  obtain ⟨y1, y2, y3⟩ := abs_in n0 n1 d0 d1 f0 f1
  have K1 := abs_c n b c
  have K3 := abs_c n d f
  rw [x1, x2, x3] at K1
  rw [y1, y2, y3] at K3
  by_cases e1 : n < 768
  · simp only [if_pos e1, if_pos (show n < 1024 by omega)] at K1 K3
    have K2 := opd_c 1 (n) b c
    have o2 : opdE 1 (n) b c = 0 := by rw [opdE_1 (by omega) (by omega) b0 b1 c0 c1]; rw [if_pos e1]
    have o3 : opdN 1 (n) b c = n := by rw [opdN_1 (by omega) (by omega) b0 b1 c0 c1]; rw [if_pos e1]
    rw [o2, o3] at K2
    exact operands_A a k n b q c o d p f 0 0 l0 l1 l2 l3 hn hb hq hc ho hd hp hf n0 n1 b0 b1 q0 q1 c0 c1 o0 o1 d0 d1 g0 g1 f0 f1 (by omega) (by omega) (by omega) (by omega) (by omega) (Lib.hid K1) (Lib.hid K2) (Lib.hid K3) w
  · by_cases e2 : n < 1024
    · simp only [if_neg e1, if_pos e2] at K1 K3
      by_cases e3 : b * 256 + n - 768 < 768
      · have K2 := opd_c 1 (b * 256 + n - 768) b c
        have o2 : opdE 1 (b * 256 + n - 768) b c = 0 := by rw [opdE_1 (by omega) (by omega) b0 b1 c0 c1]; rw [if_pos e3]
        have o3 : opdN 1 (b * 256 + n - 768) b c = b * 256 + n - 768 := by rw [opdN_1 (by omega) (by omega) b0 b1 c0 c1]; rw [if_pos e3]
        rw [o2, o3] at K2
        by_cases e4 : d = b
        · rw [e4] at K3
          exact operands_B1 a k n b q c o d p f (b * 256 + n - 768) 0 l0 l1 l2 l3 hn hb hq hc ho hd hp hf n0 n1 b0 b1 q0 q1 c0 c1 o0 o1 d0 d1 g0 g1 f0 f1 (by omega) (by omega) (by omega) (by omega) (by omega) (by omega) (by omega) (by omega) (by omega) (by omega) (Lib.hid K1) (Lib.hid K2) (Lib.hid (by simpa [e4] using K3)) w
        · exact operands_B2 a k n b q c o d p f (b * 256 + n - 768) (d * 256 + n - 768) l0 l1 l2 l3 hn hb hq hc ho hd hp hf n0 n1 b0 b1 q0 q1 c0 c1 o0 o1 d0 d1 g0 g1 f0 f1 (by omega) (by omega) (by omega) (by omega) (by omega) (by omega) (by omega) (by omega) (by omega) (by omega) (by omega) (Lib.hid K1) (Lib.hid K2) (Lib.hid K3) w
      · have K2 := opd_c 1 (b * 256 + n - 768) b c
        have o2 : opdE 1 (b * 256 + n - 768) b c = 0 := by rw [opdE_1 (by omega) (by omega) b0 b1 c0 c1]; rw [if_neg e3, if_pos (by omega)]; try omega
        have o3 : opdN 1 (b * 256 + n - 768) b c = n := by rw [opdN_1 (by omega) (by omega) b0 b1 c0 c1]; rw [if_neg e3, if_pos (by omega)]; try omega
        rw [o2, o3] at K2
        by_cases e4 : d = b
        · rw [e4] at K3
          exact operands_B3 a k n b q c o d p f (b * 256 + n - 768) 0 l0 l1 l2 l3 hn hb hq hc ho hd hp hf n0 n1 b0 b1 q0 q1 c0 c1 o0 o1 d0 d1 g0 g1 f0 f1 (by omega) (by omega) (by omega) (by omega) (by omega) (by omega) (by omega) (by omega) (Lib.hid K1) (Lib.hid K2) (Lib.hid (by simpa [e4] using K3)) w
        · exact operands_B4 a k n b q c o d p f (b * 256 + n - 768) (d * 256 + n - 768) l0 l1 l2 l3 hn hb hq hc ho hd hp hf n0 n1 b0 b1 q0 q1 c0 c1 o0 o1 d0 d1 g0 g1 f0 f1 (by omega) (by omega) (by omega) (by omega) (by omega) (by omega) (by omega) (by omega) (by omega) (Lib.hid K1) (Lib.hid K2) (Lib.hid K3) w
    · by_cases e5 : n < 2048
      · simp only [if_neg e1, if_neg e2, if_pos e5] at K1 K3
        by_cases e6 : (c * 1024 + n - 1024) / 2048 = 1
        · have K2 := opd_c 2 (c * 1024 + n - 1024) b c
          have o2 : opdE 2 (c * 1024 + n - 1024) b c = 0 := by rw [opdE_2 (by omega) (by omega) b0 b1 c0 c1]; rw [if_pos e6]
          have o3 : opdN 2 (c * 1024 + n - 1024) b c = c * 1024 + n - 1024 := by rw [opdN_2 (by omega) (by omega) b0 b1 c0 c1]; rw [if_pos e6]
          rw [o2, o3] at K2
          exact operands_C1 a k n b q c o d p f (c * 1024 + n - 1024) (f * 1024 + n - 1024) l0 l1 l2 l3 hn hb hq hc ho hd hp hf n0 n1 b0 b1 q0 q1 c0 c1 o0 o1 d0 d1 g0 g1 f0 f1 (by omega) (by omega) (by omega) (by omega) (by omega) (by omega) (by omega) (by omega) (by omega) (by omega) (by omega) (Lib.hid K1) (Lib.hid K2) (Lib.hid K3) w
        · have K2 := opd_c 2 (c * 1024 + n - 1024) b c
          have o2 : opdE 2 (c * 1024 + n - 1024) b c = 0 := by rw [opdE_2 (by omega) (by omega) b0 b1 c0 c1]; rw [if_neg e6, if_pos (by omega)]; try omega
          have o3 : opdN 2 (c * 1024 + n - 1024) b c = n := by rw [opdN_2 (by omega) (by omega) b0 b1 c0 c1]; rw [if_neg e6, if_pos (by omega)]; try omega
          rw [o2, o3] at K2
          exact operands_C2 a k n b q c o d p f (c * 1024 + n - 1024) (f * 1024 + n - 1024) l0 l1 l2 l3 hn hb hq hc ho hd hp hf n0 n1 b0 b1 q0 q1 c0 c1 o0 o1 d0 d1 g0 g1 f0 f1 (by omega) (by omega) (by omega) (by omega) (by omega) (by omega) (by omega) (by omega) (Lib.hid K1) (Lib.hid K2) (Lib.hid K3) w
      · simp only [if_neg e1, if_neg e2, if_neg e5] at K1 K3
        have K2 := opd_c 2 (n) b c
        have o2 : opdE 2 (n) b c = 0 := by rw [opdE_2 (by omega) (by omega) b0 b1 c0 c1]; rw [if_pos (by omega)]
        have o3 : opdN 2 (n) b c = n := by rw [opdN_2 (by omega) (by omega) b0 b1 c0 c1]; rw [if_pos (by omega)]
        rw [o2, o3] at K2
        exact operands_D a k n b q c o d p f 0 0 l0 l1 l2 l3 hn hb hq hc ho hd hp hf n0 n1 b0 b1 q0 q1 c0 c1 o0 o1 d0 d1 g0 g1 f0 f1 (by omega) (by omega) (by omega) (by omega) (by omega) (by omega) (Lib.hid K1) (Lib.hid K2) (Lib.hid K3) w
theorem operands_law (a b : Int) (w : World) (ha : (Lit.int .u16 a).wf = true) (hb : (Lit.int .u16 b).wf = true) : Calls Try.prog 5 #[.int .u16 a, .int .u16 b] w fun e w' => e = .returned (.bool true) ∧ Below w.heap.size w w' := by
  obtain ⟨n, rfl, hn⟩ := wf16 ha
  obtain ⟨m, rfl, hm⟩ := wf16 hb
  exact operands_in _ _ (by omega) (by omega) (by omega) (by omega) w
end Go.Proofs.Ytllmmgjmkgiodaa.Mem
