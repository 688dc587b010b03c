/- counter.Apply and its reference: what they compute, and their contracts. -/
import Derived.Test.YtebnodldfddbnaaCnt2
namespace Go.Proofs.Ytebnodldfddbnaa.Cnt
open Go.RowKit Go.Proofs.Ytebnodldfddbnaa.PAll Go.Proofs.YtebnodldfddbnaaW.PrintWords Go.Proofs.YtebnodldfddbnaaW.PrintLast Go.Proofs.YtebnodldfddbnaaW.PrintMore Go.Proofs.Ytebnodldfddbnaa.Plain Go.Proofs.Ytebnodldfddbnaa.One
set_option linter.unusedVariables false
set_option linter.unusedSimpArgs false
def apN (n k : Int) : Int := if k = 1 then (if n = 16383 then 0 else addI n 1) else if k = 2 then (if n = 16384 then 32767 else addI n 32766) else if k = 3 then (n + 1) % 32768 else if k = 4 then (n + 32767) % 32768 else if k = 5 then dmN n else if k = 6 then (2 * n + 0) % 32768 else if k = 7 then (2 * n + 1) % 32768 else 0
def apS (n k : Int) : Int := if k = 1 then (if n = 16383 then 1 else 0) else if k = 2 then (if n = 16384 then -1 else 0) else if k = 3 then 0 else if k = 4 then 0 else if k = 5 then dmS n else if k = 6 then n / 16384 else if k = 7 then n / 16384 else 0
def apE (k : Int) : Int := if 1 ≤ k ∧ k ≤ 7 then 0 else 2
theorem ix1 (v0 v1 v2 v3 v4 v5 v6 v7 : Value) (W : World) : (Instr.index 63 (.agg #[v0, v1, v2, v3, v4, v5, v6, v7]) (.int .u8 1)).run Try.prog W = .ok v1 W := by kernel_rfl
theorem ix2 (v0 v1 v2 v3 v4 v5 v6 v7 : Value) (W : World) : (Instr.index 63 (.agg #[v0, v1, v2, v3, v4, v5, v6, v7]) (.int .u8 2)).run Try.prog W = .ok v2 W := by kernel_rfl
theorem ix3 (v0 v1 v2 v3 v4 v5 v6 v7 : Value) (W : World) : (Instr.index 63 (.agg #[v0, v1, v2, v3, v4, v5, v6, v7]) (.int .u8 3)).run Try.prog W = .ok v3 W := by kernel_rfl
theorem ix4 (v0 v1 v2 v3 v4 v5 v6 v7 : Value) (W : World) : (Instr.index 63 (.agg #[v0, v1, v2, v3, v4, v5, v6, v7]) (.int .u8 4)).run Try.prog W = .ok v4 W := by kernel_rfl
theorem ix5 (v0 v1 v2 v3 v4 v5 v6 v7 : Value) (W : World) : (Instr.index 63 (.agg #[v0, v1, v2, v3, v4, v5, v6, v7]) (.int .u8 5)).run Try.prog W = .ok v5 W := by kernel_rfl
theorem ix6 (v0 v1 v2 v3 v4 v5 v6 v7 : Value) (W : World) : (Instr.index 63 (.agg #[v0, v1, v2, v3, v4, v5, v6, v7]) (.int .u8 6)).run Try.prog W = .ok v6 W := by kernel_rfl
theorem ix7 (v0 v1 v2 v3 v4 v5 v6 v7 : Value) (W : World) : (Instr.index 63 (.agg #[v0, v1, v2, v3, v4, v5, v6, v7]) (.int .u8 7)).run Try.prog W = .ok v7 W := by kernel_rfl
set_option maxHeartbeats 2000000 in
theorem apply1_c (x n : Int) (x0 : 0 ≤ x) (x1 : x < 65536) (hn : x % 32768 = n) (y s : Int) (hy : (if n = 16383 then 0 else addI n 1) = y) (hs : (if n = 16383 then 1 else 0) = s) (w : World) : Calls Try.prog 11 #[.int .u16 x, .int .u8 1] w fun e w' => e = .returned (.tuple #[.int .u16 y, .int .i64 s, .int .i64 0]) ∧ Below w.heap.size w w' := by
  have HB := Aside0.mk (Below.refl w.heap.size w)
  have n0 : 0 ≤ n := by omega
  have n1 : n < 32768 := by omega
  have u0 : Go.bits .and .u16 x 32767 = n := by rw [← hn]; exact and_32767 x0 x1
  replace hn := Lib.hid hn
  replace hy := Lib.hid hy
  replace hs := Lib.hid hs
  have hix := ix1
  go_enter Try.func11, Try.ntmps11
  go_wp2_with (first | (go_at_call 28; (with_reducible refine at_args #[.int .u8 1] ?_); refine (counter_known.calls 1 true _ rfl).mono ?_; rintro e w' ⟨rfl, ⟨nd, rfl⟩⟩) | (go_at_call 29; (with_reducible refine at_args #[] ?_); (with_reducible refine (pulses_c _).mono ?_); rintro e w' ⟨va, vb, vc, vd, vf, vg, rfl, ⟨Ha, Hb, Hc, Hd, Hf, Hg⟩, hbp⟩; obtain ⟨p1, p2, p3, p4, rfl, ⟨h1, h2, h3, h4⟩, _⟩ := Ha; have HBn := Aside0.mk (below_step (by repeat (first | (with_reducible first | exact HB.out | apply below_alloc | apply pw_below_drewN | apply below_drew1) | exact HB.out)) hbp); clear HB hbp; have HB := HBn; clear HBn) | (go_at_call 37; (with_reducible refine at_args #[.int .u16 n, .pointer (some p1), .pointer (some p2), .pointer (some p3), .pointer (some p4)] ?_); refine (step1_c n 1 16383 0 1 n0 (by omega) (by decide) (by decide) p1 p2 p3 p4 _ h1 h2 h3 h4).mono ?_; rw [hy.out, hs.out]; rintro e w' ⟨rfl, ⟨nd, rfl⟩⟩))
  go_ret3
  exact ⟨rfl, by repeat (first | (with_reducible first | exact HB.out | apply below_alloc | apply pw_below_drewN | apply below_drew1) | exact HB.out)⟩
set_option maxHeartbeats 2000000 in
theorem apply2_c (x n : Int) (x0 : 0 ≤ x) (x1 : x < 65536) (hn : x % 32768 = n) (y s : Int) (hy : (if n = 16384 then 32767 else addI n 32766) = y) (hs : (if n = 16384 then -1 else 0) = s) (w : World) : Calls Try.prog 11 #[.int .u16 x, .int .u8 2] w fun e w' => e = .returned (.tuple #[.int .u16 y, .int .i64 s, .int .i64 0]) ∧ Below w.heap.size w w' := by
  have HB := Aside0.mk (Below.refl w.heap.size w)
  have n0 : 0 ≤ n := by omega
  have n1 : n < 32768 := by omega
  have u0 : Go.bits .and .u16 x 32767 = n := by rw [← hn]; exact and_32767 x0 x1
  replace hn := Lib.hid hn
  replace hy := Lib.hid hy
  replace hs := Lib.hid hs
  have hix := ix2
  go_enter Try.func11, Try.ntmps11
  go_wp2_with (first | (go_at_call 28; (with_reducible refine at_args #[.int .u8 2] ?_); refine (counter_known.calls 2 true _ rfl).mono ?_; rintro e w' ⟨rfl, ⟨nd, rfl⟩⟩) | (go_at_call 29; (with_reducible refine at_args #[] ?_); (with_reducible refine (pulses_c _).mono ?_); rintro e w' ⟨va, vb, vc, vd, vf, vg, rfl, ⟨Ha, Hb, Hc, Hd, Hf, Hg⟩, hbp⟩; obtain ⟨p1, p2, p3, p4, rfl, ⟨h1, h2, h3, h4⟩, _⟩ := Hb; have HBn := Aside0.mk (below_step (by repeat (first | (with_reducible first | exact HB.out | apply below_alloc | apply pw_below_drewN | apply below_drew1) | exact HB.out)) hbp); clear HB hbp; have HB := HBn; clear HBn) | (go_at_call 37; (with_reducible refine at_args #[.int .u16 n, .pointer (some p1), .pointer (some p2), .pointer (some p3), .pointer (some p4)] ?_); refine (step1_c n 32766 16384 32767 (-1) n0 (by omega) (by decide) (by decide) p1 p2 p3 p4 _ h1 h2 h3 h4).mono ?_; rw [hy.out, hs.out]; rintro e w' ⟨rfl, ⟨nd, rfl⟩⟩))
  go_ret3
  exact ⟨rfl, by repeat (first | (with_reducible first | exact HB.out | apply below_alloc | apply pw_below_drewN | apply below_drew1) | exact HB.out)⟩
set_option maxHeartbeats 2000000 in
theorem apply3_c (x n : Int) (x0 : 0 ≤ x) (x1 : x < 65536) (hn : x % 32768 = n) (y s : Int) (hy : ((n + 1) % 32768) = y) (hs : (0) = s) (w : World) : Calls Try.prog 11 #[.int .u16 x, .int .u8 3] w fun e w' => e = .returned (.tuple #[.int .u16 y, .int .i64 s, .int .i64 0]) ∧ Below w.heap.size w w' := by
  have HB := Aside0.mk (Below.refl w.heap.size w)
  have n0 : 0 ≤ n := by omega
  have n1 : n < 32768 := by omega
  have u0 : Go.bits .and .u16 x 32767 = n := by rw [← hn]; exact and_32767 x0 x1
  replace hn := Lib.hid hn
  replace hy := Lib.hid hy
  replace hs := Lib.hid hs
  have hix := ix3
  go_enter Try.func11, Try.ntmps11
  go_wp2_with (first | (go_at_call 28; (with_reducible refine at_args #[.int .u8 3] ?_); refine (counter_known.calls 3 true _ rfl).mono ?_; rintro e w' ⟨rfl, ⟨nd, rfl⟩⟩) | (go_at_call 29; (with_reducible refine at_args #[] ?_); (with_reducible refine (pulses_c _).mono ?_); rintro e w' ⟨va, vb, vc, vd, vf, vg, rfl, ⟨Ha, Hb, Hc, Hd, Hf, Hg⟩, hbp⟩; obtain ⟨p1, rfl, h1, _⟩ := Hc; have HBn := Aside0.mk (below_step (by repeat (first | (with_reducible first | exact HB.out | apply below_alloc | apply pw_below_drewN | apply below_drew1) | exact HB.out)) hbp); clear HB hbp; have HB := HBn; clear HBn) | (go_at_call 39; (with_reducible refine at_args #[.int .u16 n, .pointer (some p1)] ?_); refine (turn1_c n 1 n0 n1 (by decide) (by decide) p1 _ h1).mono ?_; rw [hy.out, hs.out]; rintro e w' ⟨rfl, ⟨nd, rfl⟩⟩))
  go_ret3
  exact ⟨rfl, by repeat (first | (with_reducible first | exact HB.out | apply below_alloc | apply pw_below_drewN | apply below_drew1) | exact HB.out)⟩
set_option maxHeartbeats 2000000 in
theorem apply4_c (x n : Int) (x0 : 0 ≤ x) (x1 : x < 65536) (hn : x % 32768 = n) (y s : Int) (hy : ((n + 32767) % 32768) = y) (hs : (0) = s) (w : World) : Calls Try.prog 11 #[.int .u16 x, .int .u8 4] w fun e w' => e = .returned (.tuple #[.int .u16 y, .int .i64 s, .int .i64 0]) ∧ Below w.heap.size w w' := by
  have HB := Aside0.mk (Below.refl w.heap.size w)
  have n0 : 0 ≤ n := by omega
  have n1 : n < 32768 := by omega
  have u0 : Go.bits .and .u16 x 32767 = n := by rw [← hn]; exact and_32767 x0 x1
  replace hn := Lib.hid hn
  replace hy := Lib.hid hy
  replace hs := Lib.hid hs
  have hix := ix4
  go_enter Try.func11, Try.ntmps11
  go_wp2_with (first | (go_at_call 28; (with_reducible refine at_args #[.int .u8 4] ?_); refine (counter_known.calls 4 true _ rfl).mono ?_; rintro e w' ⟨rfl, ⟨nd, rfl⟩⟩) | (go_at_call 29; (with_reducible refine at_args #[] ?_); (with_reducible refine (pulses_c _).mono ?_); rintro e w' ⟨va, vb, vc, vd, vf, vg, rfl, ⟨Ha, Hb, Hc, Hd, Hf, Hg⟩, hbp⟩; obtain ⟨p1, rfl, h1, _⟩ := Hd; have HBn := Aside0.mk (below_step (by repeat (first | (with_reducible first | exact HB.out | apply below_alloc | apply pw_below_drewN | apply below_drew1) | exact HB.out)) hbp); clear HB hbp; have HB := HBn; clear HBn) | (go_at_call 39; (with_reducible refine at_args #[.int .u16 n, .pointer (some p1)] ?_); refine (turn1_c n 32767 n0 n1 (by decide) (by decide) p1 _ h1).mono ?_; rw [hy.out, hs.out]; rintro e w' ⟨rfl, ⟨nd, rfl⟩⟩))
  go_ret3
  exact ⟨rfl, by repeat (first | (with_reducible first | exact HB.out | apply below_alloc | apply pw_below_drewN | apply below_drew1) | exact HB.out)⟩
set_option maxHeartbeats 2000000 in
theorem apply5_c (x n : Int) (x0 : 0 ≤ x) (x1 : x < 65536) (hn : x % 32768 = n) (y s : Int) (hy : (dmN n) = y) (hs : (dmS n) = s) (w : World) : Calls Try.prog 11 #[.int .u16 x, .int .u8 5] w fun e w' => e = .returned (.tuple #[.int .u16 y, .int .i64 s, .int .i64 0]) ∧ Below w.heap.size w w' := by
  have HB := Aside0.mk (Below.refl w.heap.size w)
  have n0 : 0 ≤ n := by omega
  have n1 : n < 32768 := by omega
  have u0 : Go.bits .and .u16 x 32767 = n := by rw [← hn]; exact and_32767 x0 x1
  replace hn := Lib.hid hn
  replace hy := Lib.hid hy
  replace hs := Lib.hid hs
  have hix := ix5
  go_enter Try.func11, Try.ntmps11
  go_wp2_with (first | (go_at_call 28; (with_reducible refine at_args #[.int .u8 5] ?_); refine (counter_known.calls 5 true _ rfl).mono ?_; rintro e w' ⟨rfl, ⟨nd, rfl⟩⟩) | (go_at_call 29; (with_reducible refine at_args #[] ?_); (with_reducible refine (pulses_c _).mono ?_); rintro e w' ⟨va, vb, vc, vd, vf, vg, rfl, ⟨Ha, Hb, Hc, Hd, Hf, Hg⟩, hbp⟩; skip; have HBn := Aside0.mk (below_step (by repeat (first | (with_reducible first | exact HB.out | apply below_alloc | apply pw_below_drewN | apply below_drew1) | exact HB.out)) hbp); clear HB hbp; have HB := HBn; clear HBn) | (go_at_call 35; (with_reducible refine at_args #[.int .u16 n] ?_); refine (dim_c n n0 n1 _).mono ?_; rw [hy.out, hs.out]; rintro e w' ⟨rfl, ⟨nd, rfl⟩⟩))
  go_ret3
  exact ⟨rfl, by repeat (first | (with_reducible first | exact HB.out | apply below_alloc | apply pw_below_drewN | apply below_drew1) | exact HB.out)⟩
set_option maxHeartbeats 2000000 in
theorem apply6_c (x n : Int) (x0 : 0 ≤ x) (x1 : x < 65536) (hn : x % 32768 = n) (y s : Int) (hy : ((2 * n + 0) % 32768) = y) (hs : (n / 16384) = s) (w : World) : Calls Try.prog 11 #[.int .u16 x, .int .u8 6] w fun e w' => e = .returned (.tuple #[.int .u16 y, .int .i64 s, .int .i64 0]) ∧ Below w.heap.size w w' := by
  have HB := Aside0.mk (Below.refl w.heap.size w)
  have n0 : 0 ≤ n := by omega
  have n1 : n < 32768 := by omega
  have u0 : Go.bits .and .u16 x 32767 = n := by rw [← hn]; exact and_32767 x0 x1
  replace hn := Lib.hid hn
  replace hy := Lib.hid hy
  replace hs := Lib.hid hs
  have hix := ix6
  go_enter Try.func11, Try.ntmps11
  go_wp2_with (first | (go_at_call 28; (with_reducible refine at_args #[.int .u8 6] ?_); refine (counter_known.calls 6 true _ rfl).mono ?_; rintro e w' ⟨rfl, ⟨nd, rfl⟩⟩) | (go_at_call 29; (with_reducible refine at_args #[] ?_); (with_reducible refine (pulses_c _).mono ?_); rintro e w' ⟨va, vb, vc, vd, vf, vg, rfl, ⟨Ha, Hb, Hc, Hd, Hf, Hg⟩, hbp⟩; obtain ⟨p1, rfl, h1, _⟩ := Hf; have HBn := Aside0.mk (below_step (by repeat (first | (with_reducible first | exact HB.out | apply below_alloc | apply pw_below_drewN | apply below_drew1) | exact HB.out)) hbp); clear HB hbp; have HB := HBn; clear HBn) | (go_at_call 42; (with_reducible refine at_args #[.int .u16 n, .pointer (some p1)] ?_); refine (shift1_c n 0 n0 n1 (by decide) (by decide) p1 _ h1).mono ?_; rw [hy.out, hs.out]; rintro e w' ⟨rfl, ⟨nd, rfl⟩⟩))
  go_ret3
  exact ⟨rfl, by repeat (first | (with_reducible first | exact HB.out | apply below_alloc | apply pw_below_drewN | apply below_drew1) | exact HB.out)⟩
set_option maxHeartbeats 2000000 in
theorem apply7_c (x n : Int) (x0 : 0 ≤ x) (x1 : x < 65536) (hn : x % 32768 = n) (y s : Int) (hy : ((2 * n + 1) % 32768) = y) (hs : (n / 16384) = s) (w : World) : Calls Try.prog 11 #[.int .u16 x, .int .u8 7] w fun e w' => e = .returned (.tuple #[.int .u16 y, .int .i64 s, .int .i64 0]) ∧ Below w.heap.size w w' := by
  have HB := Aside0.mk (Below.refl w.heap.size w)
  have n0 : 0 ≤ n := by omega
  have n1 : n < 32768 := by omega
  have u0 : Go.bits .and .u16 x 32767 = n := by rw [← hn]; exact and_32767 x0 x1
  replace hn := Lib.hid hn
  replace hy := Lib.hid hy
  replace hs := Lib.hid hs
  have hix := ix7
  go_enter Try.func11, Try.ntmps11
  go_wp2_with (first | (go_at_call 28; (with_reducible refine at_args #[.int .u8 7] ?_); refine (counter_known.calls 7 true _ rfl).mono ?_; rintro e w' ⟨rfl, ⟨nd, rfl⟩⟩) | (go_at_call 29; (with_reducible refine at_args #[] ?_); (with_reducible refine (pulses_c _).mono ?_); rintro e w' ⟨va, vb, vc, vd, vf, vg, rfl, ⟨Ha, Hb, Hc, Hd, Hf, Hg⟩, hbp⟩; obtain ⟨p1, rfl, h1, _⟩ := Hg; have HBn := Aside0.mk (below_step (by repeat (first | (with_reducible first | exact HB.out | apply below_alloc | apply pw_below_drewN | apply below_drew1) | exact HB.out)) hbp); clear HB hbp; have HB := HBn; clear HBn) | (go_at_call 42; (with_reducible refine at_args #[.int .u16 n, .pointer (some p1)] ?_); refine (shift1_c n 1 n0 n1 (by decide) (by decide) p1 _ h1).mono ?_; rw [hy.out, hs.out]; rintro e w' ⟨rfl, ⟨nd, rfl⟩⟩))
  go_ret3
  exact ⟨rfl, by repeat (first | (with_reducible first | exact HB.out | apply below_alloc | apply pw_below_drewN | apply below_drew1) | exact HB.out)⟩
end Go.Proofs.Ytebnodldfddbnaa.Cnt
