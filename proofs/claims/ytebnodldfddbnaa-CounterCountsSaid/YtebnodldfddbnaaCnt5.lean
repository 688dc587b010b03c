/- The chapter's examples: gives, causes, works. -/
import Derived.Test.YtebnodldfddbnaaCnt4
namespace Go.Proofs.Ytebnodldfddbnaa.Cnt
open Go.RowKit Go.Proofs.Ytebnodldfddbnaa.PAll Go.Proofs.YtebnodldfddbnaaW.PrintWords Go.Proofs.YtebnodldfddbnaaW.PrintLast Go.Proofs.YtebnodldfddbnaaW.PrintMore Go.Proofs.Ytebnodldfddbnaa.Plain Go.Proofs.Ytebnodldfddbnaa.One Go.Proofs.Ytebnodldfddbnaa.Lit
set_option linter.unusedVariables false
set_option linter.unusedSimpArgs false
theorem gives_c (x k y s : Int) (x0 : 0 ≤ x) (x1 : x < 65536) (hy : apN (x % 32768) k = y) (hs : apS (x % 32768) k = s) (he : apE k = 0) (w : World) : Calls Try.prog 21 #[.int .u16 x, .int .u8 k, .int .u16 y, .int .i64 s] w fun e w' => e = .returned (.bool true) ∧ Below w.heap.size w w' := by
  have HB := Aside0.mk (Below.refl w.heap.size w)
  have K := Apply_c x k x0 x1
  rw [hy, hs, he] at K
  replace K := Lib.hid K
  have b0 : (y == y) = true := beq_self_eq_true _
  have b1 : (s == s) = true := beq_self_eq_true _
  clear hy hs he x0 x1
  go_enter Try.func21, Try.ntmps21
  go_wp2_with (go_at_call 11; (with_reducible refine at_args #[.int .u16 x, .int .u8 k] ?_); (with_reducible refine (K.out _).mono ?_); rintro e w' ⟨rfl, hbz⟩; have HBn := Aside0.mk (below_step (by repeat (first | (with_reducible first | exact HB.out | apply below_alloc | apply pw_below_drewN | apply below_drew1) | exact HB.out)) hbz); clear HB hbz; have HB := HBn; clear HBn)
  go_ret
  exact ⟨rfl, by repeat (first | (with_reducible first | exact HB.out | apply below_alloc | apply pw_below_drewN | apply below_drew1) | exact HB.out)⟩
def f26 (x : S26) : List Value := [.int .i64 x.f0, .int .u8 x.f1]
theorem litN (W : World) (a : Nat) (ha : a = W.heap.size) : Kd.C k26 (W.alloc (.cells #[.int .i64 31, .int .u8 0, .int .i64 26, .int .u8 0, .int .i64 31, .int .u8 0, .int .i64 26, .int .u8 0] 26)) (some ⟨a, 0, none⟩) 4 [⟨31, 0⟩, ⟨26, 0⟩, ⟨31, 0⟩, ⟨26, 0⟩] :=
  lit_any k26 f26 (fun w x => k26_mk w x) W 26 [⟨31, 0⟩, ⟨26, 0⟩, ⟨31, 0⟩, ⟨26, 0⟩] a 4 ha rfl (by simp)
theorem next4 (A : Option Addr) (w : World) (hr : Kd.C k26 w A 4 [⟨31, 0⟩, ⟨26, 0⟩, ⟨31, 0⟩, ⟨26, 0⟩]) : Calls Try.prog 20 #[.slice A 4 4] w fun e w' => e = .returned (.tuple #[.int .i64 1, .bool true]) ∧ Below w.heap.size w w' := counter_Next.calls 20 A 4 [⟨31, 0⟩, ⟨26, 0⟩, ⟨31, 0⟩, ⟨26, 0⟩] 1 true w hr (Nat.le_refl _) (by kernel_rfl)
set_option maxHeartbeats 2000000 in
theorem works_c (w : World) : Calls Try.prog 16 #[] w fun e w' => e = .returned (.bool true) ∧ Below w.heap.size w w' := by
  have HB := Aside0.mk (Below.refl w.heap.size w)
  have K := Apply_c 3 8 (by decide) (by decide)
  rw [show apN (3 % 32768) 8 = 0 by decide, show apS (3 % 32768) 8 = 0 by decide, show apE 8 = 2 by decide] at K
  replace K := Lib.hid K
  have A := After_c 21 1 1
  rw [show afL 21 1 1 = [⟨20, 1⟩] by unfold afL; rw [if_neg (by decide), if_pos (by decide)], show afI 21 1 1 = 0 by decide] at A
  replace A := Lib.hid A
  have G0 := Lib.hid (gives_c 16383 1 0 (1) (by decide) (by decide) (by decide) (by decide) (by decide))
  have G1 := Lib.hid (gives_c 16384 2 32767 (-1) (by decide) (by decide) (by decide) (by decide) (by decide))
  have G2 := Lib.hid (gives_c 32766 5 32767 (-1) (by decide) (by decide) (by decide) (by decide) (by decide))
  have G3 := Lib.hid (gives_c 20000 6 7232 (1) (by decide) (by decide) (by decide) (by decide) (by decide))
  have G4 := Lib.hid (gives_c 3 7 7 (0) (by decide) (by decide) (by decide) (by decide) (by decide))
  have C0 := Lib.hid fun w => perilunelaw06_causes.calls 20 (25) 5 (0) 1 true w (by kernel_rfl)
  have hE := fun d w => eqA26 d w 20 20 1 1
  go_enter Try.func16, Try.ntmps16
  go_wp2_with (first | (go_at_call 11; (with_reducible refine at_args #[.int .u16 3, .int .u8 8] ?_); (with_reducible refine (K.out _).mono ?_); rintro e w' ⟨rfl, hbz⟩; have HBn := Aside0.mk (below_step (by repeat (first | (with_reducible first | exact HB.out | apply below_alloc | apply pw_below_drewN | apply below_drew1) | exact HB.out)) hbz); clear HB hbz; have HB := HBn; clear HBn) | (go_at_call 20; (with_reducible refine at_args #[.slice _ 4 4] ?_); (with_reducible refine (next4 _ _ (litN _ _ (by first | rfl | simp))).mono ?_); rintro e w' ⟨rfl, hbz⟩; have HBn := Aside0.mk (below_step (by repeat (first | (with_reducible first | exact HB.out | apply below_alloc | apply pw_below_drewN | apply below_drew1) | exact HB.out)) hbz); clear HB hbz; have HB := HBn; clear HBn) | (go_at_call 13; (with_reducible refine at_args #[.int .i64 21, .int .u8 1, .int .i64 1] ?_); (with_reducible refine (A.out _).mono ?_); rintro e w' ⟨vz, rfl, hR, hbz⟩; obtain ⟨Az, cz, rfl, hcz, hCz⟩ := Kd.R_reads hR; obtain ⟨adz, eA, xz0, xz1⟩ := at_T26 hCz 0 (by decide) (by decide); cases eA; change World.cell? _ adz = some (.int .i64 20) at xz0; change World.cell? _ ⟨adz.block, adz.off + 1, none⟩ = some (.int .u8 1) at xz1; clear hR hCz; have HBn := Aside0.mk (below_step (by repeat (first | (with_reducible first | exact HB.out | apply below_alloc | apply pw_below_drewN | apply below_drew1) | exact HB.out)) hbz); clear HB hbz; have HB := HBn; clear HBn) | (go_at_call 22; (with_reducible refine at_args #[.int .i64 (25), .int .u8 5, .int .i64 (0), .int .i64 1] ?_); (with_reducible refine (C0.out _).mono ?_); rintro e w' ⟨rfl, hbz⟩; have HBn := Aside0.mk (below_step (by repeat (first | (with_reducible first | exact HB.out | apply below_alloc | apply pw_below_drewN | apply below_drew1) | exact HB.out)) hbz); clear HB hbz; have HB := HBn; clear HBn) | (go_at_call 21; (with_reducible refine at_args #[.int .u16 16383, .int .u8 1, .int .u16 0, .int .i64 (1)] ?_); (with_reducible refine (G0.out _).mono ?_); rintro e w' ⟨rfl, hbz⟩; have HBn := Aside0.mk (below_step (by repeat (first | (with_reducible first | exact HB.out | apply below_alloc | apply pw_below_drewN | apply below_drew1) | exact HB.out)) hbz); clear HB hbz; have HB := HBn; clear HBn) | (go_at_call 21; (with_reducible refine at_args #[.int .u16 16384, .int .u8 2, .int .u16 32767, .int .i64 (-1)] ?_); (with_reducible refine (G1.out _).mono ?_); rintro e w' ⟨rfl, hbz⟩; have HBn := Aside0.mk (below_step (by repeat (first | (with_reducible first | exact HB.out | apply below_alloc | apply pw_below_drewN | apply below_drew1) | exact HB.out)) hbz); clear HB hbz; have HB := HBn; clear HBn) | (go_at_call 21; (with_reducible refine at_args #[.int .u16 32766, .int .u8 5, .int .u16 32767, .int .i64 (-1)] ?_); (with_reducible refine (G2.out _).mono ?_); rintro e w' ⟨rfl, hbz⟩; have HBn := Aside0.mk (below_step (by repeat (first | (with_reducible first | exact HB.out | apply below_alloc | apply pw_below_drewN | apply below_drew1) | exact HB.out)) hbz); clear HB hbz; have HB := HBn; clear HBn) | (go_at_call 21; (with_reducible refine at_args #[.int .u16 20000, .int .u8 6, .int .u16 7232, .int .i64 (1)] ?_); (with_reducible refine (G3.out _).mono ?_); rintro e w' ⟨rfl, hbz⟩; have HBn := Aside0.mk (below_step (by repeat (first | (with_reducible first | exact HB.out | apply below_alloc | apply pw_below_drewN | apply below_drew1) | exact HB.out)) hbz); clear HB hbz; have HB := HBn; clear HBn) | (go_at_call 21; (with_reducible refine at_args #[.int .u16 3, .int .u8 7, .int .u16 7, .int .i64 (0)] ?_); (with_reducible refine (G4.out _).mono ?_); rintro e w' ⟨rfl, hbz⟩; have HBn := Aside0.mk (below_step (by repeat (first | (with_reducible first | exact HB.out | apply below_alloc | apply pw_below_drewN | apply below_drew1) | exact HB.out)) hbz); clear HB hbz; have HB := HBn; clear HBn))
  go_ret
  exact ⟨rfl, by repeat (first | (with_reducible first | exact HB.out | apply below_alloc | apply pw_below_drewN | apply below_drew1) | exact HB.out)⟩
end Go.Proofs.Ytebnodldfddbnaa.Cnt
