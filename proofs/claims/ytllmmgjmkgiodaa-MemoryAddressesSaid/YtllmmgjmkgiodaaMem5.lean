/- The walk of MemoryAddresses: it returns true; no condition but the ranges of the kinds. -/
import Derived.Test.YtllmmgjmkgiodaaMem
namespace Go.Proofs.Ytllmmgjmkgiodaa.Mem
open Go.RowKit Go.Proofs.Ytllmmgjmkgiodaa.PAll Go.Proofs.YtllmmgjmkgiodaaW.PrintWords Go.Proofs.YtllmmgjmkgiodaaW.PrintLast Go.Proofs.YtllmmgjmkgiodaaW.PrintMore Go.Proofs.Ytllmmgjmkgiodaa.Plain
set_option linter.unusedVariables false
set_option linter.unusedSimpArgs false
theorem ropd_f (k : Nat) (s a e f : Int) : periluneref03_Operand.f (k + 6) s a e f = some (opdN s a e f, opdE s a e f) := by
  unfold opdN opdE
  simp only [periluneref03_Operand.f, periluneref03_Operand.j0, periluneref03_Operand.j1, periluneref03_Operand.j2, periluneref03_Operand.j3, periluneref03_Operand.j4, periluneref03_Operand.j5, within_f, Option.bind_some, decide_eq_true_eq, Bool.not_eq_true', decide_eq_false_iff_not, beq_iff_eq, bne_iff_ne, Bool.false_eq_true, if_false]
  by_cases s1 : s = 1
  · subst s1
    simp only [if_true, show ¬ ((1 : Int) = 2) by decide, if_false, show ¬ ((1 : Int) ≠ 1 ∧ (1 : Int) ≠ 2) by decide]
    by_cases b : opdBad 1 a e f
    · rw [if_pos b, if_pos b]; unfold opdBad at b
      by_cases c1 : 0 ≤ e ∧ e ≤ 7
      · by_cases c2 : 0 ≤ f ∧ f ≤ 35
        · rw [if_pos c1, if_pos c2, if_pos (show ¬ (0 ≤ a ∧ a ≤ 2047) by omega)]
        · rw [if_pos c1, if_neg c2]
      · rw [if_neg c1]
    · rw [if_neg b, if_neg b]; unfold opdBad at b
      rw [if_pos (show 0 ≤ e ∧ e ≤ 7 by omega), if_pos (show 0 ≤ f ∧ f ≤ 35 by omega), if_neg (show ¬ ¬ (0 ≤ a ∧ a ≤ 2047) by omega), tdivp (show 0 ≤ a by omega), tmodp (show 0 ≤ a by omega), w64 (n := a / 256) (by omega) (by omega), w64 (by omega) (by omega)]
      by_cases d1 : a < 768
      · simp only [if_pos d1, if_pos (show a ≤ 767 by omega)]
      · by_cases d2 : a / 256 = e
        · simp only [if_neg d1, if_neg (show ¬ a ≤ 767 by omega), if_pos d2]
        · simp only [if_neg d1, if_neg (show ¬ a ≤ 767 by omega), if_neg d2]
  · by_cases s2 : s = 2
    · subst s2
      simp only [show ¬ ((2 : Int) = 1) by decide, if_true, if_false, ne_eq, not_true_eq_false, not_false_eq_true, and_false, true_and, false_and]
      by_cases b : opdBad 2 a e f
      · rw [if_pos b, if_pos b]; unfold opdBad at b
        by_cases c1 : 0 ≤ e ∧ e ≤ 7
        · by_cases c2 : 0 ≤ f ∧ f ≤ 35
          · rw [if_pos c1, if_pos c2, if_pos (show ¬ (0 ≤ a ∧ a ≤ 36863) by omega)]
          · rw [if_pos c1, if_neg c2]
        · rw [if_neg c1]
      · rw [if_neg b, if_neg b]; unfold opdBad at b
        rw [if_pos (show 0 ≤ e ∧ e ≤ 7 by omega), if_pos (show 0 ≤ f ∧ f ≤ 35 by omega), if_neg (show ¬ ¬ (0 ≤ a ∧ a ≤ 36863) by omega), tdivp (show 0 ≤ a by omega), tmodp (show 0 ≤ a by omega), w64 (n := a / 1024) (by omega) (by omega), w64 (n := 1024 + a % 1024) (by omega) (by omega)]
        by_cases d1 : a / 2048 = 1
        · simp only [if_pos d1, if_pos (show a ≥ 2048 by omega), if_pos (show a ≤ 4095 by omega)]
        · by_cases d3 : a ≥ 2048
          · by_cases d2 : a / 1024 = f
            · simp only [if_neg d1, if_pos d3, if_neg (show ¬ a ≤ 4095 by omega), if_pos d2]
            · simp only [if_neg d1, if_pos d3, if_neg (show ¬ a ≤ 4095 by omega), if_neg d2]
          · by_cases d2 : a / 1024 = f
            · simp only [if_neg d1, if_neg d3, if_pos d2]
            · simp only [if_neg d1, if_neg d3, if_neg d2]
    · rw [if_neg s1, if_pos s2, if_pos ⟨s1, s2⟩, if_pos ⟨s1, s2⟩]
theorem ropd_c (s a e f : Int) (w : World) : Calls Try.prog 15 #[.int .u8 s, .int .i64 a, .int .i64 e, .int .i64 f] w fun z w' => z = .returned (.tuple #[.int .i64 (opdN s a e f), .int .i64 (opdE s a e f)]) ∧ Drawn0 w w' := periluneref03_Operand.calls 6 _ _ _ _ _ _ w (ropd_f 0 s a e f)
set_option maxHeartbeats 1000000 in
theorem addresses_law (a0 p0 p1 p2 p3 : Int) (w : World) (w0 : (Lit.int .u8 a0).wf = true) (w1_0 : (Lit.int .i64 p0).wf = true) (w1_1 : (Lit.int .i64 p1).wf = true) (w1_2 : (Lit.int .i64 p2).wf = true) (w1_3 : (Lit.int .i64 p3).wf = true) :
    Calls Try.prog 3 #[.int .u8 a0, .agg #[.int .i64 p0, .int .i64 p1, .int .i64 p2, .int .i64 p3]] w fun e w' => e = .returned (.bool true) ∧ Below w.heap.size w w' := by
  have HB := Aside0.mk (Below.refl w.heap.size w)
  go_enter Try.func3, Try.ntmps3
  go_wp2_with (first | (go_at_call 10; (with_reducible refine at_args #[.int .i64 p2, .int .i64 p3] ?_); (with_reducible refine (bank_c _ _ _).mono ?_); rintro e w' ⟨rfl, ⟨nd, rfl⟩⟩) | (go_at_call 11; (with_reducible refine at_args #[.int .i64 p2, .int .i64 p3] ?_); (with_reducible refine (rbank_c _ _ _).mono ?_); rintro e w' ⟨rfl, ⟨nd, rfl⟩⟩) | (go_at_call 12; (with_reducible refine at_args #[.int .i64 p0, .int .i64 p1, .int .i64 p2] ?_); (with_reducible refine (abs_c _ _ _ _).mono ?_); rintro e w' ⟨rfl, ⟨nd, rfl⟩⟩) | (go_at_call 13; (with_reducible refine at_args #[.int .i64 p0, .int .i64 p1, .int .i64 p2] ?_); (with_reducible refine (rabs_c _ _ _ _).mono ?_); rintro e w' ⟨rfl, ⟨nd, rfl⟩⟩))
  go_loopg [80] 3 (fun g v80 w' => ∃ i : Int, v80 = .int .i64 i ∧ Aside0 (0 ≤ i ∧ i + g = 3) ∧ Aside0 (w'.cell? ⟨w.heap.size, 0, none⟩ = some (.int .i64 p0) ∧ w'.cell? ⟨w.heap.size, 1, none⟩ = some (.int .i64 p1) ∧ w'.cell? ⟨w.heap.size, 2, none⟩ = some (.int .i64 p2)) ∧ Aside0 (Below w.heap.size w w'))
  case atStart => exact ⟨0, rfl, ⟨by decide, by decide⟩, ⟨by simp, by simp, by simp⟩, ⟨by repeat (first | (with_reducible first | exact HB.out | apply below_alloc | apply pw_below_drewN | apply below_drew1) | exact HB.out)⟩⟩
  case round =>
    clear HB
    obtain ⟨i, rfl, hg, HC, HB⟩ := hrel
    match gk, hg with
    | 0, hg =>
      obtain rfl : i = 3 := by have := hg.out; omega
      clear hg HC
      go_wp2_with (first | (go_at_call 16; (with_reducible refine (works_c _).mono ?_); rintro e w' ⟨rfl, hbw⟩; have HBn := Aside0.mk (below_step (by repeat (first | (with_reducible first | exact HB.out | apply below_alloc | apply pw_below_drewN | apply below_drew1) | exact HB.out)) hbw); clear HB hbw; have HB := HBn; clear HBn))
      go_ret
      exact ⟨rfl, by repeat (first | (with_reducible first | exact HB.out | apply below_alloc | apply pw_below_drewN | apply below_drew1) | exact HB.out)⟩
    | 1, hg =>
      obtain rfl : i = 2 := by have := hg.out; omega
      clear hg
      have hi : ∀ W : World, (Instr.index 30 (.agg #[.int .u8 a0, .int .u8 1, .int .u8 2]) (.int .i64 2)).run Try.prog W = .ok (.int .u8 2) W := fun _ => by kernel_rfl
      obtain ⟨z0, z1, z2⟩ := HC.out
      go_wp2_with (first | (go_at_call 14; (with_reducible refine at_args #[.int .u8 2, .int .i64 p0, .int .i64 p1, .int .i64 p2] ?_); (with_reducible refine (opd_c _ _ _ _ _).mono ?_); rintro e w' ⟨rfl, ⟨nd, rfl⟩⟩) | (go_at_call 15; (with_reducible refine at_args #[.int .u8 2, .int .i64 p0, .int .i64 p1, .int .i64 p2] ?_); (with_reducible refine (ropd_c _ _ _ _ _).mono ?_); rintro e w' ⟨rfl, ⟨nd, rfl⟩⟩))
      go_roundg 0
      case measure => omega
      case rel => exact ⟨3, rfl, ⟨by decide, by decide⟩, ⟨by simpa using z0, by simpa using z1, by simpa using z2⟩, ⟨by repeat (first | (with_reducible first | exact HB.out | apply below_alloc | apply pw_below_drewN | apply below_drew1) | exact HB.out)⟩⟩
    | 2, hg =>
      obtain rfl : i = 1 := by have := hg.out; omega
      clear hg
      have hi : ∀ W : World, (Instr.index 30 (.agg #[.int .u8 a0, .int .u8 1, .int .u8 2]) (.int .i64 1)).run Try.prog W = .ok (.int .u8 1) W := fun _ => by kernel_rfl
      obtain ⟨z0, z1, z2⟩ := HC.out
      go_wp2_with (first | (go_at_call 14; (with_reducible refine at_args #[.int .u8 1, .int .i64 p0, .int .i64 p1, .int .i64 p2] ?_); (with_reducible refine (opd_c _ _ _ _ _).mono ?_); rintro e w' ⟨rfl, ⟨nd, rfl⟩⟩) | (go_at_call 15; (with_reducible refine at_args #[.int .u8 1, .int .i64 p0, .int .i64 p1, .int .i64 p2] ?_); (with_reducible refine (ropd_c _ _ _ _ _).mono ?_); rintro e w' ⟨rfl, ⟨nd, rfl⟩⟩))
      go_roundg 1
      case measure => omega
      case rel => exact ⟨2, rfl, ⟨by decide, by decide⟩, ⟨by simpa using z0, by simpa using z1, by simpa using z2⟩, ⟨by repeat (first | (with_reducible first | exact HB.out | apply below_alloc | apply pw_below_drewN | apply below_drew1) | exact HB.out)⟩⟩
    | 3, hg =>
      obtain rfl : i = 0 := by have := hg.out; omega
      clear hg
      have hi : ∀ W : World, (Instr.index 30 (.agg #[.int .u8 a0, .int .u8 1, .int .u8 2]) (.int .i64 0)).run Try.prog W = .ok (.int .u8 a0) W := fun _ => by kernel_rfl
      obtain ⟨z0, z1, z2⟩ := HC.out
      go_wp2_with (first | (go_at_call 14; (with_reducible refine at_args #[.int .u8 a0, .int .i64 p0, .int .i64 p1, .int .i64 p2] ?_); (with_reducible refine (opd_c _ _ _ _ _).mono ?_); rintro e w' ⟨rfl, ⟨nd, rfl⟩⟩) | (go_at_call 15; (with_reducible refine at_args #[.int .u8 a0, .int .i64 p0, .int .i64 p1, .int .i64 p2] ?_); (with_reducible refine (ropd_c _ _ _ _ _).mono ?_); rintro e w' ⟨rfl, ⟨nd, rfl⟩⟩))
      go_roundg 2
      case measure => omega
      case rel => exact ⟨1, rfl, ⟨by decide, by decide⟩, ⟨by simpa using z0, by simpa using z1, by simpa using z2⟩, ⟨by repeat (first | (with_reducible first | exact HB.out | apply below_alloc | apply pw_below_drewN | apply below_drew1) | exact HB.out)⟩⟩
    | n + 4, hg => exact absurd hg.out (by omega)
end Go.Proofs.Ytllmmgjmkgiodaa.Mem
