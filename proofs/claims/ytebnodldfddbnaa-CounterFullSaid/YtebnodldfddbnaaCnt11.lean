/- The law CounterFull: a queue takes 64 pulses and no more; it has no parameters. -/
import Derived.Test.YtebnodldfddbnaaCnt9
namespace Go.Proofs.Ytebnodldfddbnaa.Cnt
open Go.RowKit Go.Proofs.Ytebnodldfddbnaa.PAll Go.Proofs.YtebnodldfddbnaaW.PrintWords Go.Proofs.YtebnodldfddbnaaW.PrintLast Go.Proofs.YtebnodldfddbnaaW.PrintMore Go.Proofs.Ytebnodldfddbnaa.Plain Go.Proofs.Ytebnodldfddbnaa.One Go.Proofs.Ytebnodldfddbnaa.Lit
set_option linter.unusedVariables false
set_option linter.unusedSimpArgs false
def fl (i : Nat) : List S26 := (List.range i).map fun j : Nat => ⟨20 + (j : Int) % 28, 1 + (j : Int) % 7⟩
theorem fl_len (i : Nat) : (fl i).length = i := by unfold fl; simp
theorem fl_next (i : Nat) : fl i ++ [⟨20 + (i : Int) % 28, 1 + (i : Int) % 7⟩] = fl (i + 1) := by unfold fl; rw [List.range_succ, List.map_append]; rfl
theorem adE_ok (i : Nat) (hi : i < 64) : adE i (20 + (i : Int) % 28) (1 + (i : Int) % 7) = 0 := by unfold adE; rw [if_neg (by omega), if_neg (by omega), if_neg (by omega)]
theorem adL_ok (i : Nat) (hi : i < 64) : adL (fl i) (20 + (i : Int) % 28) (1 + (i : Int) % 7) = fl (i + 1) := by unfold adL; rw [fl_len, if_pos (adE_ok i hi), fl_next]
set_option maxHeartbeats 4000000 in
theorem full_law (w : World) : Calls Try.prog 6 #[] w fun e w' => e = .returned (.bool true) ∧ Below w.heap.size w w' := by
  have HB := Aside0.mk (Below.refl w.heap.size w)
  go_enter Try.func6, Try.ntmps6
  go_wp2
  go_loopg [1, 2] 64 (fun g v1 v2 w' => ∃ (i : Nat) (A : Option Addr) (c : Nat), v1 = .slice A i c ∧ v2 = .int .i64 (i : Int) ∧ Aside0 (i + g = 64) ∧ Aside0 (Kd.C k26 w' A i (fl i)) ∧ Aside0 (Below w.heap.size w w'))
  case atStart => exact ⟨0, none, 0, rfl, rfl, ⟨by omega⟩, ⟨⟨rfl, Nat.zero_le _, fun h => absurd h (Nat.lt_irrefl 0)⟩⟩, HB⟩
  case round =>
    clear HB
    obtain ⟨i, A, c, rfl, rfl, hg, HC, HB⟩ := hrel
    by_cases hlt : i < 64
    · obtain ⟨g, rfl⟩ : ∃ g, gk = g + 1 := ⟨gk - 1, by have := hg.out; omega⟩
      have b0 : decide ((i : Int) < 64) = true := decide_eq_true (by omega)
      have b0' : decide (i < 64) = true := decide_eq_true hlt
      have t0 : Int.tmod (i : Int) 28 = (i : Int) % 28 := Int.tmod_eq_emod_of_nonneg (by omega)
      have t1 : Int.tmod (i : Int) 7 = (i : Int) % 7 := Int.tmod_eq_emod_of_nonneg (by omega)
      have KA := fun w h => Add_c A c (fl i) i (fl_len i) (20 + (i : Int) % 28) (1 + (i : Int) % 7) w h (by omega)
      rw [adE_ok i hlt, adL_ok i hlt] at KA
      have m0 : 0 ≤ (i : Int) % 28 ∧ (i : Int) % 28 < 28 := by omega
      have m1 : 0 ≤ (i : Int) % 7 ∧ (i : Int) % 7 < 7 := by omega
      obtain ⟨p, hp⟩ : ∃ p, (i : Int) % 28 = p := ⟨_, rfl⟩
      obtain ⟨q, hq⟩ : ∃ q, (i : Int) % 7 = q := ⟨_, rfl⟩
      rw [hp] at t0 KA m0
      rw [hq] at t1 KA m1
      replace KA := Lib.hid KA
      have u0 : IntKind.u8.wrap (1 + q) = 1 + q := by rw [IntKind.wrap_u8]; omega
      have n0 : ((i : Int) + 1 != (i : Int) + 1) = false := bne_self_eq_false _
      clear hp hq
      go_wp2_with (go_at_call 18; (with_reducible refine at_args #[.slice A i c, .agg #[.int .i64 (20 + p), .int .u8 (1 + q)]] ?_); (with_reducible refine (KA.out _ (by (with_reducible repeat (first | apply Kd.C_alloc | apply Kd.C_drewN | apply Kd.C_drew)); exact HC.out)).mono ?_); rintro e w' ⟨vp, rfl, hRp, hbp⟩; obtain ⟨Ap, cp, e_, hcp, hCp⟩ := Kd.R_reads hRp; rw [fl_len (i + 1)] at e_ hcp hCp; subst e_; have Hp := Aside0.mk hCp; clear hRp hCp; have HBn := Aside0.mk (below_step (by repeat (first | (with_reducible first | exact HB.out | apply below_alloc | apply pw_below_drewN | apply below_drew1) | exact HB.out)) hbp); clear HB hbp; have HB := HBn; clear HBn)
      go_roundg g
      case measure => omega
      case rel => exact ⟨i + 1, _, _, rfl, by simp, ⟨by have := hg.out; omega⟩, Hp, ⟨by repeat (first | (with_reducible first | exact HB.out | apply below_alloc | apply pw_below_drewN | apply below_drew1) | exact HB.out)⟩⟩
    · have hi : i = 64 := by have := hg.out; omega
      subst hi
      have K1 := fun w h => Add_c A c (fl 64) 64 (fl_len 64) 20 1 w h (by decide)
      have K2 := fun w h => Add_c A c (fl 64) 64 (fl_len 64) 19 0 w h (by decide)
      have K3 := fun w h => Add_c A c (fl 64) 64 (fl_len 64) 48 1 w h (by decide)
      have K4 := fun w h => Add_c A c (fl 64) 64 (fl_len 64) 47 8 w h (by decide)
      rw [show adE 64 20 1 = 13 by decide] at K1
      rw [show adE 64 19 0 = 3 by decide] at K2
      rw [show adE 64 48 1 = 3 by decide] at K3
      rw [show adE 64 47 8 = 2 by decide] at K4
      replace K1 := Lib.hid K1
      replace K2 := Lib.hid K2
      replace K3 := Lib.hid K3
      replace K4 := Lib.hid K4
      generalize fl 64 = l64 at HC K1 K2 K3 K4
      clear hlt hg
      go_wp2_with (first | (go_at_call 18; (with_reducible refine at_args #[.slice A 64 c, .agg #[.int .i64 20, .int .u8 1]] ?_); (with_reducible refine (K1.out _ (by (with_reducible repeat (first | apply Kd.C_alloc | apply Kd.C_drewN | apply Kd.C_drew)); exact HC.out)).mono ?_); rintro e w' ⟨vs, rfl, hRs, hbs⟩; obtain ⟨As, cs, rfl⟩ := Kd.R_slice hRs; clear hRs; replace HC := Aside0.mk (by first | exact Kd.C_below HC.out hbs | exact Kd.C_below (Kd.C_drewN HC.out _) hbs); have HBn := Aside0.mk (below_step (by repeat (first | (with_reducible first | exact HB.out | apply below_alloc | apply pw_below_drewN | apply below_drew1) | exact HB.out)) hbs); clear HB hbs; have HB := HBn; clear HBn) | (go_at_call 18; (with_reducible refine at_args #[.slice A 64 c, .agg #[.int .i64 19, .int .u8 0]] ?_); (with_reducible refine (K2.out _ (by (with_reducible repeat (first | apply Kd.C_alloc | apply Kd.C_drewN | apply Kd.C_drew)); exact HC.out)).mono ?_); rintro e w' ⟨vt, rfl, hRt, hbt⟩; obtain ⟨At, ct, rfl⟩ := Kd.R_slice hRt; clear hRt; replace HC := Aside0.mk (by first | exact Kd.C_below HC.out hbt | exact Kd.C_below (Kd.C_drewN HC.out _) hbt); have HBn := Aside0.mk (below_step (by repeat (first | (with_reducible first | exact HB.out | apply below_alloc | apply pw_below_drewN | apply below_drew1) | exact HB.out)) hbt); clear HB hbt; have HB := HBn; clear HBn) | (go_at_call 18; (with_reducible refine at_args #[.slice A 64 c, .agg #[.int .i64 48, .int .u8 1]] ?_); (with_reducible refine (K3.out _ (by (with_reducible repeat (first | apply Kd.C_alloc | apply Kd.C_drewN | apply Kd.C_drew)); exact HC.out)).mono ?_); rintro e w' ⟨vu, rfl, hRu, hbu⟩; obtain ⟨Au, cu, rfl⟩ := Kd.R_slice hRu; clear hRu; replace HC := Aside0.mk (by first | exact Kd.C_below HC.out hbu | exact Kd.C_below (Kd.C_drewN HC.out _) hbu); have HBn := Aside0.mk (below_step (by repeat (first | (with_reducible first | exact HB.out | apply below_alloc | apply pw_below_drewN | apply below_drew1) | exact HB.out)) hbu); clear HB hbu; have HB := HBn; clear HBn) | (go_at_call 18; (with_reducible refine at_args #[.slice A 64 c, .agg #[.int .i64 47, .int .u8 8]] ?_); (with_reducible refine (K4.out _ (by (with_reducible repeat (first | apply Kd.C_alloc | apply Kd.C_drewN | apply Kd.C_drew)); exact HC.out)).mono ?_); rintro e w' ⟨vv, rfl, hRv, hbv⟩; obtain ⟨Av, cv, rfl⟩ := Kd.R_slice hRv; clear hRv; replace HC := Aside0.mk (by first | exact Kd.C_below HC.out hbv | exact Kd.C_below (Kd.C_drewN HC.out _) hbv); have HBn := Aside0.mk (below_step (by repeat (first | (with_reducible first | exact HB.out | apply below_alloc | apply pw_below_drewN | apply below_drew1) | exact HB.out)) hbv); clear HB hbv; have HB := HBn; clear HBn) | (go_at_call 16; (with_reducible refine at_args #[] ?_); (with_reducible refine (works_c _).mono ?_); rintro e w' ⟨rfl, hbw⟩; have HBn := Aside0.mk (below_step (by repeat (first | (with_reducible first | exact HB.out | apply below_alloc | apply pw_below_drewN | apply below_drew1) | exact HB.out)) hbw); clear HB hbw; have HB := HBn; clear HBn))
      go_ret
      exact ⟨rfl, by repeat (first | (with_reducible first | exact HB.out | apply below_alloc | apply pw_below_drewN | apply below_drew1) | exact HB.out)⟩
end Go.Proofs.Ytebnodldfddbnaa.Cnt
