/- The law InterruptKnown: the remaining examples and limits; no condition. -/
import Derived.Test.YtejnppbkncfkeaaRup8
namespace Go.Proofs.Ytejnppbkncfkeaa.Rup
open Go.RowKit Go.Proofs.Ytejnppbkncfkeaa.PAll Go.Proofs.YtejnppbkncfkeaaW.PrintWords Go.Proofs.YtejnppbkncfkeaaW.PrintLast Go.Proofs.YtejnppbkncfkeaaW.PrintMore Go.Proofs.Ytejnppbkncfkeaa.Plain Go.Proofs.Ytejnppbkncfkeaa.Lit
set_option linter.unusedVariables false
set_option linter.unusedSimpArgs false
set_option maxRecDepth 100000 in
set_option maxHeartbeats 8000000 in
theorem known_law (w : World) : Calls Try.prog 7 #[] w fun e w' => e = .returned (.bool true) ∧ Below w.heap.size w w' := by
  have HB := Aside0.mk (Below.refl w.heap.size w)
  have R0 := Lib.hid fun (w : World) => interrupt_Request.calls 0 0 0 3 w (by kernel_rfl)
  have R11 := Lib.hid fun (w : World) => interrupt_Request.calls 0 11 0 3 w (by kernel_rfl)
  have R3 := Lib.hid fun (w : World) => interrupt_Request.calls 63489 3 8 0 w (by kernel_rfl)
  have PB := Lib.hid (show ∀ (w : World) (A : Option Addr) (c : Nat), Kd.C (Kd.int .i64) w A 1 [1] → 1 ≤ c → Calls Try.prog 22 #[.slice A 1 c] w (fun e w' => e = .returned (.agg #[.int .u16 2]) ∧ Below w.heap.size w w') from fun w A c h hc => perilunelaw07_pending.calls 10 A c [1] 2 w h hc (by kernel_rfl))
  have E1 := Lib.hid fun (w : World) => Enter_c1 0 0 0 4096 0 0 0 false 0 false 0 false false 2 0 (by decide) (by decide) (by decide) w
  have E2 := Lib.hid fun (w : World) => Enter_c2 0 0 0 4095 0 0 0 false 0 false 0 false false 2049 0 (by decide) (by decide) (by decide) (by decide) w
  have LV := Lib.hid (show ∀ (w : World), Calls Try.prog 11 #[.agg #[.int .u16 3, .int .u16 0, .int .u16 0, .int .i64 0, .int .i64 0, .int .i64 0, .int .i64 0, .bool false, .int .u16 0, .bool false, .int .u16 0, .bool false, .bool false], .slice none 0 0] w (fun e w' => e = .returned (.agg #[.int .u16 3, .int .u16 0, .int .u16 0, .int .i64 0, .int .i64 0, .int .i64 0, .int .i64 0, .bool false, .int .u16 0, .bool true, .int .u16 0, .bool false, .bool false]) ∧ Below w.heap.size w w') from fun w => interrupt_Leave.calls 3 0 0 0 0 0 0 false 0 false 0 false false none 0 [] 3 0 0 0 0 0 0 false 0 true 0 false false w ⟨rfl, Nat.zero_le _, fun h => absurd h (Nat.lt_irrefl 0)⟩ (Nat.le_refl _) (by kernel_rfl))
  have W0 := Lib.hid fun (w : World) => Waits_c 65535 0 (by decide) (by decide) w
  have W11 := Lib.hid fun (w : World) => Waits_c 65535 11 (by decide) (by decide) w
  have A1 := Lib.hid fun (w : World) => Allowed_c 16384 0 0 0 0 0 0 false 0 false 0 false false w
  have A2 := Lib.hid fun (w : World) => Allowed_c 0 0 0 0 0 0 0 false 1 false 0 false false w
  rw [show wtB 65535 0 = false by decide] at W0
  rw [show wtB 65535 11 = false by decide] at W11
  rw [show alB 16384 0 false false false false = false by decide] at A1
  rw [show alB 0 1 false false false false = false by decide] at A2
  have h26 := fun d w => eqS26 d w 3 0 0 0 0 0 0 false 0 true 0 false false
  go_enter Try.func7, Try.ntmps7
  go_upto_region 4 with (first | (go_at_call 14; (with_reducible refine at_args #[.agg #[.int .u16 0], .int .i64 0] ?_); (with_reducible refine (R0.out _).mono ?_); rintro e w1 ⟨rfl, hbz⟩; have HBn := Aside0.mk (below_step (by repeat (first | (with_reducible first | exact HB.out | apply below_alloc | apply pw_below_drewN | apply below_drew1) | exact HB.out)) hbz); clear HB; have HB := HBn; clear HBn; clear hbz) | (go_at_call 14; (with_reducible refine at_args #[.agg #[.int .u16 0], .int .i64 11] ?_); (with_reducible refine (R11.out _).mono ?_); rintro e w2 ⟨rfl, hbz⟩; have HBn := Aside0.mk (below_step (by repeat (first | (with_reducible first | exact HB.out | apply below_alloc | apply pw_below_drewN | apply below_drew1) | exact HB.out)) hbz); clear HB; have HB := HBn; clear HBn; clear hbz) | (go_at_call 14; (with_reducible refine at_args #[.agg #[.int .u16 63489], .int .i64 3] ?_); (with_reducible refine (R3.out _).mono ?_); rintro e w3 ⟨rfl, hbz⟩; have HBn := Aside0.mk (below_step (by repeat (first | (with_reducible first | exact HB.out | apply below_alloc | apply pw_below_drewN | apply below_drew1) | exact HB.out)) hbz); clear HB; have HB := HBn; clear HBn; clear hbz))
  have nB : Aside0 (Below w.heap.size w (w3.alloc (.cells #[.int .u16 8] 28))) := ⟨(below_alloc HB.out _)⟩
  have n5 : Aside0 ((World.heap ((w3.alloc (.cells #[.int .u16 8] 28))))[w3.heap.size]? = some (.cells #[.int .u16 8] 28 (0, 0))) := ⟨by have h := blk_new w3 (.cells #[.int .u16 8] 28); exact h⟩
  clear HB 
  generalize (w3.alloc (.cells #[.int .u16 8] 28)) = w4 at nB n5 ⊢
  obtain ⟨b5, hb5⟩ : ∃ x, w3.heap.size = x := ⟨_, rfl⟩
  rw [hb5] at n5 ⊢
  clear hb5
  have HB := nB
  have K5 := n5
  clear nB n5
  go_upto_region 5 with (first | (go_at_call 22; (with_reducible refine at_args #[.slice _ 1 1] ?_); (with_reducible refine (PB.out _ _ 1 ?hlP (by decide)).mono ?_); (case hlP => exact litI _ [1] _ _ (by first | rfl | (simp; done)) rfl (by decide)); rintro e w5 ⟨rfl, hbz⟩; replace K5 := Aside0.mk (blk_alloc K5.out (.cells #[.int .i64 1] 3)); have n5 := Aside0.mk (blk_below K5.out hbz); clear K5; have K5 := n5; clear n5; have HBn := Aside0.mk (below_step (by repeat (first | (with_reducible first | exact HB.out | apply below_alloc | apply pw_below_drewN | apply below_drew1) | exact HB.out)) hbz); clear HB; have HB := HBn; clear HBn; clear hbz) | (go_at_call 8; (with_reducible refine at_args #[.agg #[.int .u16 0, .int .u16 0, .int .u16 0, .int .i64 4096, .int .i64 0, .int .i64 0, .int .i64 0, .bool false, .int .u16 0, .bool false, .int .u16 0, .bool false, .bool false], .agg #[.int .u16 2], .int .u16 0] ?_); (with_reducible refine (E1.out _).mono ?_); rintro e w6 ⟨rfl, hbz⟩; have n5 := Aside0.mk (blk_below K5.out hbz); clear K5; have K5 := n5; clear n5; have HBn := Aside0.mk (below_step (by repeat (first | (with_reducible first | exact HB.out | apply below_alloc | apply pw_below_drewN | apply below_drew1) | exact HB.out)) hbz); clear HB; have HB := HBn; clear HBn; clear hbz))
  have n5 : Aside0 ((World.heap (((w6.alloc (.cells #[.int .u16 0, .int .u16 0, .int .u16 0, .int .i64 0, .int .i64 0, .int .i64 0, .int .i64 0, .bool false, .int .u16 0, .bool false, .int .u16 0, .bool false, .bool false] 26)).alloc (.cells #[.int .u16 0] 28))))[b5]? = some (.cells #[.int .u16 8] 28 (0, 0))) := ⟨(blk_alloc (blk_alloc K5.out _) _)⟩
  have nB : Aside0 (Below w.heap.size w ((w6.alloc (.cells #[.int .u16 0, .int .u16 0, .int .u16 0, .int .i64 0, .int .i64 0, .int .i64 0, .int .i64 0, .bool false, .int .u16 0, .bool false, .int .u16 0, .bool false, .bool false] 26)).alloc (.cells #[.int .u16 0] 28))) := ⟨(below_alloc (below_alloc HB.out _) _)⟩
  have n7 : Aside0 ((World.heap (((w6.alloc (.cells #[.int .u16 0, .int .u16 0, .int .u16 0, .int .i64 0, .int .i64 0, .int .i64 0, .int .i64 0, .bool false, .int .u16 0, .bool false, .int .u16 0, .bool false, .bool false] 26)).alloc (.cells #[.int .u16 0] 28))))[w6.heap.size]? = some (.cells #[.int .u16 0, .int .u16 0, .int .u16 0, .int .i64 0, .int .i64 0, .int .i64 0, .int .i64 0, .bool false, .int .u16 0, .bool false, .int .u16 0, .bool false, .bool false] 26 (0, 0))) := ⟨by have h := blk_alloc (blk_new w6 (.cells #[.int .u16 0, .int .u16 0, .int .u16 0, .int .i64 0, .int .i64 0, .int .i64 0, .int .i64 0, .bool false, .int .u16 0, .bool false, .int .u16 0, .bool false, .bool false] 26)) (.cells #[.int .u16 0] 28); exact h⟩
  have n8 : Aside0 ((World.heap (((w6.alloc (.cells #[.int .u16 0, .int .u16 0, .int .u16 0, .int .i64 0, .int .i64 0, .int .i64 0, .int .i64 0, .bool false, .int .u16 0, .bool false, .int .u16 0, .bool false, .bool false] 26)).alloc (.cells #[.int .u16 0] 28))))[w6.heap.size + 1]? = some (.cells #[.int .u16 0] 28 (0, 0))) := ⟨by have h := blk_new (w6.alloc (.cells #[.int .u16 0, .int .u16 0, .int .u16 0, .int .i64 0, .int .i64 0, .int .i64 0, .int .i64 0, .bool false, .int .u16 0, .bool false, .int .u16 0, .bool false, .bool false] 26)) (.cells #[.int .u16 0] 28); rw [World.size_alloc] at h; exact h⟩
  clear HB K5
  generalize ((w6.alloc (.cells #[.int .u16 0, .int .u16 0, .int .u16 0, .int .i64 0, .int .i64 0, .int .i64 0, .int .i64 0, .bool false, .int .u16 0, .bool false, .int .u16 0, .bool false, .bool false] 26)).alloc (.cells #[.int .u16 0] 28)) = w7 at nB n5 n7 n8 ⊢
  obtain ⟨b7, hb7⟩ : ∃ x, w6.heap.size = x := ⟨_, rfl⟩
  rw [hb7] at n7 n8 ⊢
  clear hb7
  have HB := nB
  have K5 := n5
  have K7 := n7
  have K8 := n8
  clear nB n5 n7 n8
  clear K7 K8
  go_upto_region 6 with (first | (go_at_call 8; (with_reducible refine at_args #[.agg #[.int .u16 0, .int .u16 0, .int .u16 0, .int .i64 4095, .int .i64 0, .int .i64 0, .int .i64 0, .bool false, .int .u16 0, .bool false, .int .u16 0, .bool false, .bool false], .agg #[.int .u16 2049], .int .u16 0] ?_); (with_reducible refine (E2.out _).mono ?_); rintro e w8 ⟨rfl, hbz⟩; have n5 := Aside0.mk (blk_below K5.out hbz); clear K5; have K5 := n5; clear n5; have HBn := Aside0.mk (below_step (by repeat (first | (with_reducible first | exact HB.out | apply below_alloc | apply pw_below_drewN | apply below_drew1) | exact HB.out)) hbz); clear HB; have HB := HBn; clear HBn; clear hbz))
  have n5 : Aside0 ((World.heap (((w8.alloc (.cells #[.int .u16 0, .int .u16 0, .int .u16 0, .int .i64 0, .int .i64 0, .int .i64 0, .int .i64 0, .bool false, .int .u16 0, .bool false, .int .u16 0, .bool false, .bool false] 26)).alloc (.cells #[.int .u16 0] 28))))[b5]? = some (.cells #[.int .u16 8] 28 (0, 0))) := ⟨(blk_alloc (blk_alloc K5.out _) _)⟩
  have nB : Aside0 (Below w.heap.size w ((w8.alloc (.cells #[.int .u16 0, .int .u16 0, .int .u16 0, .int .i64 0, .int .i64 0, .int .i64 0, .int .i64 0, .bool false, .int .u16 0, .bool false, .int .u16 0, .bool false, .bool false] 26)).alloc (.cells #[.int .u16 0] 28))) := ⟨(below_alloc (below_alloc HB.out _) _)⟩
  have n7 : Aside0 ((World.heap (((w8.alloc (.cells #[.int .u16 0, .int .u16 0, .int .u16 0, .int .i64 0, .int .i64 0, .int .i64 0, .int .i64 0, .bool false, .int .u16 0, .bool false, .int .u16 0, .bool false, .bool false] 26)).alloc (.cells #[.int .u16 0] 28))))[w8.heap.size]? = some (.cells #[.int .u16 0, .int .u16 0, .int .u16 0, .int .i64 0, .int .i64 0, .int .i64 0, .int .i64 0, .bool false, .int .u16 0, .bool false, .int .u16 0, .bool false, .bool false] 26 (0, 0))) := ⟨by have h := blk_alloc (blk_new w8 (.cells #[.int .u16 0, .int .u16 0, .int .u16 0, .int .i64 0, .int .i64 0, .int .i64 0, .int .i64 0, .bool false, .int .u16 0, .bool false, .int .u16 0, .bool false, .bool false] 26)) (.cells #[.int .u16 0] 28); exact h⟩
  have n8 : Aside0 ((World.heap (((w8.alloc (.cells #[.int .u16 0, .int .u16 0, .int .u16 0, .int .i64 0, .int .i64 0, .int .i64 0, .int .i64 0, .bool false, .int .u16 0, .bool false, .int .u16 0, .bool false, .bool false] 26)).alloc (.cells #[.int .u16 0] 28))))[w8.heap.size + 1]? = some (.cells #[.int .u16 0] 28 (0, 0))) := ⟨by have h := blk_new (w8.alloc (.cells #[.int .u16 0, .int .u16 0, .int .u16 0, .int .i64 0, .int .i64 0, .int .i64 0, .int .i64 0, .bool false, .int .u16 0, .bool false, .int .u16 0, .bool false, .bool false] 26)) (.cells #[.int .u16 0] 28); rw [World.size_alloc] at h; exact h⟩
  clear HB K5
  generalize ((w8.alloc (.cells #[.int .u16 0, .int .u16 0, .int .u16 0, .int .i64 0, .int .i64 0, .int .i64 0, .int .i64 0, .bool false, .int .u16 0, .bool false, .int .u16 0, .bool false, .bool false] 26)).alloc (.cells #[.int .u16 0] 28)) = w9 at nB n5 n7 n8 ⊢
  obtain ⟨b9, hb9⟩ : ∃ x, w8.heap.size = x := ⟨_, rfl⟩
  rw [hb9] at n7 n8 ⊢
  clear hb9
  have HB := nB
  have K5 := n5
  have K7 := n7
  have K8 := n8
  clear nB n5 n7 n8
  clear K7 K8
  go_upto_region 7 with (first | (go_at_call 11; (with_reducible refine at_args #[.agg #[.int .u16 3, .int .u16 0, .int .u16 0, .int .i64 0, .int .i64 0, .int .i64 0, .int .i64 0, .bool false, .int .u16 0, .bool false, .int .u16 0, .bool false, .bool false], .slice none 0 0] ?_); (with_reducible refine (LV.out _).mono ?_); rintro e w10 ⟨rfl, hbz⟩; have n5 := Aside0.mk (blk_below K5.out hbz); clear K5; have K5 := n5; clear n5; have HBn := Aside0.mk (below_step (by repeat (first | (with_reducible first | exact HB.out | apply below_alloc | apply pw_below_drewN | apply below_drew1) | exact HB.out)) hbz); clear HB; have HB := HBn; clear HBn; clear hbz))
  have n5 : Aside0 ((World.heap ((w10.alloc (.cells #[.int .u16 3, .int .u16 0, .int .u16 0, .int .i64 0, .int .i64 0, .int .i64 0, .int .i64 0, .bool false, .int .u16 0, .bool true, .int .u16 0, .bool false, .bool false] 26))))[b5]? = some (.cells #[.int .u16 8] 28 (0, 0))) := ⟨(blk_alloc K5.out _)⟩
  have nB : Aside0 (Below w.heap.size w (w10.alloc (.cells #[.int .u16 3, .int .u16 0, .int .u16 0, .int .i64 0, .int .i64 0, .int .i64 0, .int .i64 0, .bool false, .int .u16 0, .bool true, .int .u16 0, .bool false, .bool false] 26))) := ⟨(below_alloc HB.out _)⟩
  have n17 : Aside0 ((World.heap ((w10.alloc (.cells #[.int .u16 3, .int .u16 0, .int .u16 0, .int .i64 0, .int .i64 0, .int .i64 0, .int .i64 0, .bool false, .int .u16 0, .bool true, .int .u16 0, .bool false, .bool false] 26))))[w10.heap.size]? = some (.cells #[.int .u16 3, .int .u16 0, .int .u16 0, .int .i64 0, .int .i64 0, .int .i64 0, .int .i64 0, .bool false, .int .u16 0, .bool true, .int .u16 0, .bool false, .bool false] 26 (0, 0))) := ⟨by have h := blk_new w10 (.cells #[.int .u16 3, .int .u16 0, .int .u16 0, .int .i64 0, .int .i64 0, .int .i64 0, .int .i64 0, .bool false, .int .u16 0, .bool true, .int .u16 0, .bool false, .bool false] 26); exact h⟩
  clear HB K5
  generalize (w10.alloc (.cells #[.int .u16 3, .int .u16 0, .int .u16 0, .int .i64 0, .int .i64 0, .int .i64 0, .int .i64 0, .bool false, .int .u16 0, .bool true, .int .u16 0, .bool false, .bool false] 26)) = w11 at nB n5 n17 ⊢
  obtain ⟨b17, hb17⟩ : ∃ x, w10.heap.size = x := ⟨_, rfl⟩
  rw [hb17] at n17 ⊢
  clear hb17
  have HB := nB
  have K5 := n5
  have K17 := n17
  clear nB n5 n17
  have u0 : w11.cell? ⟨b5, 0, none⟩ = some (.int .u16 8) := (blk_cell K5.out 0).trans rfl
  have x0 : w11.cell? ⟨b17, 0, none⟩ = some (.int .u16 3) := (blk_cell K17.out 0).trans rfl
  have x1 : w11.cell? ⟨b17, 1, none⟩ = some (.int .u16 0) := (blk_cell K17.out 1).trans rfl
  have x2 : w11.cell? ⟨b17, 2, none⟩ = some (.int .u16 0) := (blk_cell K17.out 2).trans rfl
  have x3 : w11.cell? ⟨b17, 3, none⟩ = some (.int .i64 0) := (blk_cell K17.out 3).trans rfl
  have x4 : w11.cell? ⟨b17, 4, none⟩ = some (.int .i64 0) := (blk_cell K17.out 4).trans rfl
  have x5 : w11.cell? ⟨b17, 5, none⟩ = some (.int .i64 0) := (blk_cell K17.out 5).trans rfl
  have x6 : w11.cell? ⟨b17, 6, none⟩ = some (.int .i64 0) := (blk_cell K17.out 6).trans rfl
  have x7 : w11.cell? ⟨b17, 7, none⟩ = some (.bool false) := (blk_cell K17.out 7).trans rfl
  have x8 : w11.cell? ⟨b17, 8, none⟩ = some (.int .u16 0) := (blk_cell K17.out 8).trans rfl
  have x9 : w11.cell? ⟨b17, 9, none⟩ = some (.bool true) := (blk_cell K17.out 9).trans rfl
  have x10 : w11.cell? ⟨b17, 10, none⟩ = some (.int .u16 0) := (blk_cell K17.out 10).trans rfl
  have x11 : w11.cell? ⟨b17, 11, none⟩ = some (.bool false) := (blk_cell K17.out 11).trans rfl
  have x12 : w11.cell? ⟨b17, 12, none⟩ = some (.bool false) := (blk_cell K17.out 12).trans rfl
  clear K5 K17
  go_wp2_with (first | (go_at_call 16; (with_reducible refine at_args #[.agg #[.int .u16 65535], .int .i64 0] ?_); (with_reducible refine (W0.out _).mono ?_); rintro e w12 ⟨rfl, hbz⟩; have HBn := Aside0.mk (below_step (by repeat (first | (with_reducible first | exact HB.out | apply below_alloc | apply pw_below_drewN | apply below_drew1) | exact HB.out)) hbz); clear HB; have HB := HBn; clear HBn; clear hbz) | (go_at_call 16; (with_reducible refine at_args #[.agg #[.int .u16 65535], .int .i64 11] ?_); (with_reducible refine (W11.out _).mono ?_); rintro e w13 ⟨rfl, hbz⟩; have HBn := Aside0.mk (below_step (by repeat (first | (with_reducible first | exact HB.out | apply below_alloc | apply pw_below_drewN | apply below_drew1) | exact HB.out)) hbz); clear HB; have HB := HBn; clear HBn; clear hbz) | (go_at_call 20; (with_reducible refine at_args #[.agg #[.int .u16 16384, .int .u16 0, .int .u16 0, .int .i64 0, .int .i64 0, .int .i64 0, .int .i64 0, .bool false, .int .u16 0, .bool false, .int .u16 0, .bool false, .bool false]] ?_); (with_reducible refine (A1.out _).mono ?_); rintro e w14 ⟨rfl, hbz⟩; have HBn := Aside0.mk (below_step (by repeat (first | (with_reducible first | exact HB.out | apply below_alloc | apply pw_below_drewN | apply below_drew1) | exact HB.out)) hbz); clear HB; have HB := HBn; clear HBn; clear hbz) | (go_at_call 20; (with_reducible refine at_args #[.agg #[.int .u16 0, .int .u16 0, .int .u16 0, .int .i64 0, .int .i64 0, .int .i64 0, .int .i64 0, .bool false, .int .u16 1, .bool false, .int .u16 0, .bool false, .bool false]] ?_); (with_reducible refine (A2.out _).mono ?_); rintro e w15 ⟨rfl, hbz⟩; have HBn := Aside0.mk (below_step (by repeat (first | (with_reducible first | exact HB.out | apply below_alloc | apply pw_below_drewN | apply below_drew1) | exact HB.out)) hbz); clear HB; have HB := HBn; clear HBn; clear hbz) | (go_at_call 13; (with_reducible refine at_args #[] ?_); (with_reducible refine (works_c _).mono ?_); rintro e w16 ⟨rfl, hbz⟩; have HBn := Aside0.mk (below_step (by repeat (first | (with_reducible first | exact HB.out | apply below_alloc | apply pw_below_drewN | apply below_drew1) | exact HB.out)) hbz); clear HB; have HB := HBn; clear HBn; clear hbz))
  go_ret
  exact ⟨rfl, by repeat (first | (with_reducible first | exact HB.out | apply below_alloc | apply pw_below_drewN | apply below_drew1) | exact HB.out)⟩
end Go.Proofs.Ytejnppbkncfkeaa.Rup
