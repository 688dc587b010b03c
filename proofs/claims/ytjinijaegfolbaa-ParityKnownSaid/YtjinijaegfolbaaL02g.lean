/- The walk of ParityKnown: it returns true; no condition. -/
import Derived.Test.YtjinijaegfolbaaL02e
import Derived.Test.YtjinijaegfolbaaL02c
namespace Go.Proofs.Ytjinijaegfolbaa.L02
open Go.RowKit Go.Proofs.Ytjinijaegfolbaa.PAll Go.Proofs.YtjinijaegfolbaaW.PrintWords Go.Proofs.YtjinijaegfolbaaW.PrintLast Go.Proofs.YtjinijaegfolbaaW.PrintMore Go.Proofs.Ytjinijaegfolbaa.Plain
set_option linter.unusedVariables false
set_option linter.unusedSimpArgs false
theorem lit_C (W : World) (e : TypeId) (k : IntKind) (xs : List Int) (hm : xs.length ≤ 9223372036854775807) : Kd.C (Kd.int k) (W.alloc (.cells (nums k xs).toArray e)) (some ⟨W.heap.size, 0, none⟩) xs.length xs :=
  Kd.C_of_reads (d := (0 : Int)) (h1 := fun _ => rfl) (own_reads' (own_lit W 0 e k xs (Nat.zero_le _) hm))
theorem all_13 : [1, 3].map putI = [1, 32771] := by decide +kernel
theorem bads_4 : bads [1, 0, 32768, 3] 4 = [1, 3] := by decide +kernel
theorem wf_13 : ∀ x ∈ [1, 3], (Lit.int .u16 x).wf = true := by decide +kernel
theorem wf_4 : ∀ x ∈ [1, 0, 32768, 3], (Lit.int .u16 x).wf = true := by decide +kernel
theorem fl_a : flI 1 0 = 0 ∧ feI 0 = 0 ∧ feI (-1) = 3 := by decide +kernel
theorem ob_a : ob15 0 = false ∧ ob15 32769 = true ∧ ob15 32771 = false ∧ putI 32767 = 32767 ∧ putI 65535 = 32767 ∧ ob16 0 = false ∧ ob16 65535 = false := by decide +kernel
theorem All_13 (W0 : World) (w : World) (hr : Kd.C (Kd.int .u16) w (some ⟨W0.heap.size, 0, none⟩) 2 [1, 3]) :
    Calls Try.prog 19 #[.slice (some ⟨W0.heap.size, 0, none⟩) 2 2] w fun e w' => ∃ (g c : Nat), e = .returned (.slice (some ⟨g, 0, none⟩) 2 c) ∧ 2 ≤ c ∧ w'.cell? ⟨g, 0, none⟩ = some (.int .u16 1) ∧ w'.cell? ⟨g, 1, none⟩ = some (.int .u16 32771) ∧ Below w.heap.size w w' := by
  refine (All_c _ 2 [1, 3] w hr (by decide) (by decide) wf_13).mono ?_
  rintro e w' ⟨v, rfl, hR, hb⟩
  rw [all_13] at hR
  obtain ⟨g, c, rfl, _⟩ := Kd.R_form hR (by decide)
  have h0 := (Kd.R_cell (0 : Int) hR 0 (by decide) (by decide)).1
  have h1 := (Kd.R_cell (0 : Int) hR 1 (by decide) (by decide)).1
  have hc := (Kd.R_reads' hR).2.1
  exact ⟨g, c, rfl, hc, h0, h1, hb⟩
theorem Bad_4 (W0 : World) (w : World) (hr : Kd.C (Kd.int .u16) w (some ⟨W0.heap.size, 0, none⟩) 4 [1, 0, 32768, 3]) :
    Calls Try.prog 20 #[.slice (some ⟨W0.heap.size, 0, none⟩) 4 4] w fun e w' => ∃ (g c : Nat), e = .returned (.slice (some ⟨g, 0, none⟩) 2 c) ∧ 2 ≤ c ∧ w'.cell? ⟨g, 0, none⟩ = some (.int .i64 1) ∧ w'.cell? ⟨g, 1, none⟩ = some (.int .i64 3) ∧ Below w.heap.size w w' := by
  refine (Bad_c _ 4 [1, 0, 32768, 3] (by decide) wf_4 w hr).mono ?_
  rintro e w' ⟨v, rfl, hR, hb⟩
  rw [show bads [1, 0, 32768, 3] ([1, 0, 32768, 3] : List Int).length = [1, 3] from bads_4] at hR
  obtain ⟨g, c, rfl, _⟩ := Kd.R_form hR (by decide)
  have h0 := (Kd.R_cell (0 : Int) hR 0 (by decide) (by decide)).1
  have h1 := (Kd.R_cell (0 : Int) hR 1 (by decide) (by decide)).1
  have hc := (Kd.R_reads' hR).2.1
  exact ⟨g, c, rfl, hc, h0, h1, hb⟩
theorem All_0 (w : World) : Calls Try.prog 19 #[.slice none 0 0] w fun e w' => ∃ (a : Option Addr) (c : Nat), e = .returned (.slice a 0 c) ∧ Below w.heap.size w w' := by
  refine (All_c none 0 [] w (Kd.C_nil _ _) (by decide) (by decide) (by simp)).mono ?_
  rintro e w' ⟨v, rfl, hR, hb⟩
  obtain ⟨A, c, rfl, hc, hC⟩ := Kd.R_reads hR
  exact ⟨A, c, rfl, hb⟩
theorem Bad_0 (w : World) : Calls Try.prog 20 #[.slice none 0 0] w fun e w' => ∃ (a : Option Addr) (c : Nat), e = .returned (.slice a 0 c) ∧ Below w.heap.size w w' := by
  refine (Bad_c none 0 [] (by decide) (by simp) w (Kd.C_nil _ _)).mono ?_
  rintro e w' ⟨v, rfl, hR, hb⟩
  obtain ⟨A, c, rfl, hc, hC⟩ := Kd.R_reads hR
  exact ⟨A, c, rfl, hb⟩
set_option maxHeartbeats 2000000 in
theorem known_walk (w : World) : Calls Try.prog 8 #[] w fun e w' => e = .returned (.bool true) ∧ Below w.heap.size w w' := by
  have HB := Aside0.mk (Below.refl w.heap.size w)
  have k1 := Flip_c 1 0 (by decide) (by decide)
  have k2 := Flip_c 1 (-1) (by decide) (by decide)
  rw [fl_a.1, fl_a.2.1] at k1
  rw [fl_a.2.2] at k2
  have o1 := Odd_c 0 (by decide) (by decide)
  have o2 := Odd_c 32769 (by decide) (by decide)
  have o3 := Odd_c 32771 (by decide) (by decide)
  have p1 := Put_c 32767 (by decide) (by decide)
  have p2 := Put_c 65535 (by decide) (by decide)
  rw [ob_a.1] at o1
  rw [ob_a.2.1] at o2
  rw [ob_a.2.2.1] at o3
  rw [ob_a.2.2.2.1] at p1
  rw [ob_a.2.2.2.2.1] at p2
  have g1 := gets_c 0 0 (by decide) (by decide) (by decide) false ob_a.2.2.2.2.2.1
  have g2 := gets_c 65535 32767 (by decide) (by decide) (by decide) false ob_a.2.2.2.2.2.2
  replace k1 := Lib.hid k1
  replace k2 := Lib.hid k2
  replace o1 := Lib.hid o1
  replace o2 := Lib.hid o2
  replace o3 := Lib.hid o3
  replace p1 := Lib.hid p1
  replace p2 := Lib.hid p2
  replace g1 := Lib.hid g1
  replace g2 := Lib.hid g2
  go_enter Try.func8, Try.ntmps8
  go_wp2_with (first | (go_at_call 9; (with_reducible refine at_args #[.int .u16 1, .int .i64 0] ?_); (with_reducible refine (k1.out _).mono ?_); rintro e w' ⟨rfl, ⟨nd, rfl⟩⟩) | (go_at_call 9; (with_reducible refine at_args #[.int .u16 1, .int .i64 (-1)] ?_); (with_reducible refine (k2.out _).mono ?_); rintro e w' ⟨rfl, ⟨nd, rfl⟩⟩) | (go_at_call 19; (with_reducible refine at_args #[.slice (some ⟨_, 0, none⟩) 2 2] ?_); refine (All_13 _ _ (by (with_reducible repeat (first | apply Kd.C_drewN | apply Kd.C_drew)); exact lit_C _ _ _ [1, 3] (by decide))).mono ?_; rintro e w' ⟨ga, ca, rfl, hca, a0, a1, hb⟩; have HBn := Aside0.mk (below_step (by repeat (first | (with_reducible first | exact HB.out | apply below_alloc | apply pw_below_drewN | apply below_drew1) | exact HB.out)) hb); clear HB hb; have HB := HBn; clear HBn) | (go_at_call 20; (with_reducible refine at_args #[.slice (some ⟨_, 0, none⟩) 4 4] ?_); refine (Bad_4 _ _ (by (with_reducible repeat (first | apply Kd.C_drewN | apply Kd.C_drew)); exact lit_C _ _ _ [1, 0, 32768, 3] (by decide))).mono ?_; rintro e w' ⟨gb, cb, rfl, hcb, b0, b1, hb⟩; have a0' := pw_cell_below (below_step (by repeat (first | (with_reducible first | exact Below.refl _ _ | apply below_alloc | apply pw_below_drewN | apply below_drew1) | exact Below.refl _ _)) hb) a0; have a1' := pw_cell_below (below_step (by repeat (first | (with_reducible first | exact Below.refl _ _ | apply below_alloc | apply pw_below_drewN | apply below_drew1) | exact Below.refl _ _)) hb) a1; clear a0 a1; have HBn := Aside0.mk (below_step (by repeat (first | (with_reducible first | exact HB.out | apply below_alloc | apply pw_below_drewN | apply below_drew1) | exact HB.out)) hb); clear HB hb; have HB := HBn; clear HBn) | (go_at_call 13; (with_reducible refine at_args #[.int .u16 0] ?_); (with_reducible refine (o1.out _).mono ?_); rintro e w' ⟨rfl, ⟨nd, rfl⟩⟩) | (go_at_call 13; (with_reducible refine at_args #[.int .u16 32769] ?_); (with_reducible refine (o2.out _).mono ?_); rintro e w' ⟨rfl, ⟨nd, rfl⟩⟩) | (go_at_call 13; (with_reducible refine at_args #[.int .u16 32771] ?_); (with_reducible refine (o3.out _).mono ?_); rintro e w' ⟨rfl, ⟨nd, rfl⟩⟩) | (go_at_call 15; (with_reducible refine at_args #[.int .u16 32767] ?_); (with_reducible refine (p1.out _).mono ?_); rintro e w' ⟨rfl, ⟨nd, rfl⟩⟩) | (go_at_call 15; (with_reducible refine at_args #[.int .u16 65535] ?_); (with_reducible refine (p2.out _).mono ?_); rintro e w' ⟨rfl, ⟨nd, rfl⟩⟩) | (go_at_call 18; (with_reducible refine at_args #[.int .u16 0, .int .u16 0, .bool false] ?_); (with_reducible refine (g1.out _).mono ?_); rintro e w' ⟨rfl, ⟨nd, rfl⟩⟩) | (go_at_call 18; (with_reducible refine at_args #[.int .u16 65535, .int .u16 32767, .bool false] ?_); (with_reducible refine (g2.out _).mono ?_); rintro e w' ⟨rfl, ⟨nd, rfl⟩⟩) | (go_at_call 19; (with_reducible refine at_args #[.slice none 0 0] ?_); refine (All_0 _).mono ?_; rintro e w' ⟨ac, cc, rfl, hb⟩; have HBn := Aside0.mk (below_step (by repeat (first | (with_reducible first | exact HB.out | apply below_alloc | apply pw_below_drewN | apply below_drew1) | exact HB.out)) hb); clear HB hb; have HB := HBn; clear HBn) | (go_at_call 20; (with_reducible refine at_args #[.slice none 0 0] ?_); refine (Bad_0 _).mono ?_; rintro e w' ⟨ac, cc, rfl, hb⟩; have HBn := Aside0.mk (below_step (by repeat (first | (with_reducible first | exact HB.out | apply below_alloc | apply pw_below_drewN | apply below_drew1) | exact HB.out)) hb); clear HB hb; have HB := HBn; clear HBn) | (go_at_call 17; (with_reducible refine at_args #[] ?_); (with_reducible refine (works_c _).mono ?_); rintro e w' ⟨rfl, ⟨nd, rfl⟩⟩))
  go_ret
  exact ⟨rfl, by repeat (first | (with_reducible first | exact HB.out | apply below_alloc | apply pw_below_drewN | apply below_drew1) | exact HB.out)⟩
end Go.Proofs.Ytjinijaegfolbaa.L02
