/- periluneref06.Same's contract and the law CounterPulses. -/
import Derived.Test.YtebnodldfddbnaaCnt5
import Derived.Shelf.Abstract
import Derived.Shelf.RegionOpen
namespace Go.Proofs.Ytebnodldfddbnaa.Cnt
open Go.RowKit Go.Proofs.Ytebnodldfddbnaa.PAll Go.Proofs.YtebnodldfddbnaaW.PrintWords Go.Proofs.YtebnodldfddbnaaW.PrintLast Go.Proofs.YtebnodldfddbnaaW.PrintMore Go.Proofs.Ytebnodldfddbnaa.Plain Go.Proofs.Ytebnodldfddbnaa.One Go.Proofs.Ytebnodldfddbnaa.Lit
set_option linter.unusedVariables false
set_option linter.unusedSimpArgs false
set_option maxHeartbeats 2000000 in
theorem Same_c (A0 : Option Addr) (c0 : Nat) (A1 : Option Addr) (c1 : Nat) (l : List S26) (n n' : Nat) (e0 : l.length = n) (e1 : l.length = n') (w : World) (hr0 : Kd.C k26 w A0 l.length l) (hr1 : Kd.C k26 w A1 l.length l) (hl : n ≤ 1000000) :
    Calls Try.prog 15 #[.slice A0 n c0, .slice A1 n' c1] w fun e w' => e = .returned (.bool true) ∧ Below w.heap.size w w' := by
  rw [e0] at hr0 hr1
  have e : n = n' := e0.symm.trans e1
  subst e
  have HB := Aside0.mk (Below.refl w.heap.size w)
  have hC0 := Aside0.mk hr0
  have hC1 := Aside0.mk hr1
  clear hr0 hr1 e1
  have bn : ((n : Int) == (n : Int)) = true := beq_self_eq_true _
  go_enter Try.func15, Try.ntmps15
  go_wp2
  go_loopg [5] n (fun g v5 w' => ∃ i : Int, v5 = .int .i64 i ∧ 0 ≤ i ∧ Aside0 (i + g = n) ∧ Aside0 (Below w.heap.size w w'))
  case atStart => exact ⟨0, rfl, by decide, ⟨by omega⟩, HB⟩
  case round =>
    clear HB
    obtain ⟨i, rfl, h0, hg, HB⟩ := hrel
    by_cases hlt : i < (n : Int)
    · obtain ⟨g, rfl⟩ : ∃ g, gk = g + 1 := ⟨gk - 1, by have := hg.out; omega⟩
      have b0 : decide (i < (n : Int)) = true := decide_eq_true hlt
      obtain ⟨ad, eA, hx0, hx1⟩ := at_T26 (Kd.C_below hC0.out HB.out) i h0 hlt
      cases eA
      obtain ⟨bd, eA, hy0, hy1⟩ := at_T26 (Kd.C_below hC1.out HB.out) i h0 hlt
      cases eA
      have hlt' := eq_true hlt
      obtain ⟨x0, hf0⟩ : ∃ x, (rd_T26 l i).f0 = x := ⟨_, rfl⟩
      obtain ⟨x1, hf1⟩ : ∃ x, (rd_T26 l i).f1 = x := ⟨_, rfl⟩
      rw [hf0] at hx0 hy0
      rw [hf1] at hx1 hy1
      have hE := fun d w => eqA26 d w x0 x0 x1 x1
      have q0 : (x0 == x0) = true := beq_self_eq_true _
      have q1 : (x1 == x1) = true := beq_self_eq_true _
      clear hf0 hf1
      go_wp2
      go_quiet (fail)
      go_wp2
      go_roundg g
      case measure => omega
      case rel => exact ⟨i + 1, rfl, by omega, ⟨by have := hg.out; omega⟩, ⟨by repeat (first | (with_reducible first | exact HB.out | apply below_alloc | apply pw_below_drewN | apply below_drew1) | exact HB.out)⟩⟩
    · have b0 : decide (i < (n : Int)) = false := decide_eq_false hlt
      clear hg h0
      go_wp2
      go_ret
      exact ⟨rfl, by repeat (first | (with_reducible first | exact HB.out | apply below_alloc | apply pw_below_drewN | apply below_drew1) | exact HB.out)⟩
theorem afL_len (a k s : Int) : (afL a k s).length ≤ 1 := by
  unfold afL
  by_cases h : a = 25 ∧ k = 5 ∧ s = 0
  · rw [if_pos h]; decide
  · rw [if_neg h]
    by_cases h2 : s = 1 ∧ a = 21
    · rw [if_pos h2]; decide
    · rw [if_neg h2]; decide
theorem ixA (v0 v1 : Value) (W : World) : (Instr.index 27 (.agg #[v0, v1]) (.int .i64 0)).run Try.prog W = .ok v0 W := by kernel_rfl
theorem ixB (v0 v1 : Value) (W : World) : (Instr.index 27 (.agg #[v0, v1]) (.int .i64 1)).run Try.prog W = .ok v1 W := by kernel_rfl
set_option maxRecDepth 100000 in
set_option maxHeartbeats 8000000 in
theorem pulses_walk (x at_ kk sg k9 : Int) (x0 : 0 ≤ x) (x1 : x < 65536) (k0 : 0 ≤ kk) (h9 : kk % 9 = k9) (w : World) : Calls Try.prog 3 #[.int .u16 x, .agg #[.int .i64 at_, .int .u8 kk], .int .i64 sg] w fun e w' => e = .returned (.bool true) ∧ Below w.heap.size w w' := by
  have HB := Aside0.mk (Below.refl w.heap.size w)
  have t9 : Int.tmod kk 9 = k9 := by rw [← h9]; exact Int.tmod_eq_emod_of_nonneg k0
  clear h9
  go_enter Try.func3, Try.ntmps3
  go_wp2
  go_loopg [31] 2 (fun g v31 w' => ∃ i : Nat, v31 = .int .i64 (i : Int) ∧ Aside0 (i + g = 2) ∧ Aside0 (w'.cell? ⟨w.heap.size, 0, none⟩ = some (.int .i64 at_)) ∧ Aside0 (w'.cell? ⟨w.heap.size, 1, none⟩ = some (.int .u8 kk)) ∧ Aside0 (Below w.heap.size w w'))
  case atStart => exact ⟨0, rfl, ⟨by omega⟩, ⟨by rw [World.cell?_alloc_mark]; rfl⟩, ⟨by rw [World.cell?_alloc_mark]; rfl⟩, ⟨by repeat (first | (with_reducible first | exact HB.out | apply below_alloc | apply pw_below_drewN | apply below_drew1) | exact HB.out)⟩⟩
  case round =>
    clear HB t9
    obtain ⟨i, rfl, hg, BX0, BX1, HB⟩ := hrel
    by_cases h1 : i = 0
    · subst h1
      obtain ⟨g, rfl⟩ : ∃ g, gk = g + 1 := ⟨gk - 1, by have := hg.out; omega⟩
      have KA := Lib.hid (Apply_c x kk x0 x1)
      have KR := Lib.hid (refApply_c x kk x0 x1)
      generalize apN (x % 32768) kk = y_ at KA KR
      generalize apS (x % 32768) kk = s_ at KA KR
      generalize apE kk = e_ at KA KR
      have n0 : (y_ != y_) = false := bne_self_eq_false _
      have n1 : (s_ != s_) = false := bne_self_eq_false _
      have n2 : (e_ != e_) = false := bne_self_eq_false _
      have hix := ixA (.int .u8 kk) (.int .u8 k9)
      go_wp2_with (first | (go_at_call 11; (with_reducible refine at_args #[.int .u16 x, .int .u8 kk] ?_); (with_reducible refine (KA.out _).mono ?_); rintro e w' ⟨rfl, hbz⟩; replace BX0 := Aside0.mk ((hbz.cell (World.block_lt_of_cell? _ _ BX0.out)).trans BX0.out); replace BX1 := Aside0.mk ((hbz.cell (World.block_lt_of_cell? _ _ BX1.out)).trans BX1.out); have HBn := Aside0.mk (below_step (by repeat (first | (with_reducible first | exact HB.out | apply below_alloc | apply pw_below_drewN | apply below_drew1) | exact HB.out)) hbz); clear HB hbz; have HB := HBn; clear HBn) | (go_at_call 12; (with_reducible refine at_args #[.int .u16 x, .int .u8 kk] ?_); (with_reducible refine (KR.out _).mono ?_); rintro e w' ⟨rfl, ⟨nd, rfl⟩⟩))
      clear KA KR n0 n1 n2
      go_loopg [15] 20 (fun g v15 w' => ∃ a : Int, v15 = .int .i64 a ∧ Aside0 (19 ≤ a ∧ a + g = 39) ∧ Aside0 (w'.cell? ⟨w.heap.size, 0, none⟩ = some (.int .i64 at_)) ∧ Aside0 (w'.cell? ⟨w.heap.size, 1, none⟩ = some (.int .u8 kk)) ∧ Aside0 (Below w.heap.size w w'))
      case atStart => exact ⟨19, rfl, ⟨by decide, by decide⟩, BX0, BX1, ⟨by repeat (first | (with_reducible first | exact HB.out | apply below_alloc | apply pw_below_drewN | apply below_drew1) | exact HB.out)⟩⟩
      case round =>
        clear BX0 BX1 HB
        have hg0 := hg
        clear hg
        obtain ⟨a, rfl, hg, BX0, BX1, HB⟩ := hrel
        by_cases hat : a ≤ 38
        · obtain ⟨g', rfl⟩ : ∃ g', gk = g' + 1 := ⟨gk - 1, by have := hg.out; omega⟩
          have b1 : decide (a ≤ 38) = true := decide_eq_true hat
          have a0 : 19 ≤ a := hg.out.1
          go_wp2
          go_loopg [16] 3 (fun g v16 w' => ∃ s : Int, v16 = .int .i64 s ∧ Aside0 (-1 ≤ s ∧ s + g = 2) ∧ Aside0 (w'.cell? ⟨w.heap.size, 0, none⟩ = some (.int .i64 at_)) ∧ Aside0 (w'.cell? ⟨w.heap.size, 1, none⟩ = some (.int .u8 kk)) ∧ Aside0 (Below w.heap.size w w'))
          case atStart => exact ⟨-1, rfl, ⟨by decide, by decide⟩, BX0, BX1, HB⟩
          case round =>
            clear BX0 BX1 HB
            have hg1 := hg
            clear hg
            obtain ⟨s, rfl, hg, BX0, BX1, HB⟩ := hrel
            by_cases hst : s ≤ 1
            · obtain ⟨g2, rfl⟩ : ∃ g2, gk = g2 + 1 := ⟨gk - 1, by have := hg.out; omega⟩
              have b2 : decide (s ≤ 1) = true := decide_eq_true hst
              have s0 : -1 ≤ s := hg.out.1
              have n3 : (afI a kk s != afI a kk s) = false := bne_self_eq_false _
              go_wp2_with (first | (go_at_call 13; (with_reducible refine at_args #[.int .i64 a, .int .u8 kk, .int .i64 s] ?_); (with_reducible refine (After_c a kk s _).mono ?_); rintro e w' ⟨vp, rfl, hRp, hbp⟩; obtain ⟨Ap, cp, rfl, hcp, hCp⟩ := Kd.R_reads hRp; have Hp := Aside0.mk hCp; clear hRp hCp; replace BX0 := Aside0.mk ((hbp.cell (World.block_lt_of_cell? _ _ BX0.out)).trans BX0.out); replace BX1 := Aside0.mk ((hbp.cell (World.block_lt_of_cell? _ _ BX1.out)).trans BX1.out); have HBn := Aside0.mk (below_step (by repeat (first | (with_reducible first | exact HB.out | apply below_alloc | apply pw_below_drewN | apply below_drew1) | exact HB.out)) hbp); clear HB hbp; have HB := HBn; clear HBn) | (go_at_call 14; (with_reducible refine at_args #[.int .i64 a, .int .u8 kk, .int .i64 s] ?_); (with_reducible refine (rAfter_c a kk s _).mono ?_); rintro e w' ⟨vq, rfl, hRq, hbq⟩; obtain ⟨Aq, cq, rfl, hcq, hCq⟩ := Kd.R_reads hRq; have Hq := Aside0.mk hCq; clear hRq hCq; replace Hp := Aside0.mk (by first | exact Kd.C_below Hp.out hbq | exact Kd.C_below (Kd.C_drewN Hp.out _) hbq); replace BX0 := Aside0.mk ((hbq.cell (World.block_lt_of_cell? _ _ BX0.out)).trans BX0.out); replace BX1 := Aside0.mk ((hbq.cell (World.block_lt_of_cell? _ _ BX1.out)).trans BX1.out); have HBn := Aside0.mk (below_step (by repeat (first | (with_reducible first | exact HB.out | apply below_alloc | apply pw_below_drewN | apply below_drew1) | exact HB.out)) hbq); clear HB hbq; have HB := HBn; clear HBn) | (go_at_call 15; (with_reducible refine at_args #[.slice Ap _ cp, .slice Aq _ cq] ?_); (with_reducible refine (Same_c Ap cp Aq cq (afL a kk s) _ _ rfl rfl _ (by (with_reducible repeat (first | apply Kd.C_alloc | apply Kd.C_drewN | apply Kd.C_drew)); exact Hp.out) (by (with_reducible repeat (first | apply Kd.C_alloc | apply Kd.C_drewN | apply Kd.C_drew)); exact Hq.out) (by have := afL_len a kk s; omega)).mono ?_); rintro e w' ⟨rfl, hbz⟩; replace BX0 := Aside0.mk ((hbz.cell (World.block_lt_of_cell? _ _ BX0.out)).trans BX0.out); replace BX1 := Aside0.mk ((hbz.cell (World.block_lt_of_cell? _ _ BX1.out)).trans BX1.out); have HBn := Aside0.mk (below_step (by repeat (first | (with_reducible first | exact HB.out | apply below_alloc | apply pw_below_drewN | apply below_drew1) | exact HB.out)) hbz); clear HB hbz; have HB := HBn; clear HBn))
              go_roundg g2
              case measure => omega
              case rel => exact ⟨s + 1, rfl, ⟨by omega, by have := hg.out; omega⟩, BX0, BX1, ⟨by repeat (first | (with_reducible first | exact HB.out | apply below_alloc | apply pw_below_drewN | apply below_drew1) | exact HB.out)⟩⟩
            · have b2 : decide (s ≤ 1) = false := decide_eq_false hst
              clear hg
              go_wp2
              go_roundg g'
              case measure => omega
              case rel => exact ⟨a + 1, rfl, ⟨by omega, by have := hg1.out; omega⟩, BX0, BX1, ⟨by repeat (first | (with_reducible first | exact HB.out | apply below_alloc | apply pw_below_drewN | apply below_drew1) | exact HB.out)⟩⟩
        · have b1 : decide (a ≤ 38) = false := decide_eq_false hat
          clear hg
          go_wp2
          go_roundg g
          case measure => omega
          case rel => exact ⟨1, rfl, ⟨by have := hg0.out; omega⟩, BX0, BX1, ⟨by repeat (first | (with_reducible first | exact HB.out | apply below_alloc | apply pw_below_drewN | apply below_drew1) | exact HB.out)⟩⟩
    by_cases h2 : i = 1
    · subst h2
      obtain ⟨g, rfl⟩ : ∃ g, gk = g + 1 := ⟨gk - 1, by have := hg.out; omega⟩
      have KA := Lib.hid (Apply_c x k9 x0 x1)
      have KR := Lib.hid (refApply_c x k9 x0 x1)
      generalize apN (x % 32768) k9 = y_ at KA KR
      generalize apS (x % 32768) k9 = s_ at KA KR
      generalize apE k9 = e_ at KA KR
      have n0 : (y_ != y_) = false := bne_self_eq_false _
      have n1 : (s_ != s_) = false := bne_self_eq_false _
      have n2 : (e_ != e_) = false := bne_self_eq_false _
      have hix := ixB (.int .u8 kk) (.int .u8 k9)
      go_wp2_with (first | (go_at_call 11; (with_reducible refine at_args #[.int .u16 x, .int .u8 k9] ?_); (with_reducible refine (KA.out _).mono ?_); rintro e w' ⟨rfl, hbz⟩; replace BX0 := Aside0.mk ((hbz.cell (World.block_lt_of_cell? _ _ BX0.out)).trans BX0.out); replace BX1 := Aside0.mk ((hbz.cell (World.block_lt_of_cell? _ _ BX1.out)).trans BX1.out); have HBn := Aside0.mk (below_step (by repeat (first | (with_reducible first | exact HB.out | apply below_alloc | apply pw_below_drewN | apply below_drew1) | exact HB.out)) hbz); clear HB hbz; have HB := HBn; clear HBn) | (go_at_call 12; (with_reducible refine at_args #[.int .u16 x, .int .u8 k9] ?_); (with_reducible refine (KR.out _).mono ?_); rintro e w' ⟨rfl, ⟨nd, rfl⟩⟩))
      clear KA KR n0 n1 n2
      go_loopg [15] 20 (fun g v15 w' => ∃ a : Int, v15 = .int .i64 a ∧ Aside0 (19 ≤ a ∧ a + g = 39) ∧ Aside0 (w'.cell? ⟨w.heap.size, 0, none⟩ = some (.int .i64 at_)) ∧ Aside0 (w'.cell? ⟨w.heap.size, 1, none⟩ = some (.int .u8 kk)) ∧ Aside0 (Below w.heap.size w w'))
      case atStart => exact ⟨19, rfl, ⟨by decide, by decide⟩, BX0, BX1, ⟨by repeat (first | (with_reducible first | exact HB.out | apply below_alloc | apply pw_below_drewN | apply below_drew1) | exact HB.out)⟩⟩
      case round =>
        clear BX0 BX1 HB
        have hg0 := hg
        clear hg
        obtain ⟨a, rfl, hg, BX0, BX1, HB⟩ := hrel
        by_cases hat : a ≤ 38
        · obtain ⟨g', rfl⟩ : ∃ g', gk = g' + 1 := ⟨gk - 1, by have := hg.out; omega⟩
          have b1 : decide (a ≤ 38) = true := decide_eq_true hat
          have a0 : 19 ≤ a := hg.out.1
          go_wp2
          go_loopg [16] 3 (fun g v16 w' => ∃ s : Int, v16 = .int .i64 s ∧ Aside0 (-1 ≤ s ∧ s + g = 2) ∧ Aside0 (w'.cell? ⟨w.heap.size, 0, none⟩ = some (.int .i64 at_)) ∧ Aside0 (w'.cell? ⟨w.heap.size, 1, none⟩ = some (.int .u8 kk)) ∧ Aside0 (Below w.heap.size w w'))
          case atStart => exact ⟨-1, rfl, ⟨by decide, by decide⟩, BX0, BX1, HB⟩
          case round =>
            clear BX0 BX1 HB
            have hg1 := hg
            clear hg
            obtain ⟨s, rfl, hg, BX0, BX1, HB⟩ := hrel
            by_cases hst : s ≤ 1
            · obtain ⟨g2, rfl⟩ : ∃ g2, gk = g2 + 1 := ⟨gk - 1, by have := hg.out; omega⟩
              have b2 : decide (s ≤ 1) = true := decide_eq_true hst
              have s0 : -1 ≤ s := hg.out.1
              have n3 : (afI a k9 s != afI a k9 s) = false := bne_self_eq_false _
              go_wp2_with (first | (go_at_call 13; (with_reducible refine at_args #[.int .i64 a, .int .u8 k9, .int .i64 s] ?_); (with_reducible refine (After_c a k9 s _).mono ?_); rintro e w' ⟨vp, rfl, hRp, hbp⟩; obtain ⟨Ap, cp, rfl, hcp, hCp⟩ := Kd.R_reads hRp; have Hp := Aside0.mk hCp; clear hRp hCp; replace BX0 := Aside0.mk ((hbp.cell (World.block_lt_of_cell? _ _ BX0.out)).trans BX0.out); replace BX1 := Aside0.mk ((hbp.cell (World.block_lt_of_cell? _ _ BX1.out)).trans BX1.out); have HBn := Aside0.mk (below_step (by repeat (first | (with_reducible first | exact HB.out | apply below_alloc | apply pw_below_drewN | apply below_drew1) | exact HB.out)) hbp); clear HB hbp; have HB := HBn; clear HBn) | (go_at_call 14; (with_reducible refine at_args #[.int .i64 a, .int .u8 k9, .int .i64 s] ?_); (with_reducible refine (rAfter_c a k9 s _).mono ?_); rintro e w' ⟨vq, rfl, hRq, hbq⟩; obtain ⟨Aq, cq, rfl, hcq, hCq⟩ := Kd.R_reads hRq; have Hq := Aside0.mk hCq; clear hRq hCq; replace Hp := Aside0.mk (by first | exact Kd.C_below Hp.out hbq | exact Kd.C_below (Kd.C_drewN Hp.out _) hbq); replace BX0 := Aside0.mk ((hbq.cell (World.block_lt_of_cell? _ _ BX0.out)).trans BX0.out); replace BX1 := Aside0.mk ((hbq.cell (World.block_lt_of_cell? _ _ BX1.out)).trans BX1.out); have HBn := Aside0.mk (below_step (by repeat (first | (with_reducible first | exact HB.out | apply below_alloc | apply pw_below_drewN | apply below_drew1) | exact HB.out)) hbq); clear HB hbq; have HB := HBn; clear HBn) | (go_at_call 15; (with_reducible refine at_args #[.slice Ap _ cp, .slice Aq _ cq] ?_); (with_reducible refine (Same_c Ap cp Aq cq (afL a k9 s) _ _ rfl rfl _ (by (with_reducible repeat (first | apply Kd.C_alloc | apply Kd.C_drewN | apply Kd.C_drew)); exact Hp.out) (by (with_reducible repeat (first | apply Kd.C_alloc | apply Kd.C_drewN | apply Kd.C_drew)); exact Hq.out) (by have := afL_len a k9 s; omega)).mono ?_); rintro e w' ⟨rfl, hbz⟩; replace BX0 := Aside0.mk ((hbz.cell (World.block_lt_of_cell? _ _ BX0.out)).trans BX0.out); replace BX1 := Aside0.mk ((hbz.cell (World.block_lt_of_cell? _ _ BX1.out)).trans BX1.out); have HBn := Aside0.mk (below_step (by repeat (first | (with_reducible first | exact HB.out | apply below_alloc | apply pw_below_drewN | apply below_drew1) | exact HB.out)) hbz); clear HB hbz; have HB := HBn; clear HBn))
              go_roundg g2
              case measure => omega
              case rel => exact ⟨s + 1, rfl, ⟨by omega, by have := hg.out; omega⟩, BX0, BX1, ⟨by repeat (first | (with_reducible first | exact HB.out | apply below_alloc | apply pw_below_drewN | apply below_drew1) | exact HB.out)⟩⟩
            · have b2 : decide (s ≤ 1) = false := decide_eq_false hst
              clear hg
              go_wp2
              go_roundg g'
              case measure => omega
              case rel => exact ⟨a + 1, rfl, ⟨by omega, by have := hg1.out; omega⟩, BX0, BX1, ⟨by repeat (first | (with_reducible first | exact HB.out | apply below_alloc | apply pw_below_drewN | apply below_drew1) | exact HB.out)⟩⟩
        · have b1 : decide (a ≤ 38) = false := decide_eq_false hat
          clear hg
          go_wp2
          go_roundg g
          case measure => omega
          case rel => exact ⟨2, rfl, ⟨by have := hg0.out; omega⟩, BX0, BX1, ⟨by repeat (first | (with_reducible first | exact HB.out | apply below_alloc | apply pw_below_drewN | apply below_drew1) | exact HB.out)⟩⟩
    have hi : i = 2 := by have := hg.out; omega
    subst hi
    obtain ⟨z0⟩ := BX0
    obtain ⟨z1⟩ := BX1
    have BX0 := Aside0.mk z0
    have BX1 := Aside0.mk z1
    have n3 : (afI at_ kk sg == afI at_ kk sg) = true := beq_self_eq_true _
    clear h1 h2 hg
    go_wp2_with (first | (go_at_call 13; (with_reducible refine at_args #[.int .i64 at_, .int .u8 kk, .int .i64 sg] ?_); (with_reducible refine (After_c at_ kk sg _).mono ?_); rintro e w' ⟨vp, rfl, hRp, hbp⟩; obtain ⟨Ap, cp, rfl, hcp, hCp⟩ := Kd.R_reads hRp; have Hp := Aside0.mk hCp; clear hRp hCp; replace BX0 := Aside0.mk ((hbp.cell (World.block_lt_of_cell? _ _ BX0.out)).trans BX0.out); replace BX1 := Aside0.mk ((hbp.cell (World.block_lt_of_cell? _ _ BX1.out)).trans BX1.out); clear z0 z1; have z0 := BX0.out; have z1 := BX1.out; have HBn := Aside0.mk (below_step (by repeat (first | (with_reducible first | exact HB.out | apply below_alloc | apply pw_below_drewN | apply below_drew1) | exact HB.out)) hbp); clear HB hbp; have HB := HBn; clear HBn) | (go_at_call 14; (with_reducible refine at_args #[.int .i64 at_, .int .u8 kk, .int .i64 sg] ?_); (with_reducible refine (rAfter_c at_ kk sg _).mono ?_); rintro e w' ⟨vq, rfl, hRq, hbq⟩; obtain ⟨Aq, cq, rfl, hcq, hCq⟩ := Kd.R_reads hRq; have Hq := Aside0.mk hCq; clear hRq hCq; replace Hp := Aside0.mk (by first | exact Kd.C_below Hp.out hbq | exact Kd.C_below (Kd.C_drewN Hp.out _) hbq); replace BX0 := Aside0.mk ((hbq.cell (World.block_lt_of_cell? _ _ BX0.out)).trans BX0.out); replace BX1 := Aside0.mk ((hbq.cell (World.block_lt_of_cell? _ _ BX1.out)).trans BX1.out); clear z0 z1; have z0 := BX0.out; have z1 := BX1.out; have HBn := Aside0.mk (below_step (by repeat (first | (with_reducible first | exact HB.out | apply below_alloc | apply pw_below_drewN | apply below_drew1) | exact HB.out)) hbq); clear HB hbq; have HB := HBn; clear HBn) | (go_at_call 15; (with_reducible refine at_args #[.slice Ap _ cp, .slice Aq _ cq] ?_); (with_reducible refine (Same_c Ap cp Aq cq (afL at_ kk sg) _ _ rfl rfl _ (by (with_reducible repeat (first | apply Kd.C_alloc | apply Kd.C_drewN | apply Kd.C_drew)); exact Hp.out) (by (with_reducible repeat (first | apply Kd.C_alloc | apply Kd.C_drewN | apply Kd.C_drew)); exact Hq.out) (by have := afL_len at_ kk sg; omega)).mono ?_); rintro e w' ⟨rfl, hbz⟩; replace BX0 := Aside0.mk ((hbz.cell (World.block_lt_of_cell? _ _ BX0.out)).trans BX0.out); replace BX1 := Aside0.mk ((hbz.cell (World.block_lt_of_cell? _ _ BX1.out)).trans BX1.out); clear z0 z1; have z0 := BX0.out; have z1 := BX1.out; have HBn := Aside0.mk (below_step (by repeat (first | (with_reducible first | exact HB.out | apply below_alloc | apply pw_below_drewN | apply below_drew1) | exact HB.out)) hbz); clear HB hbz; have HB := HBn; clear HBn) | (go_at_call 16; (with_reducible refine at_args #[] ?_); (with_reducible refine (works_c _).mono ?_); rintro e w' ⟨rfl, hbw⟩; have HBn := Aside0.mk (below_step (by repeat (first | (with_reducible first | exact HB.out | apply below_alloc | apply pw_below_drewN | apply below_drew1) | exact HB.out)) hbw); clear HB hbw; have HB := HBn; clear HBn))
    go_ret
    exact ⟨rfl, by repeat (first | (with_reducible first | exact HB.out | apply below_alloc | apply pw_below_drewN | apply below_drew1) | exact HB.out)⟩
theorem pulses_law (a0 a1_0 a1_1 a2 : Int) (w : World) (w0 : (Lit.int .u16 a0).wf = true) (w1_0 : (Lit.int .i64 a1_0).wf = true) (w1_1 : (Lit.int .u8 a1_1).wf = true) (w2 : (Lit.int .i64 a2).wf = true) :
    Calls Try.prog 3 #[.int .u16 a0, .agg #[.int .i64 a1_0, .int .u8 a1_1], .int .i64 a2] w fun e w' => e = .returned (.bool true) ∧ Below w.heap.size w w' := by
  obtain ⟨m, hm, hm2⟩ := wf16 w0
  obtain ⟨m8, hm8, hm82⟩ := wf8 w1_1
  have k0 : 0 ≤ a1_1 := by omega
  exact pulses_walk a0 a1_0 a1_1 a2 _ (by omega) (by omega) k0 rfl w
end Go.Proofs.Ytebnodldfddbnaa.Cnt
