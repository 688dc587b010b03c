/- Functions of the program as plain Lean functions, each with the proof that its call computes it (printed by program, cut by leaf.py): periluneref04_Of. -/
import Derived.Test.YtgaajaddaecejaaSwap
import Derived.Test.YtgaajaddaecejaaF3
namespace Go.Proofs.Ytgaajaddaecejaa.PAll
open Go.Proofs.Ytgaajaddaecejaa
open Go.RowKit Go.Proofs.YtgaajaddaecejaaW.PrintWords Go.Proofs.YtgaajaddaecejaaW.PrintLast Go.Proofs.YtgaajaddaecejaaW.PrintMore
attribute [local go_sem] max2_int min2_int max_two min_two max_three min_three max_four min_four   -- for this text's walks alone
set_option linter.unusedVariables false
set_option linter.unusedSimpArgs false

/-! ### periluneref04_Of: function 17 -/
def periluneref04_Of.j0 : Nat → Int → Bool → Option (Int × ByteArray × Bool × Int × Int × Int × Int)
  | 0, _, _ => none
  | k + 1, x0, x11 => if x11 = true then (some (0, (⟨#[]⟩ : ByteArray), false, 0, 0, 0, 7)) else ((periluneref04_kinds.f).bind fun t136 => (if 0 ≤ (wrap64 ((wrap64 (x0)) - 1)) then (if (wrap64 ((wrap64 (x0)) - 1)) < (t136.length : Int) then ((periluneref04_Names.f).bind fun t140 => (if (wrap64 ((wrap64 (x0)) - 1)) < (t140.length : Int) then ((periluneref04_bits.f k (rd t136 (wrap64 ((wrap64 (x0)) - 1)))).bind fun t144 => ((periluneref04_cycles.f).bind fun t145 => (if (wrap64 ((wrap64 (x0)) - 1)) < (t145.length : Int) then (some (x0, rdOf ByteArray.empty t140 (wrap64 ((wrap64 (x0)) - 1)), decide ((wrap64 ((wrap64 (x0)) - 1)) ≥ 19), rd t136 (wrap64 ((wrap64 (x0)) - 1)), t144, rd t145 (wrap64 ((wrap64 (x0)) - 1)), 0)) else (none)))) else (none))) else (none)) else (none)))
def periluneref04_Of.f (k : Nat) (a0 : Int) : Option (Int × ByteArray × Bool × Int × Int × Int × Int) := if a0 < 1 then (periluneref04_Of.j0 k a0 true) else (periluneref04_Of.j0 k a0 (decide (a0 > 39)))
theorem periluneref04_Of.mono_l : ∀ k, (∀ y0 y1, LeO (periluneref04_Of.j0 k y0 y1) (periluneref04_Of.j0 (k + 1) y0 y1))
  | 0 => fun _ _ r h => by simp [periluneref04_Of.j0] at h
  | k + 1 => by
    have ih0 := periluneref04_Of.mono_l k
    · intro y0 y1
      unfold periluneref04_Of.j0
      repeat' first
      | (with_reducible exact ih0 _ _)
      | (with_reducible exact periluneref04_bits.mono _ _)
      | (with_reducible exact LeO.refl _)
      | (with_reducible exact LeO.none _)
      | (with_reducible refine LeO.ite ?_ ?_)
      | (with_reducible refine LeO.bind ?_ (fun _ => ?_))
      | exact ih0 _ _
      | exact periluneref04_bits.mono _ _
      | exact LeO.none _
      | refine LeO.ite ?_ ?_
      | refine LeO.bind ?_ (fun _ => ?_)
theorem periluneref04_Of.mono : ∀ a0 k, LeO (periluneref04_Of.f k a0) (periluneref04_Of.f (k + 1) a0) := by
  intro a0 k
  have ih0 := periluneref04_Of.mono_l k
  unfold periluneref04_Of.f
  repeat' first
      | (with_reducible exact ih0 _ _)
      | (with_reducible exact periluneref04_bits.mono _ _)
      | (with_reducible exact LeO.refl _)
      | (with_reducible exact LeO.none _)
      | (with_reducible refine LeO.ite ?_ ?_)
      | (with_reducible refine LeO.bind ?_ (fun _ => ?_))
      | exact ih0 _ _
      | exact periluneref04_bits.mono _ _
      | exact LeO.none _
      | refine LeO.ite ?_ ?_
      | refine LeO.bind ?_ (fun _ => ?_)
def periluneref04_Of.T5 : Bool × List (List Nat × List Nat) := (true, [([], []), ([], []), ([], []), ([1, 2], [1, 2]), ([3], [3]), ([], []), ([5], [5]), ([], []), ([], []), ([8, 1], [8]), ([9], []), ([], []), ([10, 11], [10, 11]), ([12], [12]), ([0, 4, 6, 7, 9, 13], [0, 4, 6, 7, 9, 13]), ([14, 10, 0, 1, 2, 3, 4, 5, 6, 7, 8, 9, 10, 11, 12, 13, 14], [14]), ([15, 0, 1, 2, 3, 4, 5, 6, 7, 8, 9, 10, 11, 12, 13, 14, 15], [])])
def periluneref04_Of.B5 : List Nat := [0, 0, 0, 6, 14, 0, 32, 0, 0, 258, 770, 0, 3842, 7938, 16383, 32767, 65535]
theorem periluneref04_Of.tab5 : rtab .any (opsOf Try.f17 5) = periluneref04_Of.T5 := by kernel_rfl
theorem periluneref04_Of.bits5 : waitsOk periluneref04_Of.T5.2 periluneref04_Of.B5 = true := by kernel_rfl
set_option maxHeartbeats 8000000 in
set_option maxRecDepth 100000 in
theorem periluneref04_Of.calls (k : Nat) (a0 : Int) (r1 : Int) (r2 : ByteArray) (r3 : Bool) (r4 : Int) (r5 : Int) (r6 : Int) (r7 : Int) (w : World) (h : periluneref04_Of.f k a0 = some (r1, r2, r3, r4, r5, r6, r7)) :
    Calls Try.prog 17 #[.int .u8 a0] w fun e w' => e = .returned (.tuple #[.agg #[.int .u8 r1, .string r2, .bool r3, .int .u8 r4, .int .i64 r5, .int .i64 r6], .int .i64 r7]) ∧ Below w.heap.size w w' := by
  have hu28 := Try.underlying28
  have HB := Aside0.mk (Below.refl w.heap.size w)
  have H : (if a0 < 1 then (periluneref04_Of.j0 k a0 true) else (periluneref04_Of.j0 k a0 (decide (a0 > 39)))) = some (r1, r2, r3, r4, r5, r6, r7) := h
  clear h
  have HC2 := Aside0.mk H
  clear H
  go_enter Try.func17, Try.ntmps17
  go_upto_region 1 with (first | ((with_reducible refine gate_dst (N := 2) rfl ?_); refine box_event ?hg (N := 2) ?hd (cs := #[.int .u8 0, .string (⟨#[]⟩ : ByteArray), .bool false, .int .u8 0, .int .i64 0, .int .i64 0]) (t := 28) ?hr ?_; (case hd => rfl); (case hg => rfl); (case hr => first | (go_simp; done) | (go_simp; rfl)); intro gb135 hg w3 hbox hb; have n0_ := Aside0.mk (below_step (by repeat (first | (with_reducible first | exact HB.out | apply below_alloc | apply pw_below_drewN | apply below_drew1) | exact HB.out)) hb); have n1_ := Aside0.mk (hbox); have n2_ := Aside0.mk ((by rw [hg]; exact (below_size (by repeat (first | (with_reducible first | exact HB.out | apply below_alloc | apply pw_below_drewN | apply below_drew1) | exact HB.out))) : w.heap.size ≤ gb135)); have n3_ := Aside0.mk ((by rw [hg]; exact (below_size (by repeat (first | (with_reducible first | exact HB.out | apply below_alloc | apply pw_below_drewN | apply below_drew1) | exact HB.out))) : w.heap.size ≤ gb135)); clear HB; have HB := n0_; have BK135 := n1_; have GW135 := n2_; have GE135 := n3_; clear n0_ n1_ n2_ n3_; clear hb hbox hg))
  (try simp only [Act.put, List.setIfInBounds_toArray, List.set_cons_zero, List.set_cons_succ])
  go_cut [11] (fun v11 wc => ∃ (kq : Nat) (x11_1 : Bool), v11 = .bool x11_1 ∧ Aside0 (periluneref04_Of.j0 kq a0 x11_1 = some (r1, r2, r3, r4, r5, r6, r7)) ∧ Aside0 (kq ≤ k) ∧ Aside0 (wc.heap[gb135]? = some (.cells #[.int .u8 0, .string (⟨#[]⟩ : ByteArray), .bool false, .int .u8 0, .int .i64 0, .int .i64 0] 28 (0, 0))) ∧ Aside0 (Below w.heap.size w wc))
  case first =>
    have H := HC2.out
    clear HC2
    by_cases c4 : a0 < 1
    · rw [if_pos c4] at H
      have c4b0 : decide (a0 < 1) = true := decide_eq_true c4
      clear c4
      (first | rw [c4b0] | (simp only [i64_w, i32_w]; rw [c4b0]) | skip)
      have H' := Aside0.mk H
      clear H
      go_wp2
      go_meet
      case rel => exact ⟨_, (true), (by first | rfl | (simp; done) | (simp [*]; done)), H', ⟨by first | omega | exact Nat.le_refl _⟩, ⟨by (with_reducible repeat (first | refine blk_drewN ?_ _ | refine blk_drew ?_ | refine blk_alloc ?_ _)); exact BK135.out⟩, ⟨by repeat (first | (with_reducible first | exact HB.out | apply below_alloc | apply pw_below_drewN | apply below_drew1 | refine below_set ?_ GE135.out) | exact HB.out)⟩⟩
    · rw [if_neg c4] at H
      have c4b0 : decide (a0 < 1) = false := decide_eq_false c4
      clear c4
      (first | rw [c4b0] | (simp only [i64_w, i32_w]; rw [c4b0]) | skip)
      have H' := Aside0.mk H
      clear H
      go_wp2
      go_meet
      case rel => exact ⟨_, (decide (a0 > 39)), (by first | rfl | (simp; done) | (simp [*]; done)), H', ⟨by first | omega | exact Nat.le_refl _⟩, ⟨by (with_reducible repeat (first | refine blk_drewN ?_ _ | refine blk_drew ?_ | refine blk_alloc ?_ _)); exact BK135.out⟩, ⟨by repeat (first | (with_reducible first | exact HB.out | apply below_alloc | apply pw_below_drewN | apply below_drew1 | refine below_set ?_ GE135.out) | exact HB.out)⟩⟩
  case rest =>
    clear HC2
    try clear c1
    try clear p2
    try clear c4
    try clear c4b0
    obtain ⟨kq, x11_1, rfl, HA, HJ1, BK135, HB⟩ := hcut
    cases kq with
    | zero => exact absurd HA.out (by simp [periluneref04_Of.j0])
    | succ kj1 =>
      have H := HA.out
      clear HA
      simp only [periluneref04_Of.j0] at H
      by_cases c5 : x11_1 = true
      · subst c5
        have H1 : (some (0, (⟨#[]⟩ : ByteArray), false, 0, 0, 0, 7)) = some (r1, r2, r3, r4, r5, r6, r7) := by rw [if_pos rfl] at H; exact H
        clear H
        have H := H1
        clear H1
        simp only [Option.some.injEq, Prod.mk.injEq] at H
        obtain ⟨rfl, rfl, rfl, rfl, rfl, rfl, rfl⟩ := H
        have hcz6_0 : wc.cell? ⟨gb135, 0, none⟩ = some (.int .u8 0) := (blk_cell BK135.out 0).trans rfl
        have hcz6_1 : wc.cell? ⟨gb135, 1, none⟩ = some (.string (⟨#[]⟩ : ByteArray)) := (blk_cell BK135.out 1).trans rfl
        have hcz6_2 : wc.cell? ⟨gb135, 2, none⟩ = some (.bool false) := (blk_cell BK135.out 2).trans rfl
        have hcz6_3 : wc.cell? ⟨gb135, 3, none⟩ = some (.int .u8 0) := (blk_cell BK135.out 3).trans rfl
        have hcz6_4 : wc.cell? ⟨gb135, 4, none⟩ = some (.int .i64 0) := (blk_cell BK135.out 4).trans rfl
        have hcz6_5 : wc.cell? ⟨gb135, 5, none⟩ = some (.int .i64 0) := (blk_cell BK135.out 5).trans rfl
        have hfz6_0 := blk_frozen BK135.out 0
        have hfz6_1 := blk_frozen BK135.out 1
        have hfz6_2 := blk_frozen BK135.out 2
        have hfz6_3 := blk_frozen BK135.out 3
        have hfz6_4 := blk_frozen BK135.out 4
        have hfz6_5 := blk_frozen BK135.out 5
        go_wp2
        refine bodyPost_ret (results_ct rfl _ _ gb135 28 #[.int .u8 0, .string (⟨#[]⟩ : ByteArray), .bool false, .int .u8 0, .int .i64 0, .int .i64 0] (0, 0) _ rfl (by (with_reducible repeat (first | refine blk_drewN ?_ _ | refine blk_drew ?_ | refine blk_alloc ?_ _)); refine blk_put (cs := #[.int .u8 0, .string (⟨#[]⟩ : ByteArray), .bool false, .int .u8 0, .int .i64 0, .int .i64 0]) ?_ 5 _ rfl; (with_reducible repeat (first | refine blk_drewN ?_ _ | refine blk_drew ?_ | refine blk_alloc ?_ _)); refine blk_put (cs := #[.int .u8 0, .string (⟨#[]⟩ : ByteArray), .bool false, .int .u8 0, .int .i64 0, .int .i64 0]) ?_ 4 _ rfl; (with_reducible repeat (first | refine blk_drewN ?_ _ | refine blk_drew ?_ | refine blk_alloc ?_ _)); refine blk_put (cs := #[.int .u8 0, .string (⟨#[]⟩ : ByteArray), .bool false, .int .u8 0, .int .i64 0, .int .i64 0]) ?_ 3 _ rfl; (with_reducible repeat (first | refine blk_drewN ?_ _ | refine blk_drew ?_ | refine blk_alloc ?_ _)); refine blk_put (cs := #[.int .u8 0, .string (⟨#[]⟩ : ByteArray), .bool false, .int .u8 0, .int .i64 0, .int .i64 0]) ?_ 2 _ rfl; (with_reducible repeat (first | refine blk_drewN ?_ _ | refine blk_drew ?_ | refine blk_alloc ?_ _)); refine blk_put (cs := #[.int .u8 0, .string (⟨#[]⟩ : ByteArray), .bool false, .int .u8 0, .int .i64 0, .int .i64 0]) ?_ 1 _ rfl; (with_reducible repeat (first | refine blk_drewN ?_ _ | refine blk_drew ?_ | refine blk_alloc ?_ _)); refine blk_put (cs := #[.int .u8 0, .string (⟨#[]⟩ : ByteArray), .bool false, .int .u8 0, .int .i64 0, .int .i64 0]) ?_ 0 _ rfl; (with_reducible repeat (first | refine blk_drewN ?_ _ | refine blk_drew ?_ | refine blk_alloc ?_ _)); exact BK135.out) Try.underlying28 rfl (by kernel_rfl)) rfl ?_
        exact ⟨by first | rfl | (simp [errW_none, errW_some] <;> rfl) | (simp [*, errW_none, errW_some] <;> rfl), by repeat (first | (with_reducible first | exact HB.out | apply below_alloc | apply pw_below_drewN | apply below_drew1 | refine below_set ?_ GE135.out) | exact HB.out)⟩
      · replace c5 := Bool.eq_false_iff.mpr c5
        subst c5
        have H1 : ((periluneref04_kinds.f).bind fun t136 => (if 0 ≤ (wrap64 ((wrap64 (a0)) - 1)) then (if (wrap64 ((wrap64 (a0)) - 1)) < (t136.length : Int) then ((periluneref04_Names.f).bind fun t140 => (if (wrap64 ((wrap64 (a0)) - 1)) < (t140.length : Int) then ((periluneref04_bits.f kj1 (rd t136 (wrap64 ((wrap64 (a0)) - 1)))).bind fun t144 => ((periluneref04_cycles.f).bind fun t145 => (if (wrap64 ((wrap64 (a0)) - 1)) < (t145.length : Int) then (some (a0, rdOf ByteArray.empty t140 (wrap64 ((wrap64 (a0)) - 1)), decide ((wrap64 ((wrap64 (a0)) - 1)) ≥ 19), rd t136 (wrap64 ((wrap64 (a0)) - 1)), t144, rd t145 (wrap64 ((wrap64 (a0)) - 1)), 0)) else (none)))) else (none))) else (none)) else (none))) = some (r1, r2, r3, r4, r5, r6, r7) := by rw [if_neg (show ¬ (false = true) by decide)] at H; exact H
        clear H
        have H := H1
        clear H1
        replace H := Option.bind_eq_some_iff.mp H
        obtain ⟨t136, A70, H⟩ := H
        replace H : (if 0 ≤ (wrap64 ((wrap64 (a0)) - 1)) then (if (wrap64 ((wrap64 (a0)) - 1)) < (t136.length : Int) then ((periluneref04_Names.f).bind fun t140 => (if (wrap64 ((wrap64 (a0)) - 1)) < (t140.length : Int) then ((periluneref04_bits.f kj1 (rd t136 (wrap64 ((wrap64 (a0)) - 1)))).bind fun t144 => ((periluneref04_cycles.f).bind fun t145 => (if (wrap64 ((wrap64 (a0)) - 1)) < (t145.length : Int) then (some (a0, rdOf ByteArray.empty t140 (wrap64 ((wrap64 (a0)) - 1)), decide ((wrap64 ((wrap64 (a0)) - 1)) ≥ 19), rd t136 (wrap64 ((wrap64 (a0)) - 1)), t144, rd t145 (wrap64 ((wrap64 (a0)) - 1)), 0)) else (none)))) else (none))) else (none)) else (none)) = some (r1, r2, r3, r4, r5, r6, r7) := H
        have A7 := Aside0.mk A70
        clear A70
        obtain ⟨ji8, hji8⟩ : ∃ j_ : Int, (wrap64 ((wrap64 (a0)) - 1)) = j_ := ⟨_, rfl⟩
        replace H : (if 0 ≤ (ji8) then (if (ji8) < (t136.length : Int) then ((periluneref04_Names.f).bind fun t140 => (if (ji8) < (t140.length : Int) then ((periluneref04_bits.f kj1 (rd t136 (ji8))).bind fun t144 => ((periluneref04_cycles.f).bind fun t145 => (if (ji8) < (t145.length : Int) then (some (a0, rdOf ByteArray.empty t140 (ji8), decide ((ji8) ≥ 19), rd t136 (ji8), t144, rd t145 (ji8), 0)) else (none)))) else (none))) else (none)) else (none)) = some (r1, r2, r3, r4, r5, r6, r7) := by first | (rw [hji8] at H; exact H) | (simp only [hji8] at H ⊢; exact H)
        (try rw [hji8] at A7)
        have hji8w : (IntKind.i64.wrap ((wrap64 (a0)) - 1)) = ji8 := (i64_w _).trans hji8
        by_cases c9 : 0 ≤ (ji8)
        · rw [if_pos c9] at H
          have c9b0 : decide (0 ≤ (ji8)) = true := decide_eq_true c9
          clear c9
          by_cases c10 : (ji8) < (t136.length : Int)
          · rw [if_pos c10] at H
            have c10b0 : decide ((ji8) < (t136.length : Int)) = true := decide_eq_true c10
            clear c10
            replace H := Option.bind_eq_some_iff.mp H
            obtain ⟨t140, A110, H⟩ := H
            replace H : (if (ji8) < (t140.length : Int) then ((periluneref04_bits.f kj1 (rd t136 (ji8))).bind fun t144 => ((periluneref04_cycles.f).bind fun t145 => (if (ji8) < (t145.length : Int) then (some (a0, rdOf ByteArray.empty t140 (ji8), decide ((ji8) ≥ 19), rd t136 (ji8), t144, rd t145 (ji8), 0)) else (none)))) else (none)) = some (r1, r2, r3, r4, r5, r6, r7) := H
            have A11 := Aside0.mk A110
            clear A110
            by_cases c12 : (ji8) < (t140.length : Int)
            · rw [if_pos c12] at H
              have c12b0 : decide ((ji8) < (t140.length : Int)) = true := decide_eq_true c12
              clear c12
              replace H := Option.bind_eq_some_iff.mp H
              obtain ⟨t144, A130, H⟩ := H
              replace H : ((periluneref04_cycles.f).bind fun t145 => (if (ji8) < (t145.length : Int) then (some (a0, rdOf ByteArray.empty t140 (ji8), decide ((ji8) ≥ 19), rd t136 (ji8), t144, rd t145 (ji8), 0)) else (none))) = some (r1, r2, r3, r4, r5, r6, r7) := H
              have A13 := Aside0.mk A130
              clear A130
              replace H := Option.bind_eq_some_iff.mp H
              obtain ⟨t145, A140, H⟩ := H
              replace H : (if (ji8) < (t145.length : Int) then (some (a0, rdOf ByteArray.empty t140 (ji8), decide ((ji8) ≥ 19), rd t136 (ji8), t144, rd t145 (ji8), 0)) else (none)) = some (r1, r2, r3, r4, r5, r6, r7) := H
              have A14 := Aside0.mk A140
              clear A140
              by_cases c15 : (ji8) < (t145.length : Int)
              · rw [if_pos c15] at H
                have c15b0 : decide ((ji8) < (t145.length : Int)) = true := decide_eq_true c15
                clear c15
                simp only [Option.some.injEq, Prod.mk.injEq] at H
                obtain ⟨rfl, rfl, rfl, rfl, rfl, rfl, rfl⟩ := H
                try go_wp2_with (first | ((with_reducible refine gate_callee (f := 31) rfl ?_); refine goesL_ (some 16) rfl rfl Try.func31 (by kernel_rfl) rfl #[] rfl (by (try simp only [List.map_toArray, List.map_cons, List.map_nil]); first | done | rfl | (simp only [List.length_drop, List.length_take]; rfl)) ?_; (with_reducible refine (periluneref04_kinds.calls  t136 _ A7.out).mono ?_); rintro e w16 ⟨v137, rfl, ho0, hb⟩; refine ⟨_, rfl, ?_⟩; have n0_ := Aside0.mk (Kd.R_lower ho0 (below_size (by repeat (first | (with_reducible first | exact HB.out | apply below_alloc | apply pw_below_drewN | apply below_drew1 | refine below_set ?_ GE135.out) | exact HB.out)))); have n1_ := Aside0.mk (blk_below (g := gb135) (o := .cells #[.int .u8 0, .string (⟨#[]⟩ : ByteArray), .bool false, .int .u8 0, .int .i64 0, .int .i64 0] 28 (0, 0)) (by (with_reducible repeat (first | refine blk_drewN ?_ _ | refine blk_drew ?_ | refine blk_alloc ?_ _)); exact BK135.out) hb); have n2_ := Aside0.mk (below_step (by repeat (first | (with_reducible first | exact HB.out | apply below_alloc | apply pw_below_drewN | apply below_drew1 | refine below_set ?_ GE135.out) | exact HB.out)) hb); clear BK135; clear HB; have HO138 := n0_; have BK135 := n1_; have HB := n2_; clear n0_ n1_ n2_; (try clear hb); (try clear hb2); (try clear hk); (try clear hi); (try clear ho0); obtain ⟨Ao17, co17, eo17⟩ := Kd.R_slice HO138.out; subst eo17; have p139 : 0 ≤ ((ji8) : Int) := of_decide_eq_true (by first | (with_reducible assumption) | assumption); have q139 : (ji8) < (t136.length : Int) := of_decide_eq_true (by first | (with_reducible assumption) | assumption); obtain ⟨ad139, e139, hx139_0⟩ := Kd.at_int (Kd.R_reads' HO138.out).2.2 (ji8) p139 q139; cases e139; replace p139 := eq_true p139; replace q139 := eq_true q139))
                have n0_ := Aside0.mk (Kd.R_drew HO138.out)
                have n1_ := Aside0.mk (blk_drew BK135.out)
                have n2_ := Aside0.mk (below_drew1 HB.out)
                clear HO138
                clear BK135
                clear HB
                have HO138 := n0_
                have BK135 := n1_
                have HB := n2_
                clear n0_ n1_ n2_
                refine start_ (n := 17) (S := fun w' => True) (ds := []) #[false, false, false, false, false, false, false, false, false, false, false, false, false, false, false, false, false] (by kernel_rfl) rfl rfl trivial (fun hHeld => ?_); refine with_tabW periluneref04_Of.tab5 periluneref04_Of.bits5 (fun HT_ HW_ => ?_)
                generalize w16.drew = w18 at HO138 BK135 HB hHeld ⊢
                refine pure_ (i := 0) (N := some 20) (v := ?_) (a' := ?_) #[true, false, false, false, false, false, false, false, false, false, false, false, false, false, false, false, false] rfl rfl (any_of HT_.out (by kernel_rfl)) (fun _ _ _ h => h) (Or.inl ⟨by rfl, ?_⟩) ?_ ?_
                rotate_left
                · intro w'
                  go_simp
                  with_reducible rfl
                rotate_left
                · simp only [Act.put, List.setIfInBounds_toArray, List.set_cons_zero, List.set_cons_succ, i64_w, i32_w]
                  rfl
                refine pure_ (i := 2) (N := some 22) (v := ?_) (a' := ?_) #[true, false, true, false, false, false, false, false, false, false, false, false, false, false, false, false, false] rfl rfl (any_of HT_.out (by kernel_rfl)) (fun _ _ _ h => h) (Or.inl ⟨by rfl, ?_⟩) ?_ ?_
                rotate_left
                · intro w'
                  go_simp
                  with_reducible rfl
                rotate_left
                · simp only [Act.put, List.setIfInBounds_toArray, List.set_cons_zero, List.set_cons_succ, i64_w, i32_w]
                  rfl
                refine pure_ (i := 5) (N := some 25) (v := ?_) (a' := ?_) #[true, false, true, false, false, true, false, false, false, false, false, false, false, false, false, false, false] rfl rfl (any_of HT_.out (by kernel_rfl)) (fun _ _ _ h => h) (Or.inl ⟨by rfl, ?_⟩) ?_ ?_
                rotate_left
                · intro w'
                  go_simp
                  with_reducible rfl
                rotate_left
                · simp only [Act.put, List.setIfInBounds_toArray, List.set_cons_zero, List.set_cons_succ, i64_w, i32_w]
                  rfl
                refine pure_ (i := 6) (N := some 26) (v := ?_) (a' := ?_) #[true, false, true, false, false, true, true, false, false, false, false, false, false, false, false, false, false] rfl rfl (any_of HT_.out (by kernel_rfl)) (fun _ _ _ h => h) (Or.inl ⟨by rfl, ?_⟩) ?_ ?_
                rotate_left
                · intro w'
                  go_simp
                  with_reducible rfl
                rotate_left
                · simp only [Act.put, List.setIfInBounds_toArray, List.set_cons_zero, List.set_cons_succ, i64_w, i32_w]
                  rfl
                refine pure_ (i := 7) (N := some 27) (v := ?_) (a' := ?_) #[true, false, true, false, false, true, true, true, false, false, false, false, false, false, false, false, false] rfl rfl (any_of HT_.out (by kernel_rfl)) (fun _ _ _ h => h) (Or.inl ⟨by rfl, ?_⟩) ?_ ?_
                rotate_left
                · intro w'
                  go_simp
                  with_reducible rfl
                rotate_left
                · simp only [Act.put, List.setIfInBounds_toArray, List.set_cons_zero, List.set_cons_succ, i64_w, i32_w]
                  rfl
                refine pure_ (i := 8) (N := some 28) (v := ?_) (a' := ?_) #[true, false, true, false, false, true, true, true, true, false, false, false, false, false, false, false, false] rfl rfl (any_of HT_.out (by kernel_rfl)) (fun _ _ _ h => h) (Or.inl ⟨by rfl, ?_⟩) ?_ ?_
                rotate_left
                · intro w'
                  go_simp
                  with_reducible rfl
                rotate_left
                · simp only [Act.put, List.setIfInBounds_toArray, List.set_cons_zero, List.set_cons_succ, i64_w, i32_w]
                  rfl
                refine pure_ (i := 11) (N := some 31) (v := ?_) (a' := ?_) #[true, false, true, false, false, true, true, true, true, false, false, true, false, false, false, false, false] rfl rfl (any_of HT_.out (by kernel_rfl)) (fun _ _ _ h => h) (Or.inl ⟨by rfl, ?_⟩) ?_ ?_
                rotate_left
                · intro w'
                  go_simp
                  with_reducible rfl
                rotate_left
                · simp only [Act.put, List.setIfInBounds_toArray, List.set_cons_zero, List.set_cons_succ, i64_w, i32_w]
                  rfl
                refine one_ (i := 1) (N := some 21) #[true, true, true, false, false, true, true, true, true, false, false, true, false, false, false, false, false] rfl rfl (one_of HT_.out (by kernel_rfl)) (by decide) (fun K hK => ?_)
                refine goes_ Try.func13 (by kernel_rfl) rfl #[] (by rfl) rfl rfl (by (try simp only [List.map_toArray, List.map_cons, List.map_nil]); first | done | rfl | (simp only [List.length_drop, List.length_take]; rfl)) ?_
                with_reducible refine (periluneref04_Names.calls  t140 _ A11.out).mono ?_
                rintro e w19 ⟨v141, rfl, ho0, hb⟩


                refine ⟨_, rfl, ?_⟩
                have n0_ := Aside0.mk (Kd.R_below (by (with_reducible repeat (first | apply Kd.R_alloc | apply Kd.R_drewN | apply Kd.R_drew)); exact HO138.out) hb)
                have n1_ := Aside0.mk (Kd.R_lower ho0 (below_size (by repeat (first | (with_reducible first | exact HB.out | apply below_alloc | apply pw_below_drewN | apply below_drew1 | refine below_set ?_ GE135.out) | exact HB.out))))
                have n2_ := Aside0.mk (blk_below (g := gb135) (o := .cells #[.int .u8 0, .string (⟨#[]⟩ : ByteArray), .bool false, .int .u8 0, .int .i64 0, .int .i64 0] 28 (0, 0)) (by (with_reducible repeat (first | refine blk_drewN ?_ _ | refine blk_drew ?_ | refine blk_alloc ?_ _)); exact BK135.out) hb)
                have n3_ := Aside0.mk (below_step (by repeat (first | (with_reducible first | exact HB.out | apply below_alloc | apply pw_below_drewN | apply below_drew1 | refine below_set ?_ GE135.out) | exact HB.out)) hb)
                clear HO138
                clear BK135
                clear HB
                have HO138 := n0_
                have HO142 := n1_
                have BK135 := n2_
                have HB := n3_
                clear n0_ n1_ n2_ n3_
                (try clear hb)
                (try clear hb2)
                (try clear hk)
                (try clear hi)
                (try clear ho0)
                obtain ⟨Ao20, co20, eo20⟩ := Kd.R_slice HO142.out
                (first | subst eo20 | (injection eo20 with f1_ f2_ f3_; have f4_ := f1_.symm; have f5_ := f3_.symm; clear f1_ f2_ f3_; subst f4_; subst f5_))
                have p143 : 0 ≤ ((ji8) : Int) := of_decide_eq_true (by first | (with_reducible assumption) | assumption)
                have q143 : (ji8) < (t140.length : Int) := of_decide_eq_true (by first | (with_reducible assumption) | assumption)
                obtain ⟨ad143, e143, hx143_0⟩ := Kd.at_string (Kd.R_reads' HO142.out).2.2 (ji8) p143 q143
                cases e143
                replace p143 := eq_true p143
                replace q143 := eq_true q143
                refine hK.out _ _ trivial (fun hHeld => ?_)
                refine Swap.swap_ (S2 := fun w' => w'.cell? (ad143.add ((ji8)).toNat) = some (.string (rdOf ByteArray.empty t140 (ji8)))) (fun _ h => trivial) _ _ _ _ hx143_0 ?_
                replace hHeld := hx143_0
                clear hK K
                refine norm_ (a' := ?_) ?_ ?_
                rotate_left
                · show Act.put _ (some 21) _ = _
                  simp only [Act.put, List.setIfInBounds_toArray, List.set_cons_zero, List.set_cons_succ, i64_w, i32_w]
                  rfl
                refine pure_ (i := 3) (N := some 23) (v := ?_) (a' := ?_) #[true, true, true, true, false, true, true, true, true, false, false, true, false, false, false, false, false] rfl rfl (any_of HT_.out (by kernel_rfl)) (fun _ _ _ h => h) (Or.inl ⟨by rfl, ?_⟩) ?_ ?_
                rotate_left
                · intro w'
                  go_simp
                  with_reducible rfl
                rotate_left
                · simp only [Act.put, List.setIfInBounds_toArray, List.set_cons_zero, List.set_cons_succ, i64_w, i32_w]
                  rfl
                refine take_ (i := 4) (N := some 24) (v := ?_) (a' := ?_) #[true, true, true, true, true, true, true, true, true, false, false, true, false, false, false, false, false] rfl rfl (take_ofW HT_.out HW_.out (by kernel_rfl)) (fun _ _ _ h => h) (Or.inl ⟨by rfl, ?_⟩) hHeld ?_ ?_
                rotate_left
                · intro w' s0
                  go_simp
                  with_reducible rfl
                rotate_left
                · simp only [Act.put, List.setIfInBounds_toArray, List.set_cons_zero, List.set_cons_succ, i64_w, i32_w]
                  rfl
                refine one_ (i := 9) (N := some 29) #[true, true, true, true, true, true, true, true, true, true, false, true, false, false, false, false, false] rfl rfl (one_of HT_.out (by kernel_rfl)) (by decide) (fun K hK => ?_)
                refine goes_ Try.func32 (by kernel_rfl) rfl #[.int .u8 (rd t136 (ji8))] (by rfl) rfl rfl (by (try simp only [List.map_toArray, List.map_cons, List.map_nil]); first | done | (simp only [hji8]; rfl) | rfl | (simp only [List.length_drop, List.length_take]; rfl)) ?_
                with_reducible refine (periluneref04_bits.calls kj1 (rd t136 (ji8)) t144 _ A13.out).mono ?_
                rintro e w' ⟨rfl, ⟨nd, rfl⟩⟩
                refine ⟨_, rfl, ?_⟩
                refine hK.out _ _ hHeld (fun hHeld => ?_)
                clear hK K
                refine norm_ (a' := ?_) ?_ ?_
                rotate_left
                · show Act.put _ (some 29) _ = _
                  simp only [Act.put, List.setIfInBounds_toArray, List.set_cons_zero, List.set_cons_succ, i64_w, i32_w]
                  rfl
                refine one_ (i := 10) (N := some 30) #[true, true, true, true, true, true, true, true, true, true, true, true, false, false, false, false, false] rfl rfl (one_of HT_.out (by kernel_rfl)) (by decide) (fun K hK => ?_)
                refine goes_ Try.func33 (by kernel_rfl) rfl #[] (by rfl) rfl rfl (by (try simp only [List.map_toArray, List.map_cons, List.map_nil]); first | done | rfl | (simp only [List.length_drop, List.length_take]; rfl)) ?_
                with_reducible refine (periluneref04_cycles.calls  t145 _ A14.out).mono ?_
                rintro e w21 ⟨v146, rfl, ho0, hb⟩
                have HS0_ := (hb.cell (World.block_lt_of_cell? _ _ (hHeld))).trans (hHeld)

                refine ⟨_, rfl, ?_⟩
                have n0_ := Aside0.mk (Kd.R_below (by (with_reducible repeat (first | apply Kd.R_alloc | apply Kd.R_drewN | apply Kd.R_drew)); exact HO138.out) hb)
                have n1_ := Aside0.mk (Kd.R_below (by (with_reducible repeat (first | apply Kd.R_alloc | apply Kd.R_drewN | apply Kd.R_drew)); exact HO142.out) hb)
                have n2_ := Aside0.mk (Kd.R_lower ho0 (below_size (by repeat (first | (with_reducible first | exact HB.out | apply below_alloc | apply pw_below_drewN | apply below_drew1 | refine below_set ?_ GE135.out) | exact HB.out))))
                have n3_ := Aside0.mk (blk_below (g := gb135) (o := .cells #[.int .u8 0, .string (⟨#[]⟩ : ByteArray), .bool false, .int .u8 0, .int .i64 0, .int .i64 0] 28 (0, 0)) (by (with_reducible repeat (first | refine blk_drewN ?_ _ | refine blk_drew ?_ | refine blk_alloc ?_ _)); exact BK135.out) hb)
                have n4_ := Aside0.mk (below_step (by repeat (first | (with_reducible first | exact HB.out | apply below_alloc | apply pw_below_drewN | apply below_drew1 | refine below_set ?_ GE135.out) | exact HB.out)) hb)
                clear HO138
                clear HO142
                clear BK135
                clear HB
                have HO138 := n0_
                have HO142 := n1_
                have HO147 := n2_
                have BK135 := n3_
                have HB := n4_
                clear n0_ n1_ n2_ n3_ n4_
                (try clear hb)
                (try clear hb2)
                (try clear hk)
                (try clear hi)
                (try clear ho0)
                obtain ⟨Ao22, co22, eo22⟩ := Kd.R_slice HO147.out
                (first | subst eo22 | (injection eo22 with f1_ f2_ f3_; have f4_ := f1_.symm; have f5_ := f3_.symm; clear f1_ f2_ f3_; subst f4_; subst f5_))
                have p148 : 0 ≤ ((ji8) : Int) := of_decide_eq_true (by first | (with_reducible assumption) | assumption)
                have q148 : (ji8) < (t145.length : Int) := of_decide_eq_true (by first | (with_reducible assumption) | assumption)
                obtain ⟨ad148, e148, hx148_0⟩ := Kd.at_int (Kd.R_reads' HO147.out).2.2 (ji8) p148 q148
                cases e148
                replace p148 := eq_true p148
                replace q148 := eq_true q148
                refine hK.out _ _ HS0_ (fun hHeld => ?_)
                refine Swap.swap_ (S2 := fun w' => w'.cell? (ad143.add ((ji8)).toNat) = some (.string (rdOf ByteArray.empty t140 (ji8))) ∧ w'.cell? (ad148.add ((ji8)).toNat) = some (.int .i64 (rd t145 (ji8)))) (fun _ h => h.1) _ _ _ _ ⟨hHeld, hx148_0⟩ ?_
                replace hHeld := And.intro hHeld (hx148_0)
                clear hK K
                refine norm_ (a' := ?_) ?_ ?_
                rotate_left
                · show Act.put _ (some 30) _ = _
                  simp only [Act.put, List.setIfInBounds_toArray, List.set_cons_zero, List.set_cons_succ, i64_w, i32_w]
                  rfl
                refine pure_ (i := 12) (N := some 32) (v := ?_) (a' := ?_) #[true, true, true, true, true, true, true, true, true, true, true, true, true, false, false, false, false] rfl rfl (any_of HT_.out (by kernel_rfl)) (fun _ _ _ h => h) (Or.inl ⟨by rfl, ?_⟩) ?_ ?_
                rotate_left
                · intro w'
                  go_simp
                  with_reducible rfl
                rotate_left
                · simp only [Act.put, List.setIfInBounds_toArray, List.set_cons_zero, List.set_cons_succ, i64_w, i32_w]
                  rfl
                refine take_ (i := 13) (N := some 33) (v := ?_) (a' := ?_) #[true, true, true, true, true, true, true, true, true, true, true, true, true, true, false, false, false] rfl rfl (take_ofW HT_.out HW_.out (by kernel_rfl)) (fun _ _ _ h => h) (Or.inl ⟨by rfl, ?_⟩) hHeld ?_ ?_
                rotate_left
                · rintro w' ⟨s0, s1⟩
                  go_simp
                  with_reducible rfl
                rotate_left
                · simp only [Act.put, List.setIfInBounds_toArray, List.set_cons_zero, List.set_cons_succ, i64_w, i32_w]
                  rfl
                refine pure_ (i := 14) (N := some 34) (v := ?_) (a' := ?_) #[true, true, true, true, true, true, true, true, true, true, true, true, true, true, true, false, false] rfl rfl (any_of HT_.out (by kernel_rfl)) (fun _ _ _ h => h) (Or.inl ⟨by rfl, ?_⟩) ?_ ?_
                rotate_left
                · intro w'
                  go_simp
                  with_reducible rfl
                rotate_left
                · simp only [Act.put, List.setIfInBounds_toArray, List.set_cons_zero, List.set_cons_succ, i64_w, i32_w]
                  rfl
                refine one_ (i := 15) (N := none) #[true, true, true, true, true, true, true, true, true, true, true, true, true, true, true, true, false] rfl rfl (one_of HT_.out (by kernel_rfl)) (by decide) (fun K hK => ?_)
                have hs23 : w21.cell? ⟨gb135, 0, none⟩ = some (.int .u8 0) := (blk_cell BK135.out 0).trans rfl
                have hfs23 := blk_frozen BK135.out 0
                have hs24 : w21.cell? ⟨gb135, 1, none⟩ = some (.string (⟨#[]⟩ : ByteArray)) := (blk_cell BK135.out 1).trans rfl
                have hfs24 := blk_frozen BK135.out 1
                have hs25 : w21.cell? ⟨gb135, 2, none⟩ = some (.bool false) := (blk_cell BK135.out 2).trans rfl
                have hfs25 := blk_frozen BK135.out 2
                have hs26 : w21.cell? ⟨gb135, 3, none⟩ = some (.int .u8 0) := (blk_cell BK135.out 3).trans rfl
                have hfs26 := blk_frozen BK135.out 3
                have hs27 : w21.cell? ⟨gb135, 4, none⟩ = some (.int .i64 0) := (blk_cell BK135.out 4).trans rfl
                have hfs27 := blk_frozen BK135.out 4
                have hs28 : w21.cell? ⟨gb135, 5, none⟩ = some (.int .i64 0) := (blk_cell BK135.out 5).trans rfl
                have hfs28 := blk_frozen BK135.out 5
                refine skip_ (w1 := ?_) (by rfl) rfl ?_ ?_
                rotate_left
                · go_simp
                  rfl
                refine hK.out _ _ ⟨((cell_far (p := ⟨gb135, _, none⟩) (by first | exact Kd.own_blk (Kd.R_ne HO142.out BK135.out (by decide)) | (rw [add_block]; exact Kd.own_blk (Kd.R_ne HO142.out BK135.out (by decide))) | (show (Addr.add _ _).block ≠ _; rw [add_block]; exact Kd.own_blk (Kd.R_ne HO142.out BK135.out (by decide))) | (dsimp only; exact Kd.own_blk (Kd.R_ne HO142.out BK135.out (by decide)))) _).trans (((cell_far (p := ⟨gb135, _, none⟩) (by first | exact Kd.own_blk (Kd.R_ne HO142.out BK135.out (by decide)) | (rw [add_block]; exact Kd.own_blk (Kd.R_ne HO142.out BK135.out (by decide))) | (show (Addr.add _ _).block ≠ _; rw [add_block]; exact Kd.own_blk (Kd.R_ne HO142.out BK135.out (by decide))) | (dsimp only; exact Kd.own_blk (Kd.R_ne HO142.out BK135.out (by decide)))) _).trans (((cell_far (p := ⟨gb135, _, none⟩) (by first | exact Kd.own_blk (Kd.R_ne HO142.out BK135.out (by decide)) | (rw [add_block]; exact Kd.own_blk (Kd.R_ne HO142.out BK135.out (by decide))) | (show (Addr.add _ _).block ≠ _; rw [add_block]; exact Kd.own_blk (Kd.R_ne HO142.out BK135.out (by decide))) | (dsimp only; exact Kd.own_blk (Kd.R_ne HO142.out BK135.out (by decide)))) _).trans (((cell_far (p := ⟨gb135, _, none⟩) (by first | exact Kd.own_blk (Kd.R_ne HO142.out BK135.out (by decide)) | (rw [add_block]; exact Kd.own_blk (Kd.R_ne HO142.out BK135.out (by decide))) | (show (Addr.add _ _).block ≠ _; rw [add_block]; exact Kd.own_blk (Kd.R_ne HO142.out BK135.out (by decide))) | (dsimp only; exact Kd.own_blk (Kd.R_ne HO142.out BK135.out (by decide)))) _).trans (((cell_far (p := ⟨gb135, _, none⟩) (by first | exact Kd.own_blk (Kd.R_ne HO142.out BK135.out (by decide)) | (rw [add_block]; exact Kd.own_blk (Kd.R_ne HO142.out BK135.out (by decide))) | (show (Addr.add _ _).block ≠ _; rw [add_block]; exact Kd.own_blk (Kd.R_ne HO142.out BK135.out (by decide))) | (dsimp only; exact Kd.own_blk (Kd.R_ne HO142.out BK135.out (by decide)))) _).trans (((cell_far (p := ⟨gb135, _, none⟩) (by first | exact Kd.own_blk (Kd.R_ne HO142.out BK135.out (by decide)) | (rw [add_block]; exact Kd.own_blk (Kd.R_ne HO142.out BK135.out (by decide))) | (show (Addr.add _ _).block ≠ _; rw [add_block]; exact Kd.own_blk (Kd.R_ne HO142.out BK135.out (by decide))) | (dsimp only; exact Kd.own_blk (Kd.R_ne HO142.out BK135.out (by decide)))) _).trans (hHeld.1)))))))))))), ((cell_far (p := ⟨gb135, _, none⟩) (by first | exact Kd.own_blk (Kd.R_ne HO147.out BK135.out (by decide)) | (rw [add_block]; exact Kd.own_blk (Kd.R_ne HO147.out BK135.out (by decide))) | (show (Addr.add _ _).block ≠ _; rw [add_block]; exact Kd.own_blk (Kd.R_ne HO147.out BK135.out (by decide))) | (dsimp only; exact Kd.own_blk (Kd.R_ne HO147.out BK135.out (by decide)))) _).trans (((cell_far (p := ⟨gb135, _, none⟩) (by first | exact Kd.own_blk (Kd.R_ne HO147.out BK135.out (by decide)) | (rw [add_block]; exact Kd.own_blk (Kd.R_ne HO147.out BK135.out (by decide))) | (show (Addr.add _ _).block ≠ _; rw [add_block]; exact Kd.own_blk (Kd.R_ne HO147.out BK135.out (by decide))) | (dsimp only; exact Kd.own_blk (Kd.R_ne HO147.out BK135.out (by decide)))) _).trans (((cell_far (p := ⟨gb135, _, none⟩) (by first | exact Kd.own_blk (Kd.R_ne HO147.out BK135.out (by decide)) | (rw [add_block]; exact Kd.own_blk (Kd.R_ne HO147.out BK135.out (by decide))) | (show (Addr.add _ _).block ≠ _; rw [add_block]; exact Kd.own_blk (Kd.R_ne HO147.out BK135.out (by decide))) | (dsimp only; exact Kd.own_blk (Kd.R_ne HO147.out BK135.out (by decide)))) _).trans (((cell_far (p := ⟨gb135, _, none⟩) (by first | exact Kd.own_blk (Kd.R_ne HO147.out BK135.out (by decide)) | (rw [add_block]; exact Kd.own_blk (Kd.R_ne HO147.out BK135.out (by decide))) | (show (Addr.add _ _).block ≠ _; rw [add_block]; exact Kd.own_blk (Kd.R_ne HO147.out BK135.out (by decide))) | (dsimp only; exact Kd.own_blk (Kd.R_ne HO147.out BK135.out (by decide)))) _).trans (((cell_far (p := ⟨gb135, _, none⟩) (by first | exact Kd.own_blk (Kd.R_ne HO147.out BK135.out (by decide)) | (rw [add_block]; exact Kd.own_blk (Kd.R_ne HO147.out BK135.out (by decide))) | (show (Addr.add _ _).block ≠ _; rw [add_block]; exact Kd.own_blk (Kd.R_ne HO147.out BK135.out (by decide))) | (dsimp only; exact Kd.own_blk (Kd.R_ne HO147.out BK135.out (by decide)))) _).trans (((cell_far (p := ⟨gb135, _, none⟩) (by first | exact Kd.own_blk (Kd.R_ne HO147.out BK135.out (by decide)) | (rw [add_block]; exact Kd.own_blk (Kd.R_ne HO147.out BK135.out (by decide))) | (show (Addr.add _ _).block ≠ _; rw [add_block]; exact Kd.own_blk (Kd.R_ne HO147.out BK135.out (by decide))) | (dsimp only; exact Kd.own_blk (Kd.R_ne HO147.out BK135.out (by decide)))) _).trans (hHeld.2))))))))))))⟩ (fun hHeld => ?_)
                clear hK K
                refine pure_ (i := 16) (N := some 3) (v := ?_) (a' := ?_) #[true, true, true, true, true, true, true, true, true, true, true, true, true, true, true, true, true] rfl rfl (any_of HT_.out (by kernel_rfl)) (fun _ _ _ h => h) (Or.inl ⟨by rfl, ?_⟩) ?_ ?_
                rotate_left
                · intro w'
                  go_simp
                  with_reducible rfl
                rotate_left
                · simp only [Act.put, List.setIfInBounds_toArray, List.set_cons_zero, List.set_cons_succ, i64_w, i32_w]
                  rfl
                refine done_ (done_of HT_.out (by kernel_rfl)) ?_
                try go_wp2
                refine bodyPost_ret (results_ct rfl _ _ gb135 28 #[.int .u8 a0, .string (rdOf ByteArray.empty t140 (ji8)), .bool (decide ((ji8) ≥ 19)), .int .u8 (rd t136 (ji8)), .int .i64 t144, .int .i64 (rd t145 (ji8))] (0, 0) _ rfl (by (with_reducible repeat (first | refine blk_drewN ?_ _ | refine blk_drew ?_ | refine blk_alloc ?_ _)); refine blk_put (cs := #[.int .u8 a0, .string (rdOf ByteArray.empty t140 (ji8)), .bool (decide ((ji8) ≥ 19)), .int .u8 (rd t136 (ji8)), .int .i64 t144, .int .i64 0]) ?_ 5 _ rfl; (with_reducible repeat (first | refine blk_drewN ?_ _ | refine blk_drew ?_ | refine blk_alloc ?_ _)); refine blk_put (cs := #[.int .u8 a0, .string (rdOf ByteArray.empty t140 (ji8)), .bool (decide ((ji8) ≥ 19)), .int .u8 (rd t136 (ji8)), .int .i64 0, .int .i64 0]) ?_ 4 _ rfl; (with_reducible repeat (first | refine blk_drewN ?_ _ | refine blk_drew ?_ | refine blk_alloc ?_ _)); refine blk_put (cs := #[.int .u8 a0, .string (rdOf ByteArray.empty t140 (ji8)), .bool (decide ((ji8) ≥ 19)), .int .u8 0, .int .i64 0, .int .i64 0]) ?_ 3 _ rfl; (with_reducible repeat (first | refine blk_drewN ?_ _ | refine blk_drew ?_ | refine blk_alloc ?_ _)); refine blk_put (cs := #[.int .u8 a0, .string (rdOf ByteArray.empty t140 (ji8)), .bool false, .int .u8 0, .int .i64 0, .int .i64 0]) ?_ 2 _ rfl; (with_reducible repeat (first | refine blk_drewN ?_ _ | refine blk_drew ?_ | refine blk_alloc ?_ _)); refine blk_put (cs := #[.int .u8 a0, .string (⟨#[]⟩ : ByteArray), .bool false, .int .u8 0, .int .i64 0, .int .i64 0]) ?_ 1 _ rfl; (with_reducible repeat (first | refine blk_drewN ?_ _ | refine blk_drew ?_ | refine blk_alloc ?_ _)); refine blk_put (cs := #[.int .u8 0, .string (⟨#[]⟩ : ByteArray), .bool false, .int .u8 0, .int .i64 0, .int .i64 0]) ?_ 0 _ rfl; (with_reducible repeat (first | refine blk_drewN ?_ _ | refine blk_drew ?_ | refine blk_alloc ?_ _)); exact BK135.out) Try.underlying28 rfl (by kernel_rfl)) rfl ?_
                exact ⟨by first | rfl | (simp [errW_none, errW_some] <;> rfl) | (simp only [← hji8]; first | rfl | (simp [errW_none, errW_some] <;> rfl)) | (simp [*, errW_none, errW_some] <;> rfl), by repeat (first | (with_reducible first | exact HB.out | apply below_alloc | apply pw_below_drewN | apply below_drew1 | refine below_set ?_ GE135.out) | exact HB.out)⟩
              · rw [if_neg c15] at H
                exact absurd H (by simp)
            · rw [if_neg c12] at H
              exact absurd H (by simp)
          · rw [if_neg c10] at H
            exact absurd H (by simp)
        · rw [if_neg c9] at H
          exact absurd H (by simp)

end Go.Proofs.Ytgaajaddaecejaa.PAll
