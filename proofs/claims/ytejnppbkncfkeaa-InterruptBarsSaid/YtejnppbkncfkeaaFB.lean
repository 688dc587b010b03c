/- Functions of the program as plain Lean functions, each with the proof that its call computes it (printed by program, cut by leafx.py): perilunelaw07_InterruptBars. -/
import Derived.Test.YtejnppbkncfkeaaRupG
namespace Go.Proofs.Ytejnppbkncfkeaa.PAll
open Go.RowKit Go.Proofs.YtejnppbkncfkeaaW.PrintWords Go.Proofs.YtejnppbkncfkeaaW.PrintLast Go.Proofs.YtejnppbkncfkeaaW.PrintMore
attribute [local go_sem] max2_int min2_int max_two min_two max_three min_three max_four min_four   -- for this text's walks alone
set_option linter.unusedVariables false
set_option linter.unusedSimpArgs false

attribute [local go_sem high] eqA49
/-! ### perilunelaw07_InterruptBars: function 6 -/
mutual
def perilunelaw07_InterruptBars.j0 : Nat → Int → Bool → Bool → Int → Option (Bool)
  | 0, _, _, _, _ => none
  | k + 1, x8, x9, x69, x281000 => if x69 = true then (some false) else (if x9 = true then (perilunelaw07_InterruptBars.l0 k x8 1 x281000) else (if x8 = 0 then ((perilunelaw07_works.f).bind fun t288 => (some t288)) else (some false)))
def perilunelaw07_InterruptBars.l0 : Nat → Int → Int → Int → Option (Bool)
  | 0, _, _, _ => none
  | k + 1, x8, x10, x281000 => if x10 < x8 then ((interrupt_Waits.f k x281000 x10).bind fun t289 => (if t289 = true then (some false) else (perilunelaw07_InterruptBars.l0 k x8 (wrap64 (x10 + 1)) x281000))) else ((interrupt_Waits.f k x281000 x8).bind fun t290 => (if t290 = true then ((perilunelaw07_works.f).bind fun t291 => (some t291)) else (some false)))
end
def perilunelaw07_InterruptBars.f (k : Nat) (a0 : Int) (a1 : Int) (a2_0 : Int) : Option (Bool) := (interrupt_Choose.f k a2_0 a0 0 0 0 0 0 0 ((Go.bits .and .u8 a1 4) != 0) (IntKind.u16.wrap (Go.bits .and .u8 (a1 / 16) 1)) ((Go.bits .and .u8 a1 8) != 0) 0 ((Go.bits .and .u8 a1 1) != 0) ((Go.bits .and .u8 a1 2) != 0)).bind fun bt282 => (if (Go.bits .and .u8 a1 31) = 0 then (if a0 < 16384 then (if (bt282.2 != ((Go.bits .and .u16 a2_0 2046) != 0)) = true then (perilunelaw07_InterruptBars.j0 k bt282.1 bt282.2 true a2_0) else ((interrupt_Allowed.f k a0 0 0 0 0 0 0 ((Go.bits .and .u8 a1 4) != 0) (IntKind.u16.wrap (Go.bits .and .u8 (a1 / 16) 1)) ((Go.bits .and .u8 a1 8) != 0) 0 ((Go.bits .and .u8 a1 1) != 0) ((Go.bits .and .u8 a1 2) != 0)).bind fun t284 => (perilunelaw07_InterruptBars.j0 k bt282.1 bt282.2 (t284 != true) a2_0))) else (if a0 ≥ 49152 then (if (bt282.2 != ((Go.bits .and .u16 a2_0 2046) != 0)) = true then (perilunelaw07_InterruptBars.j0 k bt282.1 bt282.2 true a2_0) else ((interrupt_Allowed.f k a0 0 0 0 0 0 0 ((Go.bits .and .u8 a1 4) != 0) (IntKind.u16.wrap (Go.bits .and .u8 (a1 / 16) 1)) ((Go.bits .and .u8 a1 8) != 0) 0 ((Go.bits .and .u8 a1 1) != 0) ((Go.bits .and .u8 a1 2) != 0)).bind fun t285 => (perilunelaw07_InterruptBars.j0 k bt282.1 bt282.2 (t285 != (decide (a0 ≥ 49152))) a2_0))) else (if (bt282.2 != false) = true then (perilunelaw07_InterruptBars.j0 k bt282.1 bt282.2 true a2_0) else ((interrupt_Allowed.f k a0 0 0 0 0 0 0 ((Go.bits .and .u8 a1 4) != 0) (IntKind.u16.wrap (Go.bits .and .u8 (a1 / 16) 1)) ((Go.bits .and .u8 a1 8) != 0) 0 ((Go.bits .and .u8 a1 1) != 0) ((Go.bits .and .u8 a1 2) != 0)).bind fun t286 => (perilunelaw07_InterruptBars.j0 k bt282.1 bt282.2 (t286 != (decide (a0 ≥ 49152))) a2_0))))) else (if (bt282.2 != false) = true then (perilunelaw07_InterruptBars.j0 k bt282.1 bt282.2 true a2_0) else ((interrupt_Allowed.f k a0 0 0 0 0 0 0 ((Go.bits .and .u8 a1 4) != 0) (IntKind.u16.wrap (Go.bits .and .u8 (a1 / 16) 1)) ((Go.bits .and .u8 a1 8) != 0) 0 ((Go.bits .and .u8 a1 1) != 0) ((Go.bits .and .u8 a1 2) != 0)).bind fun t287 => (perilunelaw07_InterruptBars.j0 k bt282.1 bt282.2 (t287 != false) a2_0))))
theorem perilunelaw07_InterruptBars.mono_l : ∀ k, (∀ y0 y1 y2 y3, LeO (perilunelaw07_InterruptBars.j0 k y0 y1 y2 y3) (perilunelaw07_InterruptBars.j0 (k + 1) y0 y1 y2 y3)) ∧ (∀ y0 y1 y2, LeO (perilunelaw07_InterruptBars.l0 k y0 y1 y2) (perilunelaw07_InterruptBars.l0 (k + 1) y0 y1 y2))
  | 0 => ⟨fun _ _ _ _ r h => by simp [perilunelaw07_InterruptBars.j0] at h, fun _ _ _ r h => by simp [perilunelaw07_InterruptBars.l0] at h⟩
  | k + 1 => by
    obtain ⟨ih0, ih1⟩ := perilunelaw07_InterruptBars.mono_l k
    refine ⟨?_, ?_⟩
    · intro y0 y1 y2 y3
      unfold perilunelaw07_InterruptBars.j0
      repeat' first
      | (with_reducible exact ih0 _ _ _ _)
      | (with_reducible exact ih1 _ _ _)
      | (with_reducible exact interrupt_Allowed.mono _ _ _ _ _ _ _ _ _ _ _ _ _ _)
      | (with_reducible exact interrupt_Choose.mono _ _ _ _ _ _ _ _ _ _ _ _ _ _ _)
      | (with_reducible exact interrupt_Waits.mono _ _ _)
      | (with_reducible exact LeO.refl _)
      | (with_reducible exact LeO.none _)
      | (with_reducible refine LeO.ite ?_ ?_)
      | (with_reducible refine LeO.bind ?_ (fun _ => ?_))
      | exact ih0 _ _ _ _
      | exact ih1 _ _ _
      | exact interrupt_Allowed.mono _ _ _ _ _ _ _ _ _ _ _ _ _ _
      | exact interrupt_Choose.mono _ _ _ _ _ _ _ _ _ _ _ _ _ _ _
      | exact interrupt_Waits.mono _ _ _
      | exact LeO.none _
      | refine LeO.ite ?_ ?_
      | refine LeO.bind ?_ (fun _ => ?_)
    · intro y0 y1 y2
      unfold perilunelaw07_InterruptBars.l0
      repeat' first
      | (with_reducible exact ih0 _ _ _ _)
      | (with_reducible exact ih1 _ _ _)
      | (with_reducible exact interrupt_Allowed.mono _ _ _ _ _ _ _ _ _ _ _ _ _ _)
      | (with_reducible exact interrupt_Choose.mono _ _ _ _ _ _ _ _ _ _ _ _ _ _ _)
      | (with_reducible exact interrupt_Waits.mono _ _ _)
      | (with_reducible exact LeO.refl _)
      | (with_reducible exact LeO.none _)
      | (with_reducible refine LeO.ite ?_ ?_)
      | (with_reducible refine LeO.bind ?_ (fun _ => ?_))
      | exact ih0 _ _ _ _
      | exact ih1 _ _ _
      | exact interrupt_Allowed.mono _ _ _ _ _ _ _ _ _ _ _ _ _ _
      | exact interrupt_Choose.mono _ _ _ _ _ _ _ _ _ _ _ _ _ _ _
      | exact interrupt_Waits.mono _ _ _
      | exact LeO.none _
      | refine LeO.ite ?_ ?_
      | refine LeO.bind ?_ (fun _ => ?_)
theorem perilunelaw07_InterruptBars.mono : ∀ a0 a1 a2 k, LeO (perilunelaw07_InterruptBars.f k a0 a1 a2) (perilunelaw07_InterruptBars.f (k + 1) a0 a1 a2) := by
  intro a0 a1 a2 k
  obtain ⟨ih0, ih1⟩ := perilunelaw07_InterruptBars.mono_l k
  unfold perilunelaw07_InterruptBars.f
  repeat' first
      | (with_reducible exact ih0 _ _ _ _)
      | (with_reducible exact ih1 _ _ _)
      | (with_reducible exact interrupt_Allowed.mono _ _ _ _ _ _ _ _ _ _ _ _ _ _)
      | (with_reducible exact interrupt_Choose.mono _ _ _ _ _ _ _ _ _ _ _ _ _ _ _)
      | (with_reducible exact interrupt_Waits.mono _ _ _)
      | (with_reducible exact LeO.refl _)
      | (with_reducible exact LeO.none _)
      | (with_reducible refine LeO.ite ?_ ?_)
      | (with_reducible refine LeO.bind ?_ (fun _ => ?_))
      | exact ih0 _ _ _ _
      | exact ih1 _ _ _
      | exact interrupt_Allowed.mono _ _ _ _ _ _ _ _ _ _ _ _ _ _
      | exact interrupt_Choose.mono _ _ _ _ _ _ _ _ _ _ _ _ _ _ _
      | exact interrupt_Waits.mono _ _ _
      | exact LeO.none _
      | refine LeO.ite ?_ ?_
      | refine LeO.bind ?_ (fun _ => ?_)
set_option maxHeartbeats 8000000 in
set_option maxRecDepth 100000 in
theorem perilunelaw07_InterruptBars.calls (k : Nat) (a0 : Int) (a1 : Int) (a2_0 : Int) (r : Bool) (w : World) (h : perilunelaw07_InterruptBars.f k a0 a1 a2_0 = some r) :
    Calls Try.prog 6 #[.int .u16 a0, .int .u8 a1, .agg #[.int .u16 a2_0]] w fun e w' => e = .returned (.bool r) ∧ Below w.heap.size w w' := by
  have hu28 := Try.underlying28
  have hu26 := Try.underlying26
  have HB := Aside0.mk (Below.refl w.heap.size w)
  have H : ((interrupt_Choose.f k a2_0 a0 0 0 0 0 0 0 ((Go.bits .and .u8 a1 4) != 0) (IntKind.u16.wrap (Go.bits .and .u8 (a1 / 16) 1)) ((Go.bits .and .u8 a1 8) != 0) 0 ((Go.bits .and .u8 a1 1) != 0) ((Go.bits .and .u8 a1 2) != 0)).bind fun bt282 => (if (Go.bits .and .u8 a1 31) = 0 then (if a0 < 16384 then (if (bt282.2 != ((Go.bits .and .u16 a2_0 2046) != 0)) = true then (perilunelaw07_InterruptBars.j0 k bt282.1 bt282.2 true a2_0) else ((interrupt_Allowed.f k a0 0 0 0 0 0 0 ((Go.bits .and .u8 a1 4) != 0) (IntKind.u16.wrap (Go.bits .and .u8 (a1 / 16) 1)) ((Go.bits .and .u8 a1 8) != 0) 0 ((Go.bits .and .u8 a1 1) != 0) ((Go.bits .and .u8 a1 2) != 0)).bind fun t284 => (perilunelaw07_InterruptBars.j0 k bt282.1 bt282.2 (t284 != true) a2_0))) else (if a0 ≥ 49152 then (if (bt282.2 != ((Go.bits .and .u16 a2_0 2046) != 0)) = true then (perilunelaw07_InterruptBars.j0 k bt282.1 bt282.2 true a2_0) else ((interrupt_Allowed.f k a0 0 0 0 0 0 0 ((Go.bits .and .u8 a1 4) != 0) (IntKind.u16.wrap (Go.bits .and .u8 (a1 / 16) 1)) ((Go.bits .and .u8 a1 8) != 0) 0 ((Go.bits .and .u8 a1 1) != 0) ((Go.bits .and .u8 a1 2) != 0)).bind fun t285 => (perilunelaw07_InterruptBars.j0 k bt282.1 bt282.2 (t285 != (decide (a0 ≥ 49152))) a2_0))) else (if (bt282.2 != false) = true then (perilunelaw07_InterruptBars.j0 k bt282.1 bt282.2 true a2_0) else ((interrupt_Allowed.f k a0 0 0 0 0 0 0 ((Go.bits .and .u8 a1 4) != 0) (IntKind.u16.wrap (Go.bits .and .u8 (a1 / 16) 1)) ((Go.bits .and .u8 a1 8) != 0) 0 ((Go.bits .and .u8 a1 1) != 0) ((Go.bits .and .u8 a1 2) != 0)).bind fun t286 => (perilunelaw07_InterruptBars.j0 k bt282.1 bt282.2 (t286 != (decide (a0 ≥ 49152))) a2_0))))) else (if (bt282.2 != false) = true then (perilunelaw07_InterruptBars.j0 k bt282.1 bt282.2 true a2_0) else ((interrupt_Allowed.f k a0 0 0 0 0 0 0 ((Go.bits .and .u8 a1 4) != 0) (IntKind.u16.wrap (Go.bits .and .u8 (a1 / 16) 1)) ((Go.bits .and .u8 a1 8) != 0) 0 ((Go.bits .and .u8 a1 1) != 0) ((Go.bits .and .u8 a1 2) != 0)).bind fun t287 => (perilunelaw07_InterruptBars.j0 k bt282.1 bt282.2 (t287 != false) a2_0))))) = some r := h
  clear h
  replace H := Option.bind_eq_some_iff.mp H
  obtain ⟨⟨t282, t283⟩, A40, H⟩ := H
  replace H : (if (Go.bits .and .u8 a1 31) = 0 then (if a0 < 16384 then (if (t283 != ((Go.bits .and .u16 a2_0 2046) != 0)) = true then (perilunelaw07_InterruptBars.j0 k t282 t283 true a2_0) else ((interrupt_Allowed.f k a0 0 0 0 0 0 0 ((Go.bits .and .u8 a1 4) != 0) (IntKind.u16.wrap (Go.bits .and .u8 (a1 / 16) 1)) ((Go.bits .and .u8 a1 8) != 0) 0 ((Go.bits .and .u8 a1 1) != 0) ((Go.bits .and .u8 a1 2) != 0)).bind fun t284 => (perilunelaw07_InterruptBars.j0 k t282 t283 (t284 != true) a2_0))) else (if a0 ≥ 49152 then (if (t283 != ((Go.bits .and .u16 a2_0 2046) != 0)) = true then (perilunelaw07_InterruptBars.j0 k t282 t283 true a2_0) else ((interrupt_Allowed.f k a0 0 0 0 0 0 0 ((Go.bits .and .u8 a1 4) != 0) (IntKind.u16.wrap (Go.bits .and .u8 (a1 / 16) 1)) ((Go.bits .and .u8 a1 8) != 0) 0 ((Go.bits .and .u8 a1 1) != 0) ((Go.bits .and .u8 a1 2) != 0)).bind fun t285 => (perilunelaw07_InterruptBars.j0 k t282 t283 (t285 != (decide (a0 ≥ 49152))) a2_0))) else (if (t283 != false) = true then (perilunelaw07_InterruptBars.j0 k t282 t283 true a2_0) else ((interrupt_Allowed.f k a0 0 0 0 0 0 0 ((Go.bits .and .u8 a1 4) != 0) (IntKind.u16.wrap (Go.bits .and .u8 (a1 / 16) 1)) ((Go.bits .and .u8 a1 8) != 0) 0 ((Go.bits .and .u8 a1 1) != 0) ((Go.bits .and .u8 a1 2) != 0)).bind fun t286 => (perilunelaw07_InterruptBars.j0 k t282 t283 (t286 != (decide (a0 ≥ 49152))) a2_0))))) else (if (t283 != false) = true then (perilunelaw07_InterruptBars.j0 k t282 t283 true a2_0) else ((interrupt_Allowed.f k a0 0 0 0 0 0 0 ((Go.bits .and .u8 a1 4) != 0) (IntKind.u16.wrap (Go.bits .and .u8 (a1 / 16) 1)) ((Go.bits .and .u8 a1 8) != 0) 0 ((Go.bits .and .u8 a1 1) != 0) ((Go.bits .and .u8 a1 2) != 0)).bind fun t287 => (perilunelaw07_InterruptBars.j0 k t282 t283 (t287 != false) a2_0)))) = some r := H
  have A4 := Aside0.mk A40
  clear A40
  have HC5 := Aside0.mk H
  clear H
  go_enter Try.func6, Try.ntmps6
  go_upto_region 3 with (first | ((with_reducible refine gate_dst (N := 5) rfl ?_); refine box_event ?hg (N := 5) ?hd (cs := #[.int .u16 a2_0]) (t := 28) ?hr ?_; (case hd => rfl); (case hg => rfl); (case hr => first | (go_simp; done) | (go_simp; rfl)); intro gb280 hg w6 hbox hb; have n0_ := Aside0.mk (below_step (by repeat (first | (with_reducible first | exact HB.out | apply below_alloc | apply pw_below_drewN | apply below_drew1) | exact HB.out)) hb); have n1_ := Aside0.mk (hbox); have n2_ := Aside0.mk ((by rw [hg]; exact (below_size (by repeat (first | (with_reducible first | exact HB.out | apply below_alloc | apply pw_below_drewN | apply below_drew1) | exact HB.out))) : w.heap.size ≤ gb280)); have n3_ := Aside0.mk ((by rw [hg]; exact (below_size (by repeat (first | (with_reducible first | exact HB.out | apply below_alloc | apply pw_below_drewN | apply below_drew1) | exact HB.out))) : w.heap.size ≤ gb280)); clear HB; have HB := n0_; have BK280 := n1_; have GW280 := n2_; have GE280 := n3_; clear n0_ n1_ n2_ n3_; clear hb hbox hg) | ((with_reducible refine gate_dst (N := 7) rfl ?_); refine box_event ?hg (N := 7) ?hd (cs := #[.int .u16 0, .int .u16 0, .int .u16 0, .int .i64 0, .int .i64 0, .int .i64 0, .int .i64 0, .bool false, .int .u16 0, .bool false, .int .u16 0, .bool false, .bool false]) (t := 26) ?hr ?_; (case hd => rfl); (case hg => rfl); (case hr => first | (go_simp; done) | (go_simp; rfl)); intro gb281 hg w7 hbox hb; have n0_ := Aside0.mk (blk_below (g := gb280) (o := .cells #[.int .u16 a2_0] 28 (0, 0)) (by (with_reducible repeat (first | refine blk_drewN ?_ _ | refine blk_drew ?_ | refine blk_alloc ?_ _)); exact BK280.out) hb); have n1_ := Aside0.mk (below_step (by repeat (first | (with_reducible first | exact HB.out | apply below_alloc | apply pw_below_drewN | apply below_drew1 | refine below_set ?_ GE280.out) | exact HB.out)) hb); have n2_ := Aside0.mk (hbox); have n3_ := Aside0.mk ((by rw [hg]; exact (below_size (by repeat (first | (with_reducible first | exact HB.out | apply below_alloc | apply pw_below_drewN | apply below_drew1 | refine below_set ?_ GE280.out) | exact HB.out))) : w.heap.size ≤ gb281)); have n4_ := Aside0.mk ((by rw [hg]; exact (below_size (by repeat (first | (with_reducible first | exact HB.out | apply below_alloc | apply pw_below_drewN | apply below_drew1 | refine below_set ?_ GE280.out) | exact HB.out))) : w.heap.size ≤ gb281)); have n5_ := Aside0.mk ((by rw [hg]; exact Nat.ne_of_lt (blk_lt (g := gb280) (o := .cells #[.int .u16 a2_0] 28 (0, 0)) (by (with_reducible repeat (first | refine blk_drewN ?_ _ | refine blk_drew ?_ | refine blk_alloc ?_ _)); exact BK280.out)) : gb280 ≠ gb281)); have n6_ := Aside0.mk ((by rw [hg]; exact Nat.ne_of_gt (blk_lt (g := gb280) (o := .cells #[.int .u16 a2_0] 28 (0, 0)) (by (with_reducible repeat (first | refine blk_drewN ?_ _ | refine blk_drew ?_ | refine blk_alloc ?_ _)); exact BK280.out)) : gb281 ≠ gb280)); clear BK280; clear HB; have BK280 := n0_; have HB := n1_; have BK281 := n2_; have GW281 := n3_; have GE281 := n4_; have NB280_281 := n5_; have NB281_280 := n6_; clear n0_ n1_ n2_ n3_ n4_ n5_ n6_; clear hb hbox hg; have hnb8 := NB281_280.out; have hnc8 := NB280_281.out; have hcz9_0 : w7.cell? ⟨gb281, 0, none⟩ = some (.int .u16 0) := (blk_cell BK281.out 0).trans rfl; have hcz9_1 : w7.cell? ⟨gb281, 1, none⟩ = some (.int .u16 0) := (blk_cell BK281.out 1).trans rfl; have hcz9_2 : w7.cell? ⟨gb281, 2, none⟩ = some (.int .u16 0) := (blk_cell BK281.out 2).trans rfl; have hcz9_3 : w7.cell? ⟨gb281, 3, none⟩ = some (.int .i64 0) := (blk_cell BK281.out 3).trans rfl; have hcz9_4 : w7.cell? ⟨gb281, 4, none⟩ = some (.int .i64 0) := (blk_cell BK281.out 4).trans rfl; have hcz9_5 : w7.cell? ⟨gb281, 5, none⟩ = some (.int .i64 0) := (blk_cell BK281.out 5).trans rfl; have hcz9_6 : w7.cell? ⟨gb281, 6, none⟩ = some (.int .i64 0) := (blk_cell BK281.out 6).trans rfl; have hcz9_7 : w7.cell? ⟨gb281, 7, none⟩ = some (.bool false) := (blk_cell BK281.out 7).trans rfl; have hcz9_8 : w7.cell? ⟨gb281, 8, none⟩ = some (.int .u16 0) := (blk_cell BK281.out 8).trans rfl; have hcz9_9 : w7.cell? ⟨gb281, 9, none⟩ = some (.bool false) := (blk_cell BK281.out 9).trans rfl; have hcz9_10 : w7.cell? ⟨gb281, 10, none⟩ = some (.int .u16 0) := (blk_cell BK281.out 10).trans rfl; have hcz9_11 : w7.cell? ⟨gb281, 11, none⟩ = some (.bool false) := (blk_cell BK281.out 11).trans rfl; have hcz9_12 : w7.cell? ⟨gb281, 12, none⟩ = some (.bool false) := (blk_cell BK281.out 12).trans rfl; have hfz9_0 := blk_frozen BK281.out 0; have hfz9_1 := blk_frozen BK281.out 1; have hfz9_2 := blk_frozen BK281.out 2; have hfz9_3 := blk_frozen BK281.out 3; have hfz9_4 := blk_frozen BK281.out 4; have hfz9_5 := blk_frozen BK281.out 5; have hfz9_6 := blk_frozen BK281.out 6; have hfz9_7 := blk_frozen BK281.out 7; have hfz9_8 := blk_frozen BK281.out 8; have hfz9_9 := blk_frozen BK281.out 9; have hfz9_10 := blk_frozen BK281.out 10; have hfz9_11 := blk_frozen BK281.out 11; have hfz9_12 := blk_frozen BK281.out 12; have hcz10_0 : w7.cell? ⟨gb280, 0, none⟩ = some (.int .u16 a2_0) := (blk_cell BK280.out 0).trans rfl; have hfz10_0 := blk_frozen BK280.out 0) | ((with_reducible refine gate_callee (f := 18) rfl ?_); refine goesL_ (some 32) rfl rfl Try.func18 (by kernel_rfl) rfl #[.agg #[.int .u16 a2_0], .agg #[.int .u16 a0, .int .u16 0, .int .u16 0, .int .i64 0, .int .i64 0, .int .i64 0, .int .i64 0, .bool ((Go.bits .and .u8 a1 4) != 0), .int .u16 (IntKind.u16.wrap (Go.bits .and .u8 (a1 / 16) 1)), .bool ((Go.bits .and .u8 a1 8) != 0), .int .u16 0, .bool ((Go.bits .and .u8 a1 1) != 0), .bool ((Go.bits .and .u8 a1 2) != 0)]] rfl (by (try simp only [List.map_toArray, List.map_cons, List.map_nil]); first | done | rfl | (simp only [List.length_drop, List.length_take]; rfl)) ?_; (with_reducible refine (interrupt_Choose.calls k a2_0 a0 0 0 0 0 0 0 ((Go.bits .and .u8 a1 4) != 0) (IntKind.u16.wrap (Go.bits .and .u8 (a1 / 16) 1)) ((Go.bits .and .u8 a1 8) != 0) 0 ((Go.bits .and .u8 a1 1) != 0) ((Go.bits .and .u8 a1 2) != 0) t282 t283 _ A4.out).mono ?_); rintro e w11 ⟨rfl, hb⟩; refine ⟨_, rfl, ?_⟩; have n0_ := Aside0.mk (blk_below (g := gb280) (o := .cells #[.int .u16 a2_0] 28 (0, 0)) (by (with_reducible repeat (first | refine blk_drewN ?_ _ | refine blk_drew ?_ | refine blk_alloc ?_ _)); refine blk_far ?_ NB280_281.out _; (with_reducible repeat (first | refine blk_drewN ?_ _ | refine blk_drew ?_ | refine blk_alloc ?_ _)); refine blk_far ?_ NB280_281.out _; (with_reducible repeat (first | refine blk_drewN ?_ _ | refine blk_drew ?_ | refine blk_alloc ?_ _)); refine blk_far ?_ NB280_281.out _; (with_reducible repeat (first | refine blk_drewN ?_ _ | refine blk_drew ?_ | refine blk_alloc ?_ _)); refine blk_far ?_ NB280_281.out _; (with_reducible repeat (first | refine blk_drewN ?_ _ | refine blk_drew ?_ | refine blk_alloc ?_ _)); refine blk_far ?_ NB280_281.out _; (with_reducible repeat (first | refine blk_drewN ?_ _ | refine blk_drew ?_ | refine blk_alloc ?_ _)); refine blk_far ?_ NB280_281.out _; (with_reducible repeat (first | refine blk_drewN ?_ _ | refine blk_drew ?_ | refine blk_alloc ?_ _)); refine blk_far ?_ NB280_281.out _; (with_reducible repeat (first | refine blk_drewN ?_ _ | refine blk_drew ?_ | refine blk_alloc ?_ _)); refine blk_far ?_ NB280_281.out _; (with_reducible repeat (first | refine blk_drewN ?_ _ | refine blk_drew ?_ | refine blk_alloc ?_ _)); refine blk_far ?_ NB280_281.out _; (with_reducible repeat (first | refine blk_drewN ?_ _ | refine blk_drew ?_ | refine blk_alloc ?_ _)); refine blk_far ?_ NB280_281.out _; (with_reducible repeat (first | refine blk_drewN ?_ _ | refine blk_drew ?_ | refine blk_alloc ?_ _)); refine blk_far ?_ NB280_281.out _; (with_reducible repeat (first | refine blk_drewN ?_ _ | refine blk_drew ?_ | refine blk_alloc ?_ _)); refine blk_far ?_ NB280_281.out _; (with_reducible repeat (first | refine blk_drewN ?_ _ | refine blk_drew ?_ | refine blk_alloc ?_ _)); refine blk_far ?_ NB280_281.out _; (with_reducible repeat (first | refine blk_drewN ?_ _ | refine blk_drew ?_ | refine blk_alloc ?_ _)); exact BK280.out) hb); have n1_ := Aside0.mk (blk_below (g := gb281) (o := .cells #[.int .u16 a0, .int .u16 0, .int .u16 0, .int .i64 0, .int .i64 0, .int .i64 0, .int .i64 0, .bool ((Go.bits .and .u8 a1 4) != 0), .int .u16 (IntKind.u16.wrap (Go.bits .and .u8 (a1 / 16) 1)), .bool ((Go.bits .and .u8 a1 8) != 0), .int .u16 0, .bool ((Go.bits .and .u8 a1 1) != 0), .bool ((Go.bits .and .u8 a1 2) != 0)] 26 (0, 0)) (by (with_reducible repeat (first | refine blk_drewN ?_ _ | refine blk_drew ?_ | refine blk_alloc ?_ _)); refine blk_put (cs := #[.int .u16 a0, .int .u16 0, .int .u16 0, .int .i64 0, .int .i64 0, .int .i64 0, .int .i64 0, .bool ((Go.bits .and .u8 a1 4) != 0), .int .u16 (IntKind.u16.wrap (Go.bits .and .u8 (a1 / 16) 1)), .bool ((Go.bits .and .u8 a1 8) != 0), .int .u16 0, .bool ((Go.bits .and .u8 a1 1) != 0), .bool false]) ?_ 12 _ rfl; (with_reducible repeat (first | refine blk_drewN ?_ _ | refine blk_drew ?_ | refine blk_alloc ?_ _)); refine blk_put (cs := #[.int .u16 a0, .int .u16 0, .int .u16 0, .int .i64 0, .int .i64 0, .int .i64 0, .int .i64 0, .bool ((Go.bits .and .u8 a1 4) != 0), .int .u16 (IntKind.u16.wrap (Go.bits .and .u8 (a1 / 16) 1)), .bool ((Go.bits .and .u8 a1 8) != 0), .int .u16 0, .bool false, .bool false]) ?_ 11 _ rfl; (with_reducible repeat (first | refine blk_drewN ?_ _ | refine blk_drew ?_ | refine blk_alloc ?_ _)); refine blk_put (cs := #[.int .u16 a0, .int .u16 0, .int .u16 0, .int .i64 0, .int .i64 0, .int .i64 0, .int .i64 0, .bool ((Go.bits .and .u8 a1 4) != 0), .int .u16 (IntKind.u16.wrap (Go.bits .and .u8 (a1 / 16) 1)), .bool ((Go.bits .and .u8 a1 8) != 0), .int .u16 0, .bool false, .bool false]) ?_ 10 _ rfl; (with_reducible repeat (first | refine blk_drewN ?_ _ | refine blk_drew ?_ | refine blk_alloc ?_ _)); refine blk_put (cs := #[.int .u16 a0, .int .u16 0, .int .u16 0, .int .i64 0, .int .i64 0, .int .i64 0, .int .i64 0, .bool ((Go.bits .and .u8 a1 4) != 0), .int .u16 (IntKind.u16.wrap (Go.bits .and .u8 (a1 / 16) 1)), .bool false, .int .u16 0, .bool false, .bool false]) ?_ 9 _ rfl; (with_reducible repeat (first | refine blk_drewN ?_ _ | refine blk_drew ?_ | refine blk_alloc ?_ _)); refine blk_put (cs := #[.int .u16 a0, .int .u16 0, .int .u16 0, .int .i64 0, .int .i64 0, .int .i64 0, .int .i64 0, .bool ((Go.bits .and .u8 a1 4) != 0), .int .u16 0, .bool false, .int .u16 0, .bool false, .bool false]) ?_ 8 _ rfl; (with_reducible repeat (first | refine blk_drewN ?_ _ | refine blk_drew ?_ | refine blk_alloc ?_ _)); refine blk_put (cs := #[.int .u16 a0, .int .u16 0, .int .u16 0, .int .i64 0, .int .i64 0, .int .i64 0, .int .i64 0, .bool false, .int .u16 0, .bool false, .int .u16 0, .bool false, .bool false]) ?_ 7 _ rfl; (with_reducible repeat (first | refine blk_drewN ?_ _ | refine blk_drew ?_ | refine blk_alloc ?_ _)); refine blk_put (cs := #[.int .u16 a0, .int .u16 0, .int .u16 0, .int .i64 0, .int .i64 0, .int .i64 0, .int .i64 0, .bool false, .int .u16 0, .bool false, .int .u16 0, .bool false, .bool false]) ?_ 6 _ rfl; (with_reducible repeat (first | refine blk_drewN ?_ _ | refine blk_drew ?_ | refine blk_alloc ?_ _)); refine blk_put (cs := #[.int .u16 a0, .int .u16 0, .int .u16 0, .int .i64 0, .int .i64 0, .int .i64 0, .int .i64 0, .bool false, .int .u16 0, .bool false, .int .u16 0, .bool false, .bool false]) ?_ 5 _ rfl; (with_reducible repeat (first | refine blk_drewN ?_ _ | refine blk_drew ?_ | refine blk_alloc ?_ _)); refine blk_put (cs := #[.int .u16 a0, .int .u16 0, .int .u16 0, .int .i64 0, .int .i64 0, .int .i64 0, .int .i64 0, .bool false, .int .u16 0, .bool false, .int .u16 0, .bool false, .bool false]) ?_ 4 _ rfl; (with_reducible repeat (first | refine blk_drewN ?_ _ | refine blk_drew ?_ | refine blk_alloc ?_ _)); refine blk_put (cs := #[.int .u16 a0, .int .u16 0, .int .u16 0, .int .i64 0, .int .i64 0, .int .i64 0, .int .i64 0, .bool false, .int .u16 0, .bool false, .int .u16 0, .bool false, .bool false]) ?_ 3 _ rfl; (with_reducible repeat (first | refine blk_drewN ?_ _ | refine blk_drew ?_ | refine blk_alloc ?_ _)); refine blk_put (cs := #[.int .u16 a0, .int .u16 0, .int .u16 0, .int .i64 0, .int .i64 0, .int .i64 0, .int .i64 0, .bool false, .int .u16 0, .bool false, .int .u16 0, .bool false, .bool false]) ?_ 2 _ rfl; (with_reducible repeat (first | refine blk_drewN ?_ _ | refine blk_drew ?_ | refine blk_alloc ?_ _)); refine blk_put (cs := #[.int .u16 a0, .int .u16 0, .int .u16 0, .int .i64 0, .int .i64 0, .int .i64 0, .int .i64 0, .bool false, .int .u16 0, .bool false, .int .u16 0, .bool false, .bool false]) ?_ 1 _ rfl; (with_reducible repeat (first | refine blk_drewN ?_ _ | refine blk_drew ?_ | refine blk_alloc ?_ _)); refine blk_put (cs := #[.int .u16 0, .int .u16 0, .int .u16 0, .int .i64 0, .int .i64 0, .int .i64 0, .int .i64 0, .bool false, .int .u16 0, .bool false, .int .u16 0, .bool false, .bool false]) ?_ 0 _ rfl; (with_reducible repeat (first | refine blk_drewN ?_ _ | refine blk_drew ?_ | refine blk_alloc ?_ _)); exact BK281.out) hb); have n2_ := Aside0.mk (below_step (by repeat (first | (with_reducible first | exact HB.out | apply below_alloc | apply pw_below_drewN | apply below_drew1 | refine below_set ?_ GE280.out | refine below_set ?_ GE281.out) | exact HB.out)) hb); clear BK280; clear BK281; clear HB; have BK280 := n0_; have BK281 := n1_; have HB := n2_; clear n0_ n1_ n2_; (try clear hb); (try clear hb2); (try clear hk); (try clear hi)))
  (try simp only [Act.put, List.setIfInBounds_toArray, List.set_cons_zero, List.set_cons_succ])
  go_cut [69] (fun v69 wc => ∃ (kq : Nat) (x69_4 : Bool), v69 = .bool x69_4 ∧ Aside0 (perilunelaw07_InterruptBars.j0 kq t282 t283 x69_4 a2_0 = some r) ∧ Aside0 (kq ≤ k) ∧ Aside0 (wc.heap[gb280]? = some (.cells #[.int .u16 a2_0] 28 (0, 0))) ∧ Aside0 (wc.heap[gb281]? = some (.cells #[.int .u16 a0, .int .u16 0, .int .u16 0, .int .i64 0, .int .i64 0, .int .i64 0, .int .i64 0, .bool ((Go.bits .and .u8 a1 4) != 0), .int .u16 (IntKind.u16.wrap (Go.bits .and .u8 (a1 / 16) 1)), .bool ((Go.bits .and .u8 a1 8) != 0), .int .u16 0, .bool ((Go.bits .and .u8 a1 1) != 0), .bool ((Go.bits .and .u8 a1 2) != 0)] 26 (0, 0))) ∧ Aside0 (Below w.heap.size w wc))
  case first =>
    have H := HC5.out
    clear HC5
    by_cases c12 : (Go.bits .and .u8 a1 31) = 0
    · rw [if_pos c12] at H
      have c12b0 : ((Go.bits .and .u8 a1 31) == 0) = true := beq_iff_eq.mpr c12
      have c12b1 : ((Go.bits .and .u8 a1 31) != 0) = false := bne_eq_false_iff_eq.mpr c12
      clear c12
      (first | rw [c12b0] | (simp only [i64_w, i32_w]; rw [c12b0]) | skip)
      by_cases c13 : a0 < 16384
      · rw [if_pos c13] at H
        have c13b0 : decide (a0 < 16384) = true := decide_eq_true c13
        clear c13
        by_cases c14 : (t283 != ((Go.bits .and .u16 a2_0 2046) != 0)) = true
        · rw [if_pos c14] at H
          have c14b0 : (t283 != ((Go.bits .and .u16 a2_0 2046) != 0)) = true := c14
          (try (have c14b1 : decide (t283 = ((Go.bits .and .u16 a2_0 2046) != 0)) = false := by simpa using c14))
          (try (have c14b2 : (t283 == ((Go.bits .and .u16 a2_0 2046) != 0)) = false := by simpa using c14))
          (try (have c14b3 : ¬ (t283 = ((Go.bits .and .u16 a2_0 2046) != 0)) := by simpa using c14))
          clear c14
          have H' := Aside0.mk H
          clear H
          have hnb15 := NB280_281.out
          have hnc15 := NB281_280.out
          have hcz16_0 : w11.cell? ⟨gb280, 0, none⟩ = some (.int .u16 a2_0) := (blk_cell BK280.out 0).trans rfl
          have hfz16_0 := blk_frozen BK280.out 0
          go_wp2
          go_meet
          case rel => exact ⟨_, (true), (by first | rfl | (simp; done) | (simp [*]; done)), H', ⟨by first | omega | exact Nat.le_refl _⟩, ⟨by (with_reducible repeat (first | refine blk_drewN ?_ _ | refine blk_drew ?_ | refine blk_alloc ?_ _)); exact BK280.out⟩, ⟨by (with_reducible repeat (first | refine blk_drewN ?_ _ | refine blk_drew ?_ | refine blk_alloc ?_ _)); exact BK281.out⟩, ⟨by repeat (first | (with_reducible first | exact HB.out | apply below_alloc | apply pw_below_drewN | apply below_drew1 | refine below_set ?_ GE280.out | refine below_set ?_ GE281.out) | exact HB.out)⟩⟩
        · rw [if_neg c14] at H
          have c14b0 : (t283 != ((Go.bits .and .u16 a2_0 2046) != 0)) = false := by simpa using c14
          (try (have c14b1 : decide (t283 = ((Go.bits .and .u16 a2_0 2046) != 0)) = true := by simpa using c14))
          (try (have c14b2 : (t283 == ((Go.bits .and .u16 a2_0 2046) != 0)) = true := by simpa using c14))
          clear c14
          replace H := Option.bind_eq_some_iff.mp H
          obtain ⟨t284, A170, H⟩ := H
          replace H : (perilunelaw07_InterruptBars.j0 k t282 t283 (t284 != true) a2_0) = some r := H
          have A17 := Aside0.mk A170
          clear A170
          have H' := Aside0.mk H
          clear H
          have hnb18 := NB280_281.out
          have hnc18 := NB281_280.out
          have hcz19_0 : w11.cell? ⟨gb280, 0, none⟩ = some (.int .u16 a2_0) := (blk_cell BK280.out 0).trans rfl
          have hfz19_0 := blk_frozen BK280.out 0
          have hcz20_0 : w11.cell? ⟨gb281, 0, none⟩ = some (.int .u16 a0) := (blk_cell BK281.out 0).trans rfl
          have hcz20_1 : w11.cell? ⟨gb281, 1, none⟩ = some (.int .u16 0) := (blk_cell BK281.out 1).trans rfl
          have hcz20_2 : w11.cell? ⟨gb281, 2, none⟩ = some (.int .u16 0) := (blk_cell BK281.out 2).trans rfl
          have hcz20_3 : w11.cell? ⟨gb281, 3, none⟩ = some (.int .i64 0) := (blk_cell BK281.out 3).trans rfl
          have hcz20_4 : w11.cell? ⟨gb281, 4, none⟩ = some (.int .i64 0) := (blk_cell BK281.out 4).trans rfl
          have hcz20_5 : w11.cell? ⟨gb281, 5, none⟩ = some (.int .i64 0) := (blk_cell BK281.out 5).trans rfl
          have hcz20_6 : w11.cell? ⟨gb281, 6, none⟩ = some (.int .i64 0) := (blk_cell BK281.out 6).trans rfl
          have hcz20_7 : w11.cell? ⟨gb281, 7, none⟩ = some (.bool ((Go.bits .and .u8 a1 4) != 0)) := (blk_cell BK281.out 7).trans rfl
          have hcz20_8 : w11.cell? ⟨gb281, 8, none⟩ = some (.int .u16 (IntKind.u16.wrap (Go.bits .and .u8 (a1 / 16) 1))) := (blk_cell BK281.out 8).trans rfl
          have hcz20_9 : w11.cell? ⟨gb281, 9, none⟩ = some (.bool ((Go.bits .and .u8 a1 8) != 0)) := (blk_cell BK281.out 9).trans rfl
          have hcz20_10 : w11.cell? ⟨gb281, 10, none⟩ = some (.int .u16 0) := (blk_cell BK281.out 10).trans rfl
          have hcz20_11 : w11.cell? ⟨gb281, 11, none⟩ = some (.bool ((Go.bits .and .u8 a1 1) != 0)) := (blk_cell BK281.out 11).trans rfl
          have hcz20_12 : w11.cell? ⟨gb281, 12, none⟩ = some (.bool ((Go.bits .and .u8 a1 2) != 0)) := (blk_cell BK281.out 12).trans rfl
          have hfz20_0 := blk_frozen BK281.out 0
          have hfz20_1 := blk_frozen BK281.out 1
          have hfz20_2 := blk_frozen BK281.out 2
          have hfz20_3 := blk_frozen BK281.out 3
          have hfz20_4 := blk_frozen BK281.out 4
          have hfz20_5 := blk_frozen BK281.out 5
          have hfz20_6 := blk_frozen BK281.out 6
          have hfz20_7 := blk_frozen BK281.out 7
          have hfz20_8 := blk_frozen BK281.out 8
          have hfz20_9 := blk_frozen BK281.out 9
          have hfz20_10 := blk_frozen BK281.out 10
          have hfz20_11 := blk_frozen BK281.out 11
          have hfz20_12 := blk_frozen BK281.out 12
          go_wp2_with (first | (go_at_call 20; (with_reducible refine (interrupt_Allowed.calls k a0 0 0 0 0 0 0 ((Go.bits .and .u8 a1 4) != 0) (IntKind.u16.wrap (Go.bits .and .u8 (a1 / 16) 1)) ((Go.bits .and .u8 a1 8) != 0) 0 ((Go.bits .and .u8 a1 1) != 0) ((Go.bits .and .u8 a1 2) != 0) t284 _ A17.out).mono ?_); rintro e w21 ⟨rfl, hb⟩; have n0_ := Aside0.mk (blk_below (g := gb280) (o := .cells #[.int .u16 a2_0] 28 (0, 0)) (by (with_reducible repeat (first | refine blk_drewN ?_ _ | refine blk_drew ?_ | refine blk_alloc ?_ _)); exact BK280.out) hb); have n1_ := Aside0.mk (blk_below (g := gb281) (o := .cells #[.int .u16 a0, .int .u16 0, .int .u16 0, .int .i64 0, .int .i64 0, .int .i64 0, .int .i64 0, .bool ((Go.bits .and .u8 a1 4) != 0), .int .u16 (IntKind.u16.wrap (Go.bits .and .u8 (a1 / 16) 1)), .bool ((Go.bits .and .u8 a1 8) != 0), .int .u16 0, .bool ((Go.bits .and .u8 a1 1) != 0), .bool ((Go.bits .and .u8 a1 2) != 0)] 26 (0, 0)) (by (with_reducible repeat (first | refine blk_drewN ?_ _ | refine blk_drew ?_ | refine blk_alloc ?_ _)); exact BK281.out) hb); have n2_ := Aside0.mk (below_step (by repeat (first | (with_reducible first | exact HB.out | apply below_alloc | apply pw_below_drewN | apply below_drew1 | refine below_set ?_ GE280.out | refine below_set ?_ GE281.out) | exact HB.out)) hb); clear BK280; clear BK281; clear HB; have BK280 := n0_; have BK281 := n1_; have HB := n2_; clear n0_ n1_ n2_; (try clear hb); (try clear hb2); (try clear hk); (try clear hi)))
          go_meet
          case rel => exact ⟨_, ((t284 != true)), (by first | rfl | (simp; done) | (simp [*]; done)), H', ⟨by first | omega | exact Nat.le_refl _⟩, ⟨by (with_reducible repeat (first | refine blk_drewN ?_ _ | refine blk_drew ?_ | refine blk_alloc ?_ _)); exact BK280.out⟩, ⟨by (with_reducible repeat (first | refine blk_drewN ?_ _ | refine blk_drew ?_ | refine blk_alloc ?_ _)); exact BK281.out⟩, ⟨by repeat (first | (with_reducible first | exact HB.out | apply below_alloc | apply pw_below_drewN | apply below_drew1 | refine below_set ?_ GE280.out | refine below_set ?_ GE281.out) | exact HB.out)⟩⟩
      · rw [if_neg c13] at H
        have c13b0 : decide (a0 < 16384) = false := decide_eq_false c13
        clear c13
        by_cases c22 : a0 ≥ 49152
        · rw [if_pos c22] at H
          have c22b0 : decide (49152 ≤ a0) = true := decide_eq_true c22
          clear c22
          by_cases c23 : (t283 != ((Go.bits .and .u16 a2_0 2046) != 0)) = true
          · rw [if_pos c23] at H
            have c23b0 : (t283 != ((Go.bits .and .u16 a2_0 2046) != 0)) = true := c23
            (try (have c23b1 : decide (t283 = ((Go.bits .and .u16 a2_0 2046) != 0)) = false := by simpa using c23))
            (try (have c23b2 : (t283 == ((Go.bits .and .u16 a2_0 2046) != 0)) = false := by simpa using c23))
            (try (have c23b3 : ¬ (t283 = ((Go.bits .and .u16 a2_0 2046) != 0)) := by simpa using c23))
            clear c23
            have H' := Aside0.mk H
            clear H
            have hnb24 := NB280_281.out
            have hnc24 := NB281_280.out
            have hcz25_0 : w11.cell? ⟨gb280, 0, none⟩ = some (.int .u16 a2_0) := (blk_cell BK280.out 0).trans rfl
            have hfz25_0 := blk_frozen BK280.out 0
            go_wp2
            go_meet
            case rel => exact ⟨_, (true), (by first | rfl | (simp; done) | (simp [*]; done)), H', ⟨by first | omega | exact Nat.le_refl _⟩, ⟨by (with_reducible repeat (first | refine blk_drewN ?_ _ | refine blk_drew ?_ | refine blk_alloc ?_ _)); exact BK280.out⟩, ⟨by (with_reducible repeat (first | refine blk_drewN ?_ _ | refine blk_drew ?_ | refine blk_alloc ?_ _)); exact BK281.out⟩, ⟨by repeat (first | (with_reducible first | exact HB.out | apply below_alloc | apply pw_below_drewN | apply below_drew1 | refine below_set ?_ GE280.out | refine below_set ?_ GE281.out) | exact HB.out)⟩⟩
          · rw [if_neg c23] at H
            have c23b0 : (t283 != ((Go.bits .and .u16 a2_0 2046) != 0)) = false := by simpa using c23
            (try (have c23b1 : decide (t283 = ((Go.bits .and .u16 a2_0 2046) != 0)) = true := by simpa using c23))
            (try (have c23b2 : (t283 == ((Go.bits .and .u16 a2_0 2046) != 0)) = true := by simpa using c23))
            clear c23
            replace H := Option.bind_eq_some_iff.mp H
            obtain ⟨t285, A260, H⟩ := H
            replace H : (perilunelaw07_InterruptBars.j0 k t282 t283 (t285 != (decide (a0 ≥ 49152))) a2_0) = some r := H
            have A26 := Aside0.mk A260
            clear A260
            have H' := Aside0.mk H
            clear H
            have hnb27 := NB280_281.out
            have hnc27 := NB281_280.out
            have hcz28_0 : w11.cell? ⟨gb280, 0, none⟩ = some (.int .u16 a2_0) := (blk_cell BK280.out 0).trans rfl
            have hfz28_0 := blk_frozen BK280.out 0
            have hcz29_0 : w11.cell? ⟨gb281, 0, none⟩ = some (.int .u16 a0) := (blk_cell BK281.out 0).trans rfl
            have hcz29_1 : w11.cell? ⟨gb281, 1, none⟩ = some (.int .u16 0) := (blk_cell BK281.out 1).trans rfl
            have hcz29_2 : w11.cell? ⟨gb281, 2, none⟩ = some (.int .u16 0) := (blk_cell BK281.out 2).trans rfl
            have hcz29_3 : w11.cell? ⟨gb281, 3, none⟩ = some (.int .i64 0) := (blk_cell BK281.out 3).trans rfl
            have hcz29_4 : w11.cell? ⟨gb281, 4, none⟩ = some (.int .i64 0) := (blk_cell BK281.out 4).trans rfl
            have hcz29_5 : w11.cell? ⟨gb281, 5, none⟩ = some (.int .i64 0) := (blk_cell BK281.out 5).trans rfl
            have hcz29_6 : w11.cell? ⟨gb281, 6, none⟩ = some (.int .i64 0) := (blk_cell BK281.out 6).trans rfl
            have hcz29_7 : w11.cell? ⟨gb281, 7, none⟩ = some (.bool ((Go.bits .and .u8 a1 4) != 0)) := (blk_cell BK281.out 7).trans rfl
            have hcz29_8 : w11.cell? ⟨gb281, 8, none⟩ = some (.int .u16 (IntKind.u16.wrap (Go.bits .and .u8 (a1 / 16) 1))) := (blk_cell BK281.out 8).trans rfl
            have hcz29_9 : w11.cell? ⟨gb281, 9, none⟩ = some (.bool ((Go.bits .and .u8 a1 8) != 0)) := (blk_cell BK281.out 9).trans rfl
            have hcz29_10 : w11.cell? ⟨gb281, 10, none⟩ = some (.int .u16 0) := (blk_cell BK281.out 10).trans rfl
            have hcz29_11 : w11.cell? ⟨gb281, 11, none⟩ = some (.bool ((Go.bits .and .u8 a1 1) != 0)) := (blk_cell BK281.out 11).trans rfl
            have hcz29_12 : w11.cell? ⟨gb281, 12, none⟩ = some (.bool ((Go.bits .and .u8 a1 2) != 0)) := (blk_cell BK281.out 12).trans rfl
            have hfz29_0 := blk_frozen BK281.out 0
            have hfz29_1 := blk_frozen BK281.out 1
            have hfz29_2 := blk_frozen BK281.out 2
            have hfz29_3 := blk_frozen BK281.out 3
            have hfz29_4 := blk_frozen BK281.out 4
            have hfz29_5 := blk_frozen BK281.out 5
            have hfz29_6 := blk_frozen BK281.out 6
            have hfz29_7 := blk_frozen BK281.out 7
            have hfz29_8 := blk_frozen BK281.out 8
            have hfz29_9 := blk_frozen BK281.out 9
            have hfz29_10 := blk_frozen BK281.out 10
            have hfz29_11 := blk_frozen BK281.out 11
            have hfz29_12 := blk_frozen BK281.out 12
            go_wp2_with (first | (go_at_call 20; (with_reducible refine (interrupt_Allowed.calls k a0 0 0 0 0 0 0 ((Go.bits .and .u8 a1 4) != 0) (IntKind.u16.wrap (Go.bits .and .u8 (a1 / 16) 1)) ((Go.bits .and .u8 a1 8) != 0) 0 ((Go.bits .and .u8 a1 1) != 0) ((Go.bits .and .u8 a1 2) != 0) t285 _ A26.out).mono ?_); rintro e w30 ⟨rfl, hb⟩; have n0_ := Aside0.mk (blk_below (g := gb280) (o := .cells #[.int .u16 a2_0] 28 (0, 0)) (by (with_reducible repeat (first | refine blk_drewN ?_ _ | refine blk_drew ?_ | refine blk_alloc ?_ _)); exact BK280.out) hb); have n1_ := Aside0.mk (blk_below (g := gb281) (o := .cells #[.int .u16 a0, .int .u16 0, .int .u16 0, .int .i64 0, .int .i64 0, .int .i64 0, .int .i64 0, .bool ((Go.bits .and .u8 a1 4) != 0), .int .u16 (IntKind.u16.wrap (Go.bits .and .u8 (a1 / 16) 1)), .bool ((Go.bits .and .u8 a1 8) != 0), .int .u16 0, .bool ((Go.bits .and .u8 a1 1) != 0), .bool ((Go.bits .and .u8 a1 2) != 0)] 26 (0, 0)) (by (with_reducible repeat (first | refine blk_drewN ?_ _ | refine blk_drew ?_ | refine blk_alloc ?_ _)); exact BK281.out) hb); have n2_ := Aside0.mk (below_step (by repeat (first | (with_reducible first | exact HB.out | apply below_alloc | apply pw_below_drewN | apply below_drew1 | refine below_set ?_ GE280.out | refine below_set ?_ GE281.out) | exact HB.out)) hb); clear BK280; clear BK281; clear HB; have BK280 := n0_; have BK281 := n1_; have HB := n2_; clear n0_ n1_ n2_; (try clear hb); (try clear hb2); (try clear hk); (try clear hi)))
            go_meet
            case rel => exact ⟨_, ((t285 != (decide (a0 ≥ 49152)))), (by first | rfl | (simp; done) | (simp [*]; done)), H', ⟨by first | omega | exact Nat.le_refl _⟩, ⟨by (with_reducible repeat (first | refine blk_drewN ?_ _ | refine blk_drew ?_ | refine blk_alloc ?_ _)); exact BK280.out⟩, ⟨by (with_reducible repeat (first | refine blk_drewN ?_ _ | refine blk_drew ?_ | refine blk_alloc ?_ _)); exact BK281.out⟩, ⟨by repeat (first | (with_reducible first | exact HB.out | apply below_alloc | apply pw_below_drewN | apply below_drew1 | refine below_set ?_ GE280.out | refine below_set ?_ GE281.out) | exact HB.out)⟩⟩
        · rw [if_neg c22] at H
          have c22b0 : decide (49152 ≤ a0) = false := decide_eq_false c22
          clear c22
          by_cases c31 : (t283 != false) = true
          · rw [if_pos c31] at H
            have c31b0 : (t283 != false) = true := c31
            (try (have c31b1 : decide (t283 = false) = false := by simpa using c31))
            (try (have c31b2 : (t283 == false) = false := by simpa using c31))
            (try (have c31b3 : ¬ (t283 = false) := by simpa using c31))
            clear c31
            have H' := Aside0.mk H
            clear H
            go_wp2
            go_meet
            case rel => exact ⟨_, (true), (by first | rfl | (simp; done) | (simp [*]; done)), H', ⟨by first | omega | exact Nat.le_refl _⟩, ⟨by (with_reducible repeat (first | refine blk_drewN ?_ _ | refine blk_drew ?_ | refine blk_alloc ?_ _)); exact BK280.out⟩, ⟨by (with_reducible repeat (first | refine blk_drewN ?_ _ | refine blk_drew ?_ | refine blk_alloc ?_ _)); exact BK281.out⟩, ⟨by repeat (first | (with_reducible first | exact HB.out | apply below_alloc | apply pw_below_drewN | apply below_drew1 | refine below_set ?_ GE280.out | refine below_set ?_ GE281.out) | exact HB.out)⟩⟩
          · rw [if_neg c31] at H
            have c31b0 : (t283 != false) = false := by simpa using c31
            (try (have c31b1 : decide (t283 = false) = true := by simpa using c31))
            (try (have c31b2 : (t283 == false) = true := by simpa using c31))
            clear c31
            replace H := Option.bind_eq_some_iff.mp H
            obtain ⟨t286, A320, H⟩ := H
            replace H : (perilunelaw07_InterruptBars.j0 k t282 t283 (t286 != (decide (a0 ≥ 49152))) a2_0) = some r := H
            have A32 := Aside0.mk A320
            clear A320
            have H' := Aside0.mk H
            clear H
            have hnb33 := NB281_280.out
            have hnc33 := NB280_281.out
            have hcz34_0 : w11.cell? ⟨gb281, 0, none⟩ = some (.int .u16 a0) := (blk_cell BK281.out 0).trans rfl
            have hcz34_1 : w11.cell? ⟨gb281, 1, none⟩ = some (.int .u16 0) := (blk_cell BK281.out 1).trans rfl
            have hcz34_2 : w11.cell? ⟨gb281, 2, none⟩ = some (.int .u16 0) := (blk_cell BK281.out 2).trans rfl
            have hcz34_3 : w11.cell? ⟨gb281, 3, none⟩ = some (.int .i64 0) := (blk_cell BK281.out 3).trans rfl
            have hcz34_4 : w11.cell? ⟨gb281, 4, none⟩ = some (.int .i64 0) := (blk_cell BK281.out 4).trans rfl
            have hcz34_5 : w11.cell? ⟨gb281, 5, none⟩ = some (.int .i64 0) := (blk_cell BK281.out 5).trans rfl
            have hcz34_6 : w11.cell? ⟨gb281, 6, none⟩ = some (.int .i64 0) := (blk_cell BK281.out 6).trans rfl
            have hcz34_7 : w11.cell? ⟨gb281, 7, none⟩ = some (.bool ((Go.bits .and .u8 a1 4) != 0)) := (blk_cell BK281.out 7).trans rfl
            have hcz34_8 : w11.cell? ⟨gb281, 8, none⟩ = some (.int .u16 (IntKind.u16.wrap (Go.bits .and .u8 (a1 / 16) 1))) := (blk_cell BK281.out 8).trans rfl
            have hcz34_9 : w11.cell? ⟨gb281, 9, none⟩ = some (.bool ((Go.bits .and .u8 a1 8) != 0)) := (blk_cell BK281.out 9).trans rfl
            have hcz34_10 : w11.cell? ⟨gb281, 10, none⟩ = some (.int .u16 0) := (blk_cell BK281.out 10).trans rfl
            have hcz34_11 : w11.cell? ⟨gb281, 11, none⟩ = some (.bool ((Go.bits .and .u8 a1 1) != 0)) := (blk_cell BK281.out 11).trans rfl
            have hcz34_12 : w11.cell? ⟨gb281, 12, none⟩ = some (.bool ((Go.bits .and .u8 a1 2) != 0)) := (blk_cell BK281.out 12).trans rfl
            have hfz34_0 := blk_frozen BK281.out 0
            have hfz34_1 := blk_frozen BK281.out 1
            have hfz34_2 := blk_frozen BK281.out 2
            have hfz34_3 := blk_frozen BK281.out 3
            have hfz34_4 := blk_frozen BK281.out 4
            have hfz34_5 := blk_frozen BK281.out 5
            have hfz34_6 := blk_frozen BK281.out 6
            have hfz34_7 := blk_frozen BK281.out 7
            have hfz34_8 := blk_frozen BK281.out 8
            have hfz34_9 := blk_frozen BK281.out 9
            have hfz34_10 := blk_frozen BK281.out 10
            have hfz34_11 := blk_frozen BK281.out 11
            have hfz34_12 := blk_frozen BK281.out 12
            go_wp2_with (first | (go_at_call 20; (with_reducible refine (interrupt_Allowed.calls k a0 0 0 0 0 0 0 ((Go.bits .and .u8 a1 4) != 0) (IntKind.u16.wrap (Go.bits .and .u8 (a1 / 16) 1)) ((Go.bits .and .u8 a1 8) != 0) 0 ((Go.bits .and .u8 a1 1) != 0) ((Go.bits .and .u8 a1 2) != 0) t286 _ A32.out).mono ?_); rintro e w35 ⟨rfl, hb⟩; have n0_ := Aside0.mk (blk_below (g := gb280) (o := .cells #[.int .u16 a2_0] 28 (0, 0)) (by (with_reducible repeat (first | refine blk_drewN ?_ _ | refine blk_drew ?_ | refine blk_alloc ?_ _)); exact BK280.out) hb); have n1_ := Aside0.mk (blk_below (g := gb281) (o := .cells #[.int .u16 a0, .int .u16 0, .int .u16 0, .int .i64 0, .int .i64 0, .int .i64 0, .int .i64 0, .bool ((Go.bits .and .u8 a1 4) != 0), .int .u16 (IntKind.u16.wrap (Go.bits .and .u8 (a1 / 16) 1)), .bool ((Go.bits .and .u8 a1 8) != 0), .int .u16 0, .bool ((Go.bits .and .u8 a1 1) != 0), .bool ((Go.bits .and .u8 a1 2) != 0)] 26 (0, 0)) (by (with_reducible repeat (first | refine blk_drewN ?_ _ | refine blk_drew ?_ | refine blk_alloc ?_ _)); exact BK281.out) hb); have n2_ := Aside0.mk (below_step (by repeat (first | (with_reducible first | exact HB.out | apply below_alloc | apply pw_below_drewN | apply below_drew1 | refine below_set ?_ GE280.out | refine below_set ?_ GE281.out) | exact HB.out)) hb); clear BK280; clear BK281; clear HB; have BK280 := n0_; have BK281 := n1_; have HB := n2_; clear n0_ n1_ n2_; (try clear hb); (try clear hb2); (try clear hk); (try clear hi)))
            go_meet
            case rel => exact ⟨_, ((t286 != (decide (a0 ≥ 49152)))), (by first | rfl | (simp; done) | (simp [*]; done)), H', ⟨by first | omega | exact Nat.le_refl _⟩, ⟨by (with_reducible repeat (first | refine blk_drewN ?_ _ | refine blk_drew ?_ | refine blk_alloc ?_ _)); exact BK280.out⟩, ⟨by (with_reducible repeat (first | refine blk_drewN ?_ _ | refine blk_drew ?_ | refine blk_alloc ?_ _)); exact BK281.out⟩, ⟨by repeat (first | (with_reducible first | exact HB.out | apply below_alloc | apply pw_below_drewN | apply below_drew1 | refine below_set ?_ GE280.out | refine below_set ?_ GE281.out) | exact HB.out)⟩⟩
    · rw [if_neg c12] at H
      have c12b0 : ((Go.bits .and .u8 a1 31) == 0) = false := beq_eq_false_iff_ne.mpr c12
      have c12b1 : ((Go.bits .and .u8 a1 31) != 0) = true := bne_iff_ne.mpr c12
      (first | rw [c12b0] | (simp only [i64_w, i32_w]; rw [c12b0]) | skip)
      by_cases c36 : (t283 != false) = true
      · rw [if_pos c36] at H
        have c36b0 : (t283 != false) = true := c36
        (try (have c36b1 : decide (t283 = false) = false := by simpa using c36))
        (try (have c36b2 : (t283 == false) = false := by simpa using c36))
        (try (have c36b3 : ¬ (t283 = false) := by simpa using c36))
        clear c36
        have H' := Aside0.mk H
        clear H
        go_wp2
        go_meet
        case rel => exact ⟨_, (true), (by first | rfl | (simp; done) | (simp [*]; done)), H', ⟨by first | omega | exact Nat.le_refl _⟩, ⟨by (with_reducible repeat (first | refine blk_drewN ?_ _ | refine blk_drew ?_ | refine blk_alloc ?_ _)); exact BK280.out⟩, ⟨by (with_reducible repeat (first | refine blk_drewN ?_ _ | refine blk_drew ?_ | refine blk_alloc ?_ _)); exact BK281.out⟩, ⟨by repeat (first | (with_reducible first | exact HB.out | apply below_alloc | apply pw_below_drewN | apply below_drew1 | refine below_set ?_ GE280.out | refine below_set ?_ GE281.out) | exact HB.out)⟩⟩
      · rw [if_neg c36] at H
        have c36b0 : (t283 != false) = false := by simpa using c36
        (try (have c36b1 : decide (t283 = false) = true := by simpa using c36))
        (try (have c36b2 : (t283 == false) = true := by simpa using c36))
        clear c36
        replace H := Option.bind_eq_some_iff.mp H
        obtain ⟨t287, A370, H⟩ := H
        replace H : (perilunelaw07_InterruptBars.j0 k t282 t283 (t287 != false) a2_0) = some r := H
        have A37 := Aside0.mk A370
        clear A370
        have H' := Aside0.mk H
        clear H
        have hnb38 := NB281_280.out
        have hnc38 := NB280_281.out
        have hcz39_0 : w11.cell? ⟨gb281, 0, none⟩ = some (.int .u16 a0) := (blk_cell BK281.out 0).trans rfl
        have hcz39_1 : w11.cell? ⟨gb281, 1, none⟩ = some (.int .u16 0) := (blk_cell BK281.out 1).trans rfl
        have hcz39_2 : w11.cell? ⟨gb281, 2, none⟩ = some (.int .u16 0) := (blk_cell BK281.out 2).trans rfl
        have hcz39_3 : w11.cell? ⟨gb281, 3, none⟩ = some (.int .i64 0) := (blk_cell BK281.out 3).trans rfl
        have hcz39_4 : w11.cell? ⟨gb281, 4, none⟩ = some (.int .i64 0) := (blk_cell BK281.out 4).trans rfl
        have hcz39_5 : w11.cell? ⟨gb281, 5, none⟩ = some (.int .i64 0) := (blk_cell BK281.out 5).trans rfl
        have hcz39_6 : w11.cell? ⟨gb281, 6, none⟩ = some (.int .i64 0) := (blk_cell BK281.out 6).trans rfl
        have hcz39_7 : w11.cell? ⟨gb281, 7, none⟩ = some (.bool ((Go.bits .and .u8 a1 4) != 0)) := (blk_cell BK281.out 7).trans rfl
        have hcz39_8 : w11.cell? ⟨gb281, 8, none⟩ = some (.int .u16 (IntKind.u16.wrap (Go.bits .and .u8 (a1 / 16) 1))) := (blk_cell BK281.out 8).trans rfl
        have hcz39_9 : w11.cell? ⟨gb281, 9, none⟩ = some (.bool ((Go.bits .and .u8 a1 8) != 0)) := (blk_cell BK281.out 9).trans rfl
        have hcz39_10 : w11.cell? ⟨gb281, 10, none⟩ = some (.int .u16 0) := (blk_cell BK281.out 10).trans rfl
        have hcz39_11 : w11.cell? ⟨gb281, 11, none⟩ = some (.bool ((Go.bits .and .u8 a1 1) != 0)) := (blk_cell BK281.out 11).trans rfl
        have hcz39_12 : w11.cell? ⟨gb281, 12, none⟩ = some (.bool ((Go.bits .and .u8 a1 2) != 0)) := (blk_cell BK281.out 12).trans rfl
        have hfz39_0 := blk_frozen BK281.out 0
        have hfz39_1 := blk_frozen BK281.out 1
        have hfz39_2 := blk_frozen BK281.out 2
        have hfz39_3 := blk_frozen BK281.out 3
        have hfz39_4 := blk_frozen BK281.out 4
        have hfz39_5 := blk_frozen BK281.out 5
        have hfz39_6 := blk_frozen BK281.out 6
        have hfz39_7 := blk_frozen BK281.out 7
        have hfz39_8 := blk_frozen BK281.out 8
        have hfz39_9 := blk_frozen BK281.out 9
        have hfz39_10 := blk_frozen BK281.out 10
        have hfz39_11 := blk_frozen BK281.out 11
        have hfz39_12 := blk_frozen BK281.out 12
        go_wp2_with (first | (go_at_call 20; (with_reducible refine (interrupt_Allowed.calls k a0 0 0 0 0 0 0 ((Go.bits .and .u8 a1 4) != 0) (IntKind.u16.wrap (Go.bits .and .u8 (a1 / 16) 1)) ((Go.bits .and .u8 a1 8) != 0) 0 ((Go.bits .and .u8 a1 1) != 0) ((Go.bits .and .u8 a1 2) != 0) t287 _ A37.out).mono ?_); rintro e w40 ⟨rfl, hb⟩; have n0_ := Aside0.mk (blk_below (g := gb280) (o := .cells #[.int .u16 a2_0] 28 (0, 0)) (by (with_reducible repeat (first | refine blk_drewN ?_ _ | refine blk_drew ?_ | refine blk_alloc ?_ _)); exact BK280.out) hb); have n1_ := Aside0.mk (blk_below (g := gb281) (o := .cells #[.int .u16 a0, .int .u16 0, .int .u16 0, .int .i64 0, .int .i64 0, .int .i64 0, .int .i64 0, .bool ((Go.bits .and .u8 a1 4) != 0), .int .u16 (IntKind.u16.wrap (Go.bits .and .u8 (a1 / 16) 1)), .bool ((Go.bits .and .u8 a1 8) != 0), .int .u16 0, .bool ((Go.bits .and .u8 a1 1) != 0), .bool ((Go.bits .and .u8 a1 2) != 0)] 26 (0, 0)) (by (with_reducible repeat (first | refine blk_drewN ?_ _ | refine blk_drew ?_ | refine blk_alloc ?_ _)); exact BK281.out) hb); have n2_ := Aside0.mk (below_step (by repeat (first | (with_reducible first | exact HB.out | apply below_alloc | apply pw_below_drewN | apply below_drew1 | refine below_set ?_ GE280.out | refine below_set ?_ GE281.out) | exact HB.out)) hb); clear BK280; clear BK281; clear HB; have BK280 := n0_; have BK281 := n1_; have HB := n2_; clear n0_ n1_ n2_; (try clear hb); (try clear hb2); (try clear hk); (try clear hi)))
        go_meet
        case rel => exact ⟨_, ((t287 != false)), (by first | rfl | (simp; done) | (simp [*]; done)), H', ⟨by first | omega | exact Nat.le_refl _⟩, ⟨by (with_reducible repeat (first | refine blk_drewN ?_ _ | refine blk_drew ?_ | refine blk_alloc ?_ _)); exact BK280.out⟩, ⟨by (with_reducible repeat (first | refine blk_drewN ?_ _ | refine blk_drew ?_ | refine blk_alloc ?_ _)); exact BK281.out⟩, ⟨by repeat (first | (with_reducible first | exact HB.out | apply below_alloc | apply pw_below_drewN | apply below_drew1 | refine below_set ?_ GE280.out | refine below_set ?_ GE281.out) | exact HB.out)⟩⟩
  case rest =>
    clear HC5
    try clear c1
    try clear c2
    try clear p2
    try clear c3
    try clear c6
    try clear c8
    try clear c12
    try clear c12b0
    try clear c12b1
    try clear c13
    try clear c13b0
    try clear c14
    try clear c14b0
    try clear c14b1
    try clear c14b2
    try clear c15
    try clear c18
    try clear c22
    try clear c22b0
    try clear c23
    try clear c23b0
    try clear c23b1
    try clear c23b2
    try clear c24
    try clear c27
    try clear c31
    try clear c31b0
    try clear c31b1
    try clear c31b2
    try clear c33
    try clear c36
    try clear c36b0
    try clear c36b1
    try clear c36b2
    try clear c38
    try clear hcz10_0
    try clear hcz16_0
    try clear hcz19_0
    try clear hcz20_0
    try clear hcz20_1
    try clear hcz20_10
    try clear hcz20_11
    try clear hcz20_12
    try clear hcz20_2
    try clear hcz20_3
    try clear hcz20_4
    try clear hcz20_5
    try clear hcz20_6
    try clear hcz20_7
    try clear hcz20_8
    try clear hcz20_9
    try clear hcz25_0
    try clear hcz28_0
    try clear hcz29_0
    try clear hcz29_1
    try clear hcz29_10
    try clear hcz29_11
    try clear hcz29_12
    try clear hcz29_2
    try clear hcz29_3
    try clear hcz29_4
    try clear hcz29_5
    try clear hcz29_6
    try clear hcz29_7
    try clear hcz29_8
    try clear hcz29_9
    try clear hcz34_0
    try clear hcz34_1
    try clear hcz34_10
    try clear hcz34_11
    try clear hcz34_12
    try clear hcz34_2
    try clear hcz34_3
    try clear hcz34_4
    try clear hcz34_5
    try clear hcz34_6
    try clear hcz34_7
    try clear hcz34_8
    try clear hcz34_9
    try clear hcz39_0
    try clear hcz39_1
    try clear hcz39_10
    try clear hcz39_11
    try clear hcz39_12
    try clear hcz39_2
    try clear hcz39_3
    try clear hcz39_4
    try clear hcz39_5
    try clear hcz39_6
    try clear hcz39_7
    try clear hcz39_8
    try clear hcz39_9
    try clear hcz9_0
    try clear hcz9_1
    try clear hcz9_10
    try clear hcz9_11
    try clear hcz9_12
    try clear hcz9_2
    try clear hcz9_3
    try clear hcz9_4
    try clear hcz9_5
    try clear hcz9_6
    try clear hcz9_7
    try clear hcz9_8
    try clear hcz9_9
    try clear hfz10_0
    try clear hfz16_0
    try clear hfz19_0
    try clear hfz20_0
    try clear hfz20_1
    try clear hfz20_10
    try clear hfz20_11
    try clear hfz20_12
    try clear hfz20_2
    try clear hfz20_3
    try clear hfz20_4
    try clear hfz20_5
    try clear hfz20_6
    try clear hfz20_7
    try clear hfz20_8
    try clear hfz20_9
    try clear hfz25_0
    try clear hfz28_0
    try clear hfz29_0
    try clear hfz29_1
    try clear hfz29_10
    try clear hfz29_11
    try clear hfz29_12
    try clear hfz29_2
    try clear hfz29_3
    try clear hfz29_4
    try clear hfz29_5
    try clear hfz29_6
    try clear hfz29_7
    try clear hfz29_8
    try clear hfz29_9
    try clear hfz34_0
    try clear hfz34_1
    try clear hfz34_10
    try clear hfz34_11
    try clear hfz34_12
    try clear hfz34_2
    try clear hfz34_3
    try clear hfz34_4
    try clear hfz34_5
    try clear hfz34_6
    try clear hfz34_7
    try clear hfz34_8
    try clear hfz34_9
    try clear hfz39_0
    try clear hfz39_1
    try clear hfz39_10
    try clear hfz39_11
    try clear hfz39_12
    try clear hfz39_2
    try clear hfz39_3
    try clear hfz39_4
    try clear hfz39_5
    try clear hfz39_6
    try clear hfz39_7
    try clear hfz39_8
    try clear hfz39_9
    try clear hfz9_0
    try clear hfz9_1
    try clear hfz9_10
    try clear hfz9_11
    try clear hfz9_12
    try clear hfz9_2
    try clear hfz9_3
    try clear hfz9_4
    try clear hfz9_5
    try clear hfz9_6
    try clear hfz9_7
    try clear hfz9_8
    try clear hfz9_9
    obtain ⟨kq, x69_4, rfl, HA, HJ4, BK280, BK281, HB⟩ := hcut
    cases kq with
    | zero => exact absurd HA.out (by simp [perilunelaw07_InterruptBars.j0])
    | succ kj4 =>
      have H := HA.out
      clear HA
      simp only [perilunelaw07_InterruptBars.j0] at H
      by_cases c41 : x69_4 = true
      · subst c41
        have H1 : (some false) = some r := by rw [if_pos rfl] at H; exact H
        clear H
        have H := H1
        clear H1
        obtain rfl := Option.some.inj H
        go_wp2
        go_ret
        exact ⟨by first | rfl | (simp [errW_none, errW_some] <;> rfl) | (simp [*, errW_none, errW_some] <;> rfl), by repeat (first | (with_reducible first | exact HB.out | apply below_alloc | apply pw_below_drewN | apply below_drew1 | refine below_set ?_ GE280.out | refine below_set ?_ GE281.out) | exact HB.out)⟩
      · replace c41 := Bool.eq_false_iff.mpr c41
        subst c41
        have H1 : (if t283 = true then (perilunelaw07_InterruptBars.l0 kj4 t282 1 a2_0) else (if t282 = 0 then ((perilunelaw07_works.f).bind fun t288 => (some t288)) else (some false))) = some r := by rw [if_neg (show ¬ (false = true) by decide)] at H; exact H
        clear H
        have H := H1
        clear H1
        by_cases c42 : t283 = true
        · subst c42
          have H1 : (perilunelaw07_InterruptBars.l0 kj4 t282 1 a2_0) = some r := by rw [if_pos rfl] at H; exact H
          clear H
          have H := H1
          clear H1
          have H' := Aside0.mk H
          clear H
          go_wp2
          go_loopg [10] kj4 (fun kq v10 w' => ∃ (x10_2 : Int), v10 = .int .i64 x10_2 ∧ Aside0 (perilunelaw07_InterruptBars.l0 kq t282 x10_2 a2_0 = some r) ∧ Aside0 (kq ≤ kj4) ∧ Aside0 (w'.heap[gb280]? = some (.cells #[.int .u16 a2_0] 28 (0, 0))) ∧ Aside0 (w'.heap[gb281]? = some (.cells #[.int .u16 a0, .int .u16 0, .int .u16 0, .int .i64 0, .int .i64 0, .int .i64 0, .int .i64 0, .bool ((Go.bits .and .u8 a1 4) != 0), .int .u16 (IntKind.u16.wrap (Go.bits .and .u8 (a1 / 16) 1)), .bool ((Go.bits .and .u8 a1 8) != 0), .int .u16 0, .bool ((Go.bits .and .u8 a1 1) != 0), .bool ((Go.bits .and .u8 a1 2) != 0)] 26 (0, 0))) ∧ Aside0 (Below w.heap.size w w'))
          case atStart => exact ⟨(1), (by first | rfl | (simp; done) | (simp [*]; done)), H', ⟨Nat.le_refl _⟩, ⟨by (with_reducible repeat (first | refine blk_drewN ?_ _ | refine blk_drew ?_ | refine blk_alloc ?_ _)); exact BK280.out⟩, ⟨by (with_reducible repeat (first | refine blk_drewN ?_ _ | refine blk_drew ?_ | refine blk_alloc ?_ _)); exact BK281.out⟩, ⟨by repeat (first | (with_reducible first | exact HB.out | apply below_alloc | apply pw_below_drewN | apply below_drew1 | refine below_set ?_ GE280.out | refine below_set ?_ GE281.out) | exact HB.out)⟩⟩
          case round =>
            clear H'
            try clear c1
            try clear c2
            try clear p2
            try clear c3
            try clear c4
            try clear c6
            try clear c8
            try clear c12
            try clear c12b0
            try clear c12b1
            try clear c13
            try clear c13b0
            try clear c14
            try clear c14b0
            try clear c14b1
            try clear c14b2
            try clear c15
            try clear c18
            try clear c22
            try clear c22b0
            try clear c23
            try clear c23b0
            try clear c23b1
            try clear c23b2
            try clear c24
            try clear c27
            try clear c31
            try clear c31b0
            try clear c31b1
            try clear c31b2
            try clear c33
            try clear c36
            try clear c36b0
            try clear c36b1
            try clear c36b2
            try clear c38
            try clear c41
            try clear c42
            try clear hcz10_0
            try clear hcz16_0
            try clear hcz19_0
            try clear hcz20_0
            try clear hcz20_1
            try clear hcz20_10
            try clear hcz20_11
            try clear hcz20_12
            try clear hcz20_2
            try clear hcz20_3
            try clear hcz20_4
            try clear hcz20_5
            try clear hcz20_6
            try clear hcz20_7
            try clear hcz20_8
            try clear hcz20_9
            try clear hcz25_0
            try clear hcz28_0
            try clear hcz29_0
            try clear hcz29_1
            try clear hcz29_10
            try clear hcz29_11
            try clear hcz29_12
            try clear hcz29_2
            try clear hcz29_3
            try clear hcz29_4
            try clear hcz29_5
            try clear hcz29_6
            try clear hcz29_7
            try clear hcz29_8
            try clear hcz29_9
            try clear hcz34_0
            try clear hcz34_1
            try clear hcz34_10
            try clear hcz34_11
            try clear hcz34_12
            try clear hcz34_2
            try clear hcz34_3
            try clear hcz34_4
            try clear hcz34_5
            try clear hcz34_6
            try clear hcz34_7
            try clear hcz34_8
            try clear hcz34_9
            try clear hcz39_0
            try clear hcz39_1
            try clear hcz39_10
            try clear hcz39_11
            try clear hcz39_12
            try clear hcz39_2
            try clear hcz39_3
            try clear hcz39_4
            try clear hcz39_5
            try clear hcz39_6
            try clear hcz39_7
            try clear hcz39_8
            try clear hcz39_9
            try clear hcz9_0
            try clear hcz9_1
            try clear hcz9_10
            try clear hcz9_11
            try clear hcz9_12
            try clear hcz9_2
            try clear hcz9_3
            try clear hcz9_4
            try clear hcz9_5
            try clear hcz9_6
            try clear hcz9_7
            try clear hcz9_8
            try clear hcz9_9
            try clear hfz10_0
            try clear hfz16_0
            try clear hfz19_0
            try clear hfz20_0
            try clear hfz20_1
            try clear hfz20_10
            try clear hfz20_11
            try clear hfz20_12
            try clear hfz20_2
            try clear hfz20_3
            try clear hfz20_4
            try clear hfz20_5
            try clear hfz20_6
            try clear hfz20_7
            try clear hfz20_8
            try clear hfz20_9
            try clear hfz25_0
            try clear hfz28_0
            try clear hfz29_0
            try clear hfz29_1
            try clear hfz29_10
            try clear hfz29_11
            try clear hfz29_12
            try clear hfz29_2
            try clear hfz29_3
            try clear hfz29_4
            try clear hfz29_5
            try clear hfz29_6
            try clear hfz29_7
            try clear hfz29_8
            try clear hfz29_9
            try clear hfz34_0
            try clear hfz34_1
            try clear hfz34_10
            try clear hfz34_11
            try clear hfz34_12
            try clear hfz34_2
            try clear hfz34_3
            try clear hfz34_4
            try clear hfz34_5
            try clear hfz34_6
            try clear hfz34_7
            try clear hfz34_8
            try clear hfz34_9
            try clear hfz39_0
            try clear hfz39_1
            try clear hfz39_10
            try clear hfz39_11
            try clear hfz39_12
            try clear hfz39_2
            try clear hfz39_3
            try clear hfz39_4
            try clear hfz39_5
            try clear hfz39_6
            try clear hfz39_7
            try clear hfz39_8
            try clear hfz39_9
            try clear hfz9_0
            try clear hfz9_1
            try clear hfz9_10
            try clear hfz9_11
            try clear hfz9_12
            try clear hfz9_2
            try clear hfz9_3
            try clear hfz9_4
            try clear hfz9_5
            try clear hfz9_6
            try clear hfz9_7
            try clear hfz9_8
            try clear hfz9_9
            try clear p2
            obtain ⟨x10_2, rfl, HA, HK2, BK280, BK281, HB⟩ := hrel
            cases gk with
            | zero => exact absurd HA.out (by simp [perilunelaw07_InterruptBars.l0])
            | succ k2 =>
              have H := HA.out
              clear HA
              simp only [perilunelaw07_InterruptBars.l0] at H
              by_cases c43 : x10_2 < t282
              · rw [if_pos c43] at H
                have c43b0 : decide (x10_2 < t282) = true := decide_eq_true c43
                clear c43
                replace H := Option.bind_eq_some_iff.mp H
                obtain ⟨t289, A440, H⟩ := H
                replace H : (if t289 = true then (some false) else (perilunelaw07_InterruptBars.l0 k2 t282 (wrap64 (x10_2 + 1)) a2_0)) = some r := H
                have A44 := Aside0.mk A440
                clear A440
                by_cases c45 : t289 = true
                · subst c45
                  have H1 : (some false) = some r := by rw [if_pos rfl] at H; exact H
                  clear H
                  have H := H1
                  clear H1
                  obtain rfl := Option.some.inj H
                  have hnb46 := NB280_281.out
                  have hnc46 := NB281_280.out
                  have hcz47_0 : wr.cell? ⟨gb280, 0, none⟩ = some (.int .u16 a2_0) := (blk_cell BK280.out 0).trans rfl
                  have hfz47_0 := blk_frozen BK280.out 0
                  go_wp2_with (first | ((with_reducible refine gate_callee (f := 16) rfl ?_); refine goesL_ (some 84) rfl rfl Try.func16 (by kernel_rfl) rfl #[.agg #[.int .u16 a2_0], .int .i64 x10_2] rfl (by (try simp only [List.map_toArray, List.map_cons, List.map_nil]); first | done | rfl | (simp only [List.length_drop, List.length_take]; rfl)) ?_; (with_reducible refine (interrupt_Waits.calls k2 a2_0 x10_2 true _ A44.out).mono ?_); rintro e w48 ⟨rfl, hb⟩; refine ⟨_, rfl, ?_⟩; have n0_ := Aside0.mk (blk_below (g := gb280) (o := .cells #[.int .u16 a2_0] 28 (0, 0)) (by (with_reducible repeat (first | refine blk_drewN ?_ _ | refine blk_drew ?_ | refine blk_alloc ?_ _)); exact BK280.out) hb); have n1_ := Aside0.mk (blk_below (g := gb281) (o := .cells #[.int .u16 a0, .int .u16 0, .int .u16 0, .int .i64 0, .int .i64 0, .int .i64 0, .int .i64 0, .bool ((Go.bits .and .u8 a1 4) != 0), .int .u16 (IntKind.u16.wrap (Go.bits .and .u8 (a1 / 16) 1)), .bool ((Go.bits .and .u8 a1 8) != 0), .int .u16 0, .bool ((Go.bits .and .u8 a1 1) != 0), .bool ((Go.bits .and .u8 a1 2) != 0)] 26 (0, 0)) (by (with_reducible repeat (first | refine blk_drewN ?_ _ | refine blk_drew ?_ | refine blk_alloc ?_ _)); exact BK281.out) hb); have n2_ := Aside0.mk (below_step (by repeat (first | (with_reducible first | exact HB.out | apply below_alloc | apply pw_below_drewN | apply below_drew1 | refine below_set ?_ GE280.out | refine below_set ?_ GE281.out) | exact HB.out)) hb); clear BK280; clear BK281; clear HB; have BK280 := n0_; have BK281 := n1_; have HB := n2_; clear n0_ n1_ n2_; (try clear hb); (try clear hb2); (try clear hk); (try clear hi)))
                  go_ret
                  exact ⟨by first | rfl | (simp [errW_none, errW_some] <;> rfl) | (simp [*, errW_none, errW_some] <;> rfl), by repeat (first | (with_reducible first | exact HB.out | apply below_alloc | apply pw_below_drewN | apply below_drew1 | refine below_set ?_ GE280.out | refine below_set ?_ GE281.out) | exact HB.out)⟩
                · replace c45 := Bool.eq_false_iff.mpr c45
                  subst c45
                  have H1 : (perilunelaw07_InterruptBars.l0 k2 t282 (wrap64 (x10_2 + 1)) a2_0) = some r := by rw [if_neg (show ¬ (false = true) by decide)] at H; exact H
                  clear H
                  have H := H1
                  clear H1
                  have H' := Aside0.mk H
                  clear H
                  have hnb49 := NB280_281.out
                  have hnc49 := NB281_280.out
                  have hcz50_0 : wr.cell? ⟨gb280, 0, none⟩ = some (.int .u16 a2_0) := (blk_cell BK280.out 0).trans rfl
                  have hfz50_0 := blk_frozen BK280.out 0
                  go_wp2_with (first | ((with_reducible refine gate_callee (f := 16) rfl ?_); refine goesL_ (some 84) rfl rfl Try.func16 (by kernel_rfl) rfl #[.agg #[.int .u16 a2_0], .int .i64 x10_2] rfl (by (try simp only [List.map_toArray, List.map_cons, List.map_nil]); first | done | rfl | (simp only [List.length_drop, List.length_take]; rfl)) ?_; (with_reducible refine (interrupt_Waits.calls k2 a2_0 x10_2 false _ A44.out).mono ?_); rintro e w51 ⟨rfl, hb⟩; refine ⟨_, rfl, ?_⟩; have n0_ := Aside0.mk (blk_below (g := gb280) (o := .cells #[.int .u16 a2_0] 28 (0, 0)) (by (with_reducible repeat (first | refine blk_drewN ?_ _ | refine blk_drew ?_ | refine blk_alloc ?_ _)); exact BK280.out) hb); have n1_ := Aside0.mk (blk_below (g := gb281) (o := .cells #[.int .u16 a0, .int .u16 0, .int .u16 0, .int .i64 0, .int .i64 0, .int .i64 0, .int .i64 0, .bool ((Go.bits .and .u8 a1 4) != 0), .int .u16 (IntKind.u16.wrap (Go.bits .and .u8 (a1 / 16) 1)), .bool ((Go.bits .and .u8 a1 8) != 0), .int .u16 0, .bool ((Go.bits .and .u8 a1 1) != 0), .bool ((Go.bits .and .u8 a1 2) != 0)] 26 (0, 0)) (by (with_reducible repeat (first | refine blk_drewN ?_ _ | refine blk_drew ?_ | refine blk_alloc ?_ _)); exact BK281.out) hb); have n2_ := Aside0.mk (below_step (by repeat (first | (with_reducible first | exact HB.out | apply below_alloc | apply pw_below_drewN | apply below_drew1 | refine below_set ?_ GE280.out | refine below_set ?_ GE281.out) | exact HB.out)) hb); clear BK280; clear BK281; clear HB; have BK280 := n0_; have BK281 := n1_; have HB := n2_; clear n0_ n1_ n2_; (try clear hb); (try clear hb2); (try clear hk); (try clear hi)))
                  go_roundg k2
                  case measure => have := HJ4.out; have := HK2.out; omega
                  case rel => exact ⟨(wrap64 (x10_2 + 1)), (by first | rfl | (simp; done) | (simp [*]; done)), H', ⟨by have := HJ4.out; have := HK2.out; omega⟩, ⟨by (with_reducible repeat (first | refine blk_drewN ?_ _ | refine blk_drew ?_ | refine blk_alloc ?_ _)); exact BK280.out⟩, ⟨by (with_reducible repeat (first | refine blk_drewN ?_ _ | refine blk_drew ?_ | refine blk_alloc ?_ _)); exact BK281.out⟩, ⟨by repeat (first | (with_reducible first | exact HB.out | apply below_alloc | apply pw_below_drewN | apply below_drew1 | refine below_set ?_ GE280.out | refine below_set ?_ GE281.out) | exact HB.out)⟩⟩
              · rw [if_neg c43] at H
                have c43b0 : decide (x10_2 < t282) = false := decide_eq_false c43
                clear c43
                replace H := Option.bind_eq_some_iff.mp H
                obtain ⟨t290, A520, H⟩ := H
                replace H : (if t290 = true then ((perilunelaw07_works.f).bind fun t291 => (some t291)) else (some false)) = some r := H
                have A52 := Aside0.mk A520
                clear A520
                by_cases c53 : t290 = true
                · subst c53
                  have H1 : ((perilunelaw07_works.f).bind fun t291 => (some t291)) = some r := by rw [if_pos rfl] at H; exact H
                  clear H
                  have H := H1
                  clear H1
                  replace H := Option.bind_eq_some_iff.mp H
                  obtain ⟨t291, A540, H⟩ := H
                  replace H : (some t291) = some r := H
                  have A54 := Aside0.mk A540
                  clear A540
                  obtain rfl := Option.some.inj H
                  have hnb55 := NB280_281.out
                  have hnc55 := NB281_280.out
                  have hcz56_0 : wr.cell? ⟨gb280, 0, none⟩ = some (.int .u16 a2_0) := (blk_cell BK280.out 0).trans rfl
                  have hfz56_0 := blk_frozen BK280.out 0
                  go_wp2_with (first | ((with_reducible refine gate_callee (f := 16) rfl ?_); refine goesL_ (some 87) rfl rfl Try.func16 (by kernel_rfl) rfl #[.agg #[.int .u16 a2_0], .int .i64 t282] rfl (by (try simp only [List.map_toArray, List.map_cons, List.map_nil]); first | done | rfl | (simp only [List.length_drop, List.length_take]; rfl)) ?_; (with_reducible refine (interrupt_Waits.calls k2 a2_0 t282 true _ A52.out).mono ?_); rintro e w57 ⟨rfl, hb⟩; refine ⟨_, rfl, ?_⟩; have n0_ := Aside0.mk (blk_below (g := gb280) (o := .cells #[.int .u16 a2_0] 28 (0, 0)) (by (with_reducible repeat (first | refine blk_drewN ?_ _ | refine blk_drew ?_ | refine blk_alloc ?_ _)); exact BK280.out) hb); have n1_ := Aside0.mk (blk_below (g := gb281) (o := .cells #[.int .u16 a0, .int .u16 0, .int .u16 0, .int .i64 0, .int .i64 0, .int .i64 0, .int .i64 0, .bool ((Go.bits .and .u8 a1 4) != 0), .int .u16 (IntKind.u16.wrap (Go.bits .and .u8 (a1 / 16) 1)), .bool ((Go.bits .and .u8 a1 8) != 0), .int .u16 0, .bool ((Go.bits .and .u8 a1 1) != 0), .bool ((Go.bits .and .u8 a1 2) != 0)] 26 (0, 0)) (by (with_reducible repeat (first | refine blk_drewN ?_ _ | refine blk_drew ?_ | refine blk_alloc ?_ _)); exact BK281.out) hb); have n2_ := Aside0.mk (below_step (by repeat (first | (with_reducible first | exact HB.out | apply below_alloc | apply pw_below_drewN | apply below_drew1 | refine below_set ?_ GE280.out | refine below_set ?_ GE281.out) | exact HB.out)) hb); clear BK280; clear BK281; clear HB; have BK280 := n0_; have BK281 := n1_; have HB := n2_; clear n0_ n1_ n2_; (try clear hb); (try clear hb2); (try clear hk); (try clear hi)) | (go_at_call 13; (with_reducible refine (perilunelaw07_works.calls  t291 _ A54.out).mono ?_); rintro e w58 ⟨rfl, hb⟩; have n0_ := Aside0.mk (blk_below (g := gb280) (o := .cells #[.int .u16 a2_0] 28 (0, 0)) (by (with_reducible repeat (first | refine blk_drewN ?_ _ | refine blk_drew ?_ | refine blk_alloc ?_ _)); exact BK280.out) hb); have n1_ := Aside0.mk (blk_below (g := gb281) (o := .cells #[.int .u16 a0, .int .u16 0, .int .u16 0, .int .i64 0, .int .i64 0, .int .i64 0, .int .i64 0, .bool ((Go.bits .and .u8 a1 4) != 0), .int .u16 (IntKind.u16.wrap (Go.bits .and .u8 (a1 / 16) 1)), .bool ((Go.bits .and .u8 a1 8) != 0), .int .u16 0, .bool ((Go.bits .and .u8 a1 1) != 0), .bool ((Go.bits .and .u8 a1 2) != 0)] 26 (0, 0)) (by (with_reducible repeat (first | refine blk_drewN ?_ _ | refine blk_drew ?_ | refine blk_alloc ?_ _)); exact BK281.out) hb); have n2_ := Aside0.mk (below_step (by repeat (first | (with_reducible first | exact HB.out | apply below_alloc | apply pw_below_drewN | apply below_drew1 | refine below_set ?_ GE280.out | refine below_set ?_ GE281.out) | exact HB.out)) hb); clear BK280; clear BK281; clear HB; have BK280 := n0_; have BK281 := n1_; have HB := n2_; clear n0_ n1_ n2_; (try clear hb); (try clear hb2); (try clear hk); (try clear hi)))
                  go_ret
                  exact ⟨by first | rfl | (simp [errW_none, errW_some] <;> rfl) | (simp [*, errW_none, errW_some] <;> rfl), by repeat (first | (with_reducible first | exact HB.out | apply below_alloc | apply pw_below_drewN | apply below_drew1 | refine below_set ?_ GE280.out | refine below_set ?_ GE281.out) | exact HB.out)⟩
                · replace c53 := Bool.eq_false_iff.mpr c53
                  subst c53
                  have H1 : (some false) = some r := by rw [if_neg (show ¬ (false = true) by decide)] at H; exact H
                  clear H
                  have H := H1
                  clear H1
                  obtain rfl := Option.some.inj H
                  have hnb59 := NB280_281.out
                  have hnc59 := NB281_280.out
                  have hcz60_0 : wr.cell? ⟨gb280, 0, none⟩ = some (.int .u16 a2_0) := (blk_cell BK280.out 0).trans rfl
                  have hfz60_0 := blk_frozen BK280.out 0
                  go_wp2_with (first | ((with_reducible refine gate_callee (f := 16) rfl ?_); refine goesL_ (some 87) rfl rfl Try.func16 (by kernel_rfl) rfl #[.agg #[.int .u16 a2_0], .int .i64 t282] rfl (by (try simp only [List.map_toArray, List.map_cons, List.map_nil]); first | done | rfl | (simp only [List.length_drop, List.length_take]; rfl)) ?_; (with_reducible refine (interrupt_Waits.calls k2 a2_0 t282 false _ A52.out).mono ?_); rintro e w61 ⟨rfl, hb⟩; refine ⟨_, rfl, ?_⟩; have n0_ := Aside0.mk (blk_below (g := gb280) (o := .cells #[.int .u16 a2_0] 28 (0, 0)) (by (with_reducible repeat (first | refine blk_drewN ?_ _ | refine blk_drew ?_ | refine blk_alloc ?_ _)); exact BK280.out) hb); have n1_ := Aside0.mk (blk_below (g := gb281) (o := .cells #[.int .u16 a0, .int .u16 0, .int .u16 0, .int .i64 0, .int .i64 0, .int .i64 0, .int .i64 0, .bool ((Go.bits .and .u8 a1 4) != 0), .int .u16 (IntKind.u16.wrap (Go.bits .and .u8 (a1 / 16) 1)), .bool ((Go.bits .and .u8 a1 8) != 0), .int .u16 0, .bool ((Go.bits .and .u8 a1 1) != 0), .bool ((Go.bits .and .u8 a1 2) != 0)] 26 (0, 0)) (by (with_reducible repeat (first | refine blk_drewN ?_ _ | refine blk_drew ?_ | refine blk_alloc ?_ _)); exact BK281.out) hb); have n2_ := Aside0.mk (below_step (by repeat (first | (with_reducible first | exact HB.out | apply below_alloc | apply pw_below_drewN | apply below_drew1 | refine below_set ?_ GE280.out | refine below_set ?_ GE281.out) | exact HB.out)) hb); clear BK280; clear BK281; clear HB; have BK280 := n0_; have BK281 := n1_; have HB := n2_; clear n0_ n1_ n2_; (try clear hb); (try clear hb2); (try clear hk); (try clear hi)))
                  go_ret
                  exact ⟨by first | rfl | (simp [errW_none, errW_some] <;> rfl) | (simp [*, errW_none, errW_some] <;> rfl), by repeat (first | (with_reducible first | exact HB.out | apply below_alloc | apply pw_below_drewN | apply below_drew1 | refine below_set ?_ GE280.out | refine below_set ?_ GE281.out) | exact HB.out)⟩
        · replace c42 := Bool.eq_false_iff.mpr c42
          subst c42
          have H1 : (if t282 = 0 then ((perilunelaw07_works.f).bind fun t288 => (some t288)) else (some false)) = some r := by rw [if_neg (show ¬ (false = true) by decide)] at H; exact H
          clear H
          have H := H1
          clear H1
          by_cases c62 : t282 = 0
          · rw [if_pos c62] at H
            have c62b0 : (t282 == 0) = true := beq_iff_eq.mpr c62
            have c62b1 : (t282 != 0) = false := bne_eq_false_iff_eq.mpr c62
            clear c62
            replace H := Option.bind_eq_some_iff.mp H
            obtain ⟨t288, A630, H⟩ := H
            replace H : (some t288) = some r := H
            have A63 := Aside0.mk A630
            clear A630
            obtain rfl := Option.some.inj H
            go_wp2_with (first | (go_at_call 13; (with_reducible refine (perilunelaw07_works.calls  t288 _ A63.out).mono ?_); rintro e w64 ⟨rfl, hb⟩; have n0_ := Aside0.mk (blk_below (g := gb280) (o := .cells #[.int .u16 a2_0] 28 (0, 0)) (by (with_reducible repeat (first | refine blk_drewN ?_ _ | refine blk_drew ?_ | refine blk_alloc ?_ _)); exact BK280.out) hb); have n1_ := Aside0.mk (blk_below (g := gb281) (o := .cells #[.int .u16 a0, .int .u16 0, .int .u16 0, .int .i64 0, .int .i64 0, .int .i64 0, .int .i64 0, .bool ((Go.bits .and .u8 a1 4) != 0), .int .u16 (IntKind.u16.wrap (Go.bits .and .u8 (a1 / 16) 1)), .bool ((Go.bits .and .u8 a1 8) != 0), .int .u16 0, .bool ((Go.bits .and .u8 a1 1) != 0), .bool ((Go.bits .and .u8 a1 2) != 0)] 26 (0, 0)) (by (with_reducible repeat (first | refine blk_drewN ?_ _ | refine blk_drew ?_ | refine blk_alloc ?_ _)); exact BK281.out) hb); have n2_ := Aside0.mk (below_step (by repeat (first | (with_reducible first | exact HB.out | apply below_alloc | apply pw_below_drewN | apply below_drew1 | refine below_set ?_ GE280.out | refine below_set ?_ GE281.out) | exact HB.out)) hb); clear BK280; clear BK281; clear HB; have BK280 := n0_; have BK281 := n1_; have HB := n2_; clear n0_ n1_ n2_; (try clear hb); (try clear hb2); (try clear hk); (try clear hi)))
            go_ret
            exact ⟨by first | rfl | (simp [errW_none, errW_some] <;> rfl) | (simp [*, errW_none, errW_some] <;> rfl), by repeat (first | (with_reducible first | exact HB.out | apply below_alloc | apply pw_below_drewN | apply below_drew1 | refine below_set ?_ GE280.out | refine below_set ?_ GE281.out) | exact HB.out)⟩
          · rw [if_neg c62] at H
            have c62b0 : (t282 == 0) = false := beq_eq_false_iff_ne.mpr c62
            have c62b1 : (t282 != 0) = true := bne_iff_ne.mpr c62
            obtain rfl := Option.some.inj H
            go_wp2
            go_ret
            exact ⟨by first | rfl | (simp [errW_none, errW_some] <;> rfl) | (simp [*, errW_none, errW_some] <;> rfl), by repeat (first | (with_reducible first | exact HB.out | apply below_alloc | apply pw_below_drewN | apply below_drew1 | refine below_set ?_ GE280.out | refine below_set ?_ GE281.out) | exact HB.out)⟩

-- NOT PRINTED: function 7 (perilunelaw07_InterruptKnown)

end Go.Proofs.Ytejnppbkncfkeaa.PAll
