/- Functions of the program as plain Lean functions, each with the proof that its call computes it (printed by program, cut by leafx.py): perilunelaw04_IsaBack. -/
import Derived.Test.YtgaajaddaecejaaIsaW
namespace Go.Proofs.Ytgaajaddaecejaa.PAll
open Go.RowKit Go.Proofs.YtgaajaddaecejaaW.PrintWords Go.Proofs.YtgaajaddaecejaaW.PrintLast Go.Proofs.YtgaajaddaecejaaW.PrintMore
attribute [local go_sem] max2_int min2_int max_two min_two max_three min_three max_four min_four   -- for this text's walks alone
set_option linter.unusedVariables false
set_option linter.unusedSimpArgs false

attribute [local go_sem high] eqA28
/-! ### perilunelaw04_IsaBack: function 7 -/
def perilunelaw04_IsaBack.j0 : Nat → Int → Int → Int → Bool → Int → ByteArray → Bool → Int → Int → Int → Option (Bool)
  | 0, _, _, _, _, _, _, _, _, _, _ => none
  | k + 1, x11, x12, x13, x64, x378000, x378001, x378002, x378003, x378004, x378005 => if x64 = true then (some false) else (if x13 = 0 then ((isa_Decode.f k x12 x378002).bind fun bt384 => (if bt384.2.2.2.2.2.2.2 = 0 then (if (bt384.1 == x378000 && (bt384.2.1.toList == x378001.toList && (bt384.2.2.1 == x378002 && (bt384.2.2.2.1 == x378003 && (bt384.2.2.2.2.1 == x378004 && (bt384.2.2.2.2.2.1 == x378005)))))) = true then (if bt384.2.2.2.2.2.2.1 = x11 then ((perilunelaw04_works.f k).bind fun t393 => (some t393)) else (some false)) else (some false)) else (some false))) else (if x13 = 3 then (if x12 = 0 then (if x378001.toList = ([84, 67] : List UInt8) then (if x11 = 3 then ((perilunelaw04_works.f k).bind fun t394 => (some t394)) else (if x11 = 4 then ((perilunelaw04_works.f k).bind fun t395 => (some t395)) else (if x11 = 6 then ((perilunelaw04_works.f k).bind fun t396 => (some t396)) else (if x378001.toList = ([73, 78, 68, 69, 88] : List UInt8) then (if x11 = 15 then ((perilunelaw04_works.f k).bind fun t397 => (some t397)) else (some false)) else (some false))))) else (if x378001.toList = ([73, 78, 68, 69, 88] : List UInt8) then (if x11 = 15 then ((perilunelaw04_works.f k).bind fun t398 => (some t398)) else (some false)) else (some false))) else (some false)) else (some false)))
def perilunelaw04_IsaBack.f (k : Nat) (a0 : Int) (a1 : Int) (a2_0 : Int) (a2_1 : ByteArray) (a2_2 : Bool) (a2_3 : Int) (a2_4 : Int) (a2_5 : Int) : Option (Bool) := (isa_Of.f (((Int.tmod a0 39) + 1) % 256)).bind fun bt370 => (if bt370.2.2.2.2.2.2 = 0 then ((isa_Range.f bt370.1 bt370.2.1 bt370.2.2.1 bt370.2.2.2.1 bt370.2.2.2.2.1 bt370.2.2.2.2.2.1).bind fun bt378 => (if (wrap64 ((wrap64 (bt378.2 - bt378.1)) + 1)) = 0 then (none) else ((isa_Encode.f k bt370.1 bt370.2.1 bt370.2.2.1 bt370.2.2.2.1 bt370.2.2.2.2.1 bt370.2.2.2.2.2.1 (wrap64 (bt378.1 + (Int.tmod (wrap64 (a1)) (wrap64 ((wrap64 (bt378.2 - bt378.1)) + 1)))))).bind fun bt380 => ((isa_Encode.f k bt370.1 a2_1 a2_2 a2_3 a2_4 a2_5 (wrap64 (bt378.1 + (Int.tmod (wrap64 (a1)) (wrap64 ((wrap64 (bt378.2 - bt378.1)) + 1)))))).bind fun bt382 => (if bt380.2 = bt382.2 then (perilunelaw04_IsaBack.j0 k (wrap64 (bt378.1 + (Int.tmod (wrap64 (a1)) (wrap64 ((wrap64 (bt378.2 - bt378.1)) + 1))))) bt380.1 bt380.2 (bt380.1 != bt382.1) bt370.1 bt370.2.1 bt370.2.2.1 bt370.2.2.2.1 bt370.2.2.2.2.1 bt370.2.2.2.2.2.1) else (perilunelaw04_IsaBack.j0 k (wrap64 (bt378.1 + (Int.tmod (wrap64 (a1)) (wrap64 ((wrap64 (bt378.2 - bt378.1)) + 1))))) bt380.1 bt380.2 true bt370.1 bt370.2.1 bt370.2.2.1 bt370.2.2.2.1 bt370.2.2.2.2.1 bt370.2.2.2.2.2.1)))))) else (some false))
theorem perilunelaw04_IsaBack.mono_l : ∀ k, (∀ y0 y1 y2 y3 y4 y5 y6 y7 y8 y9, LeO (perilunelaw04_IsaBack.j0 k y0 y1 y2 y3 y4 y5 y6 y7 y8 y9) (perilunelaw04_IsaBack.j0 (k + 1) y0 y1 y2 y3 y4 y5 y6 y7 y8 y9))
  | 0 => fun _ _ _ _ _ _ _ _ _ _ r h => by simp [perilunelaw04_IsaBack.j0] at h
  | k + 1 => by
    have ih0 := perilunelaw04_IsaBack.mono_l k
    · intro y0 y1 y2 y3 y4 y5 y6 y7 y8 y9
      unfold perilunelaw04_IsaBack.j0
      repeat' first
      | (with_reducible exact ih0 _ _ _ _ _ _ _ _ _ _)
      | (with_reducible exact isa_Decode.mono _ _ _)
      | (with_reducible exact isa_Encode.mono _ _ _ _ _ _ _ _)
      | (with_reducible exact perilunelaw04_works.mono _)
      | (with_reducible exact LeO.refl _)
      | (with_reducible exact LeO.none _)
      | (with_reducible refine LeO.ite ?_ ?_)
      | (with_reducible refine LeO.bind ?_ (fun _ => ?_))
      | exact ih0 _ _ _ _ _ _ _ _ _ _
      | exact isa_Decode.mono _ _ _
      | exact isa_Encode.mono _ _ _ _ _ _ _ _
      | exact perilunelaw04_works.mono _
      | exact LeO.none _
      | refine LeO.ite ?_ ?_
      | refine LeO.bind ?_ (fun _ => ?_)
theorem perilunelaw04_IsaBack.mono : ∀ a0 a1 a2 a3 a4 a5 a6 a7 k, LeO (perilunelaw04_IsaBack.f k a0 a1 a2 a3 a4 a5 a6 a7) (perilunelaw04_IsaBack.f (k + 1) a0 a1 a2 a3 a4 a5 a6 a7) := by
  intro a0 a1 a2 a3 a4 a5 a6 a7 k
  have ih0 := perilunelaw04_IsaBack.mono_l k
  unfold perilunelaw04_IsaBack.f
  repeat' first
      | (with_reducible exact ih0 _ _ _ _ _ _ _ _ _ _)
      | (with_reducible exact isa_Decode.mono _ _ _)
      | (with_reducible exact isa_Encode.mono _ _ _ _ _ _ _ _)
      | (with_reducible exact perilunelaw04_works.mono _)
      | (with_reducible exact LeO.refl _)
      | (with_reducible exact LeO.none _)
      | (with_reducible refine LeO.ite ?_ ?_)
      | (with_reducible refine LeO.bind ?_ (fun _ => ?_))
      | exact ih0 _ _ _ _ _ _ _ _ _ _
      | exact isa_Decode.mono _ _ _
      | exact isa_Encode.mono _ _ _ _ _ _ _ _
      | exact perilunelaw04_works.mono _
      | exact LeO.none _
      | refine LeO.ite ?_ ?_
      | refine LeO.bind ?_ (fun _ => ?_)
set_option maxHeartbeats 8000000 in
set_option maxRecDepth 100000 in
theorem perilunelaw04_IsaBack.calls (k : Nat) (a0 : Int) (a1 : Int) (a2_0 : Int) (a2_1 : ByteArray) (a2_2 : Bool) (a2_3 : Int) (a2_4 : Int) (a2_5 : Int) (r : Bool) (w : World) (h : perilunelaw04_IsaBack.f k a0 a1 a2_0 a2_1 a2_2 a2_3 a2_4 a2_5 = some r) :
    Calls Try.prog 7 #[.int .u8 a0, .int .u16 a1, .agg #[.int .u8 a2_0, .string a2_1, .bool a2_2, .int .u8 a2_3, .int .i64 a2_4, .int .i64 a2_5]] w fun e w' => e = .returned (.bool r) ∧ Below w.heap.size w w' := by
  have hu28 := Try.underlying28
  have HB := Aside0.mk (Below.refl w.heap.size w)
  have H : ((isa_Of.f (((Int.tmod a0 39) + 1) % 256)).bind fun bt370 => (if bt370.2.2.2.2.2.2 = 0 then ((isa_Range.f bt370.1 bt370.2.1 bt370.2.2.1 bt370.2.2.2.1 bt370.2.2.2.2.1 bt370.2.2.2.2.2.1).bind fun bt378 => (if (wrap64 ((wrap64 (bt378.2 - bt378.1)) + 1)) = 0 then (none) else ((isa_Encode.f k bt370.1 bt370.2.1 bt370.2.2.1 bt370.2.2.2.1 bt370.2.2.2.2.1 bt370.2.2.2.2.2.1 (wrap64 (bt378.1 + (Int.tmod (wrap64 (a1)) (wrap64 ((wrap64 (bt378.2 - bt378.1)) + 1)))))).bind fun bt380 => ((isa_Encode.f k bt370.1 a2_1 a2_2 a2_3 a2_4 a2_5 (wrap64 (bt378.1 + (Int.tmod (wrap64 (a1)) (wrap64 ((wrap64 (bt378.2 - bt378.1)) + 1)))))).bind fun bt382 => (if bt380.2 = bt382.2 then (perilunelaw04_IsaBack.j0 k (wrap64 (bt378.1 + (Int.tmod (wrap64 (a1)) (wrap64 ((wrap64 (bt378.2 - bt378.1)) + 1))))) bt380.1 bt380.2 (bt380.1 != bt382.1) bt370.1 bt370.2.1 bt370.2.2.1 bt370.2.2.2.1 bt370.2.2.2.2.1 bt370.2.2.2.2.2.1) else (perilunelaw04_IsaBack.j0 k (wrap64 (bt378.1 + (Int.tmod (wrap64 (a1)) (wrap64 ((wrap64 (bt378.2 - bt378.1)) + 1))))) bt380.1 bt380.2 true bt370.1 bt370.2.1 bt370.2.2.1 bt370.2.2.2.1 bt370.2.2.2.2.1 bt370.2.2.2.2.2.1)))))) else (some false))) = some r := h
  clear h
  replace H := Option.bind_eq_some_iff.mp H
  obtain ⟨⟨t370, t371, t372, t373, t374, t375, t376⟩, A40, H⟩ := H
  replace H : (if t376 = 0 then ((isa_Range.f t370 t371 t372 t373 t374 t375).bind fun bt378 => (if (wrap64 ((wrap64 (bt378.2 - bt378.1)) + 1)) = 0 then (none) else ((isa_Encode.f k t370 t371 t372 t373 t374 t375 (wrap64 (bt378.1 + (Int.tmod (wrap64 (a1)) (wrap64 ((wrap64 (bt378.2 - bt378.1)) + 1)))))).bind fun bt380 => ((isa_Encode.f k t370 a2_1 a2_2 a2_3 a2_4 a2_5 (wrap64 (bt378.1 + (Int.tmod (wrap64 (a1)) (wrap64 ((wrap64 (bt378.2 - bt378.1)) + 1)))))).bind fun bt382 => (if bt380.2 = bt382.2 then (perilunelaw04_IsaBack.j0 k (wrap64 (bt378.1 + (Int.tmod (wrap64 (a1)) (wrap64 ((wrap64 (bt378.2 - bt378.1)) + 1))))) bt380.1 bt380.2 (bt380.1 != bt382.1) t370 t371 t372 t373 t374 t375) else (perilunelaw04_IsaBack.j0 k (wrap64 (bt378.1 + (Int.tmod (wrap64 (a1)) (wrap64 ((wrap64 (bt378.2 - bt378.1)) + 1))))) bt380.1 bt380.2 true t370 t371 t372 t373 t374 t375)))))) else (some false)) = some r := H
  have A4 := Aside0.mk A40
  clear A40
  by_cases c5 : t376 = 0
  · rw [if_pos c5] at H
    have c5b0 : (t376 == 0) = true := beq_iff_eq.mpr c5
    have c5b1 : (t376 != 0) = false := bne_eq_false_iff_eq.mpr c5
    clear c5
    replace H := Option.bind_eq_some_iff.mp H
    obtain ⟨⟨t378, t379⟩, A60, H⟩ := H
    replace H : (if (wrap64 ((wrap64 (t379 - t378)) + 1)) = 0 then (none) else ((isa_Encode.f k t370 t371 t372 t373 t374 t375 (wrap64 (t378 + (Int.tmod (wrap64 (a1)) (wrap64 ((wrap64 (t379 - t378)) + 1)))))).bind fun bt380 => ((isa_Encode.f k t370 a2_1 a2_2 a2_3 a2_4 a2_5 (wrap64 (t378 + (Int.tmod (wrap64 (a1)) (wrap64 ((wrap64 (t379 - t378)) + 1)))))).bind fun bt382 => (if bt380.2 = bt382.2 then (perilunelaw04_IsaBack.j0 k (wrap64 (t378 + (Int.tmod (wrap64 (a1)) (wrap64 ((wrap64 (t379 - t378)) + 1))))) bt380.1 bt380.2 (bt380.1 != bt382.1) t370 t371 t372 t373 t374 t375) else (perilunelaw04_IsaBack.j0 k (wrap64 (t378 + (Int.tmod (wrap64 (a1)) (wrap64 ((wrap64 (t379 - t378)) + 1))))) bt380.1 bt380.2 true t370 t371 t372 t373 t374 t375))))) = some r := H
    have A6 := Aside0.mk A60
    clear A60
    by_cases c7 : (wrap64 ((wrap64 (t379 - t378)) + 1)) = 0
    · rw [if_pos c7] at H
      exact absurd H (by simp)
    · rw [if_neg c7] at H
      have c7b0 : ((wrap64 ((wrap64 (t379 - t378)) + 1)) == 0) = false := beq_eq_false_iff_ne.mpr c7
      have c7b1 : ((wrap64 ((wrap64 (t379 - t378)) + 1)) != 0) = true := bne_iff_ne.mpr c7
      replace H := Option.bind_eq_some_iff.mp H
      obtain ⟨⟨t380, t381⟩, A80, H⟩ := H
      replace H : ((isa_Encode.f k t370 a2_1 a2_2 a2_3 a2_4 a2_5 (wrap64 (t378 + (Int.tmod (wrap64 (a1)) (wrap64 ((wrap64 (t379 - t378)) + 1)))))).bind fun bt382 => (if t381 = bt382.2 then (perilunelaw04_IsaBack.j0 k (wrap64 (t378 + (Int.tmod (wrap64 (a1)) (wrap64 ((wrap64 (t379 - t378)) + 1))))) t380 t381 (t380 != bt382.1) t370 t371 t372 t373 t374 t375) else (perilunelaw04_IsaBack.j0 k (wrap64 (t378 + (Int.tmod (wrap64 (a1)) (wrap64 ((wrap64 (t379 - t378)) + 1))))) t380 t381 true t370 t371 t372 t373 t374 t375))) = some r := H
      have A8 := Aside0.mk A80
      clear A80
      replace H := Option.bind_eq_some_iff.mp H
      obtain ⟨⟨t382, t383⟩, A90, H⟩ := H
      replace H : (if t381 = t383 then (perilunelaw04_IsaBack.j0 k (wrap64 (t378 + (Int.tmod (wrap64 (a1)) (wrap64 ((wrap64 (t379 - t378)) + 1))))) t380 t381 (t380 != t382) t370 t371 t372 t373 t374 t375) else (perilunelaw04_IsaBack.j0 k (wrap64 (t378 + (Int.tmod (wrap64 (a1)) (wrap64 ((wrap64 (t379 - t378)) + 1))))) t380 t381 true t370 t371 t372 t373 t374 t375)) = some r := H
      have A9 := Aside0.mk A90
      clear A90
      have HC10 := Aside0.mk H
      clear H
      go_enter Try.func7, Try.ntmps7
      go_upto_region 9 with (first | ((with_reducible refine gate_dst (N := 5) rfl ?_); refine box_event ?hg (N := 5) ?hd (cs := #[.int .u8 a2_0, .string a2_1, .bool a2_2, .int .u8 a2_3, .int .i64 a2_4, .int .i64 a2_5]) (t := 28) ?hr ?_; (case hd => rfl); (case hg => rfl); (case hr => first | (go_simp; done) | (go_simp; rfl)); intro gb369 hg w11 hbox hb; have n0_ := Aside0.mk (below_step (by repeat (first | (with_reducible first | exact HB.out | apply below_alloc | apply pw_below_drewN | apply below_drew1) | exact HB.out)) hb); have n1_ := Aside0.mk (hbox); have n2_ := Aside0.mk ((by rw [hg]; exact (below_size (by repeat (first | (with_reducible first | exact HB.out | apply below_alloc | apply pw_below_drewN | apply below_drew1) | exact HB.out))) : w.heap.size ≤ gb369)); have n3_ := Aside0.mk ((by rw [hg]; exact (below_size (by repeat (first | (with_reducible first | exact HB.out | apply below_alloc | apply pw_below_drewN | apply below_drew1) | exact HB.out))) : w.heap.size ≤ gb369)); clear HB; have HB := n0_; have BK369 := n1_; have GW369 := n2_; have GE369 := n3_; clear n0_ n1_ n2_ n3_; clear hb hbox hg) | ((with_reducible refine gate_callee (f := 16) rfl ?_); refine goesL_ (some 23) rfl rfl Try.func16 (by kernel_rfl) rfl #[.int .u8 (((Int.tmod a0 39) + 1) % 256)] rfl (by (try simp only [List.map_toArray, List.map_cons, List.map_nil]); first | done | rfl | (simp only [List.length_drop, List.length_take]; rfl)) ?_; (with_reducible refine (isa_Of.calls (((Int.tmod a0 39) + 1) % 256) t370 t371 t372 t373 t374 t375 t376 _ A4.out).mono ?_); rintro e w12 ⟨rfl, hb⟩; refine ⟨_, rfl, ?_⟩; have n0_ := Aside0.mk (blk_below (g := gb369) (o := .cells #[.int .u8 a2_0, .string a2_1, .bool a2_2, .int .u8 a2_3, .int .i64 a2_4, .int .i64 a2_5] 28 (0, 0)) (by (with_reducible repeat (first | refine blk_drewN ?_ _ | refine blk_drew ?_ | refine blk_alloc ?_ _)); exact BK369.out) hb); have n1_ := Aside0.mk (below_step (by repeat (first | (with_reducible first | exact HB.out | apply below_alloc | apply pw_below_drewN | apply below_drew1 | refine below_set ?_ GE369.out) | exact HB.out)) hb); clear BK369; clear HB; have BK369 := n0_; have HB := n1_; clear n0_ n1_; (try clear hb); (try clear hb2); (try clear hk); (try clear hi)) | ((with_reducible refine gate_dst (N := 7) rfl ?_); refine box_event ?hg (N := 7) ?hd (cs := #[.int .u8 0, .string (⟨#[]⟩ : ByteArray), .bool false, .int .u8 0, .int .i64 0, .int .i64 0]) (t := 28) ?hr ?_; (case hd => rfl); (case hg => rfl); (case hr => first | (go_simp; done) | (go_simp; rfl)); intro gb377 hg w13 hbox hb; have n0_ := Aside0.mk (blk_below (g := gb369) (o := .cells #[.int .u8 a2_0, .string a2_1, .bool a2_2, .int .u8 a2_3, .int .i64 a2_4, .int .i64 a2_5] 28 (0, 0)) (by (with_reducible repeat (first | refine blk_drewN ?_ _ | refine blk_drew ?_ | refine blk_alloc ?_ _)); exact BK369.out) hb); have n1_ := Aside0.mk (below_step (by repeat (first | (with_reducible first | exact HB.out | apply below_alloc | apply pw_below_drewN | apply below_drew1 | refine below_set ?_ GE369.out) | exact HB.out)) hb); have n2_ := Aside0.mk (hbox); have n3_ := Aside0.mk ((by rw [hg]; exact (below_size (by repeat (first | (with_reducible first | exact HB.out | apply below_alloc | apply pw_below_drewN | apply below_drew1 | refine below_set ?_ GE369.out) | exact HB.out))) : w.heap.size ≤ gb377)); have n4_ := Aside0.mk ((by rw [hg]; exact (below_size (by repeat (first | (with_reducible first | exact HB.out | apply below_alloc | apply pw_below_drewN | apply below_drew1 | refine below_set ?_ GE369.out) | exact HB.out))) : w.heap.size ≤ gb377)); have n5_ := Aside0.mk ((by rw [hg]; exact Nat.ne_of_lt (blk_lt (g := gb369) (o := .cells #[.int .u8 a2_0, .string a2_1, .bool a2_2, .int .u8 a2_3, .int .i64 a2_4, .int .i64 a2_5] 28 (0, 0)) (by (with_reducible repeat (first | refine blk_drewN ?_ _ | refine blk_drew ?_ | refine blk_alloc ?_ _)); exact BK369.out)) : gb369 ≠ gb377)); have n6_ := Aside0.mk ((by rw [hg]; exact Nat.ne_of_gt (blk_lt (g := gb369) (o := .cells #[.int .u8 a2_0, .string a2_1, .bool a2_2, .int .u8 a2_3, .int .i64 a2_4, .int .i64 a2_5] 28 (0, 0)) (by (with_reducible repeat (first | refine blk_drewN ?_ _ | refine blk_drew ?_ | refine blk_alloc ?_ _)); exact BK369.out)) : gb377 ≠ gb369)); clear BK369; clear HB; have BK369 := n0_; have HB := n1_; have BK377 := n2_; have GW377 := n3_; have GE377 := n4_; have NB369_377 := n5_; have NB377_369 := n6_; clear n0_ n1_ n2_ n3_ n4_ n5_ n6_; clear hb hbox hg; have hnb14 := NB377_369.out; have hnc14 := NB369_377.out; have hcz15_0 : w13.cell? ⟨gb377, 0, none⟩ = some (.int .u8 0) := (blk_cell BK377.out 0).trans rfl; have hcz15_1 : w13.cell? ⟨gb377, 1, none⟩ = some (.string (⟨#[]⟩ : ByteArray)) := (blk_cell BK377.out 1).trans rfl; have hcz15_2 : w13.cell? ⟨gb377, 2, none⟩ = some (.bool false) := (blk_cell BK377.out 2).trans rfl; have hcz15_3 : w13.cell? ⟨gb377, 3, none⟩ = some (.int .u8 0) := (blk_cell BK377.out 3).trans rfl; have hcz15_4 : w13.cell? ⟨gb377, 4, none⟩ = some (.int .i64 0) := (blk_cell BK377.out 4).trans rfl; have hcz15_5 : w13.cell? ⟨gb377, 5, none⟩ = some (.int .i64 0) := (blk_cell BK377.out 5).trans rfl; have hfz15_0 := blk_frozen BK377.out 0; have hfz15_1 := blk_frozen BK377.out 1; have hfz15_2 := blk_frozen BK377.out 2; have hfz15_3 := blk_frozen BK377.out 3; have hfz15_4 := blk_frozen BK377.out 4; have hfz15_5 := blk_frozen BK377.out 5) | ((with_reducible refine gate_callee (f := 18) rfl ?_); refine goesL_ (some 30) rfl rfl Try.func18 (by kernel_rfl) rfl #[.agg #[.int .u8 t370, .string t371, .bool t372, .int .u8 t373, .int .i64 t374, .int .i64 t375]] rfl (by (try simp only [List.map_toArray, List.map_cons, List.map_nil]); first | done | rfl | (simp only [List.length_drop, List.length_take]; rfl)) ?_; (with_reducible refine (isa_Range.calls t370 t371 t372 t373 t374 t375 t378 t379 _ A6.out).mono ?_); rintro e w16 ⟨rfl, hb⟩; refine ⟨_, rfl, ?_⟩; have n0_ := Aside0.mk (blk_below (g := gb369) (o := .cells #[.int .u8 a2_0, .string a2_1, .bool a2_2, .int .u8 a2_3, .int .i64 a2_4, .int .i64 a2_5] 28 (0, 0)) (by (with_reducible repeat (first | refine blk_drewN ?_ _ | refine blk_drew ?_ | refine blk_alloc ?_ _)); refine blk_far ?_ NB369_377.out _; (with_reducible repeat (first | refine blk_drewN ?_ _ | refine blk_drew ?_ | refine blk_alloc ?_ _)); refine blk_far ?_ NB369_377.out _; (with_reducible repeat (first | refine blk_drewN ?_ _ | refine blk_drew ?_ | refine blk_alloc ?_ _)); refine blk_far ?_ NB369_377.out _; (with_reducible repeat (first | refine blk_drewN ?_ _ | refine blk_drew ?_ | refine blk_alloc ?_ _)); refine blk_far ?_ NB369_377.out _; (with_reducible repeat (first | refine blk_drewN ?_ _ | refine blk_drew ?_ | refine blk_alloc ?_ _)); refine blk_far ?_ NB369_377.out _; (with_reducible repeat (first | refine blk_drewN ?_ _ | refine blk_drew ?_ | refine blk_alloc ?_ _)); refine blk_far ?_ NB369_377.out _; (with_reducible repeat (first | refine blk_drewN ?_ _ | refine blk_drew ?_ | refine blk_alloc ?_ _)); exact BK369.out) hb); have n1_ := Aside0.mk (blk_below (g := gb377) (o := .cells #[.int .u8 t370, .string t371, .bool t372, .int .u8 t373, .int .i64 t374, .int .i64 t375] 28 (0, 0)) (by (with_reducible repeat (first | refine blk_drewN ?_ _ | refine blk_drew ?_ | refine blk_alloc ?_ _)); refine blk_put (cs := #[.int .u8 t370, .string t371, .bool t372, .int .u8 t373, .int .i64 t374, .int .i64 0]) ?_ 5 _ rfl; (with_reducible repeat (first | refine blk_drewN ?_ _ | refine blk_drew ?_ | refine blk_alloc ?_ _)); refine blk_put (cs := #[.int .u8 t370, .string t371, .bool t372, .int .u8 t373, .int .i64 0, .int .i64 0]) ?_ 4 _ rfl; (with_reducible repeat (first | refine blk_drewN ?_ _ | refine blk_drew ?_ | refine blk_alloc ?_ _)); refine blk_put (cs := #[.int .u8 t370, .string t371, .bool t372, .int .u8 0, .int .i64 0, .int .i64 0]) ?_ 3 _ rfl; (with_reducible repeat (first | refine blk_drewN ?_ _ | refine blk_drew ?_ | refine blk_alloc ?_ _)); refine blk_put (cs := #[.int .u8 t370, .string t371, .bool false, .int .u8 0, .int .i64 0, .int .i64 0]) ?_ 2 _ rfl; (with_reducible repeat (first | refine blk_drewN ?_ _ | refine blk_drew ?_ | refine blk_alloc ?_ _)); refine blk_put (cs := #[.int .u8 t370, .string (⟨#[]⟩ : ByteArray), .bool false, .int .u8 0, .int .i64 0, .int .i64 0]) ?_ 1 _ rfl; (with_reducible repeat (first | refine blk_drewN ?_ _ | refine blk_drew ?_ | refine blk_alloc ?_ _)); refine blk_put (cs := #[.int .u8 0, .string (⟨#[]⟩ : ByteArray), .bool false, .int .u8 0, .int .i64 0, .int .i64 0]) ?_ 0 _ rfl; (with_reducible repeat (first | refine blk_drewN ?_ _ | refine blk_drew ?_ | refine blk_alloc ?_ _)); exact BK377.out) hb); have n2_ := Aside0.mk (below_step (by repeat (first | (with_reducible first | exact HB.out | apply below_alloc | apply pw_below_drewN | apply below_drew1 | refine below_set ?_ GE369.out | refine below_set ?_ GE377.out) | exact HB.out)) hb); clear BK369; clear BK377; clear HB; have BK369 := n0_; have BK377 := n1_; have HB := n2_; clear n0_ n1_ n2_; (try clear hb); (try clear hb2); (try clear hk); (try clear hi); have hcz17_0 : w16.cell? ⟨gb377, 0, none⟩ = some (.int .u8 t370) := (blk_cell BK377.out 0).trans rfl; have hcz17_1 : w16.cell? ⟨gb377, 1, none⟩ = some (.string t371) := (blk_cell BK377.out 1).trans rfl; have hcz17_2 : w16.cell? ⟨gb377, 2, none⟩ = some (.bool t372) := (blk_cell BK377.out 2).trans rfl; have hcz17_3 : w16.cell? ⟨gb377, 3, none⟩ = some (.int .u8 t373) := (blk_cell BK377.out 3).trans rfl; have hcz17_4 : w16.cell? ⟨gb377, 4, none⟩ = some (.int .i64 t374) := (blk_cell BK377.out 4).trans rfl; have hcz17_5 : w16.cell? ⟨gb377, 5, none⟩ = some (.int .i64 t375) := (blk_cell BK377.out 5).trans rfl; have hfz17_0 := blk_frozen BK377.out 0; have hfz17_1 := blk_frozen BK377.out 1; have hfz17_2 := blk_frozen BK377.out 2; have hfz17_3 := blk_frozen BK377.out 3; have hfz17_4 := blk_frozen BK377.out 4; have hfz17_5 := blk_frozen BK377.out 5) | ((with_reducible refine gate_callee (f := 21) rfl ?_); refine goesL_ (some 45) rfl rfl Try.func21 (by kernel_rfl) rfl #[.agg #[.int .u8 t370, .string t371, .bool t372, .int .u8 t373, .int .i64 t374, .int .i64 t375], .int .i64 (wrap64 (t378 + (Int.tmod (wrap64 (a1)) (wrap64 ((wrap64 (t379 - t378)) + 1)))))] rfl (by (try simp only [List.map_toArray, List.map_cons, List.map_nil]); first | done | rfl | (simp only [List.length_drop, List.length_take]; rfl)) ?_; (with_reducible refine (isa_Encode.calls k t370 t371 t372 t373 t374 t375 (wrap64 (t378 + (Int.tmod (wrap64 (a1)) (wrap64 ((wrap64 (t379 - t378)) + 1))))) t380 t381 _ A8.out).mono ?_); rintro e w18 ⟨rfl, hb⟩; refine ⟨_, rfl, ?_⟩; have n0_ := Aside0.mk (blk_below (g := gb369) (o := .cells #[.int .u8 a2_0, .string a2_1, .bool a2_2, .int .u8 a2_3, .int .i64 a2_4, .int .i64 a2_5] 28 (0, 0)) (by (with_reducible repeat (first | refine blk_drewN ?_ _ | refine blk_drew ?_ | refine blk_alloc ?_ _)); exact BK369.out) hb); have n1_ := Aside0.mk (blk_below (g := gb377) (o := .cells #[.int .u8 t370, .string t371, .bool t372, .int .u8 t373, .int .i64 t374, .int .i64 t375] 28 (0, 0)) (by (with_reducible repeat (first | refine blk_drewN ?_ _ | refine blk_drew ?_ | refine blk_alloc ?_ _)); exact BK377.out) hb); have n2_ := Aside0.mk (below_step (by repeat (first | (with_reducible first | exact HB.out | apply below_alloc | apply pw_below_drewN | apply below_drew1 | refine below_set ?_ GE369.out | refine below_set ?_ GE377.out) | exact HB.out)) hb); clear BK369; clear BK377; clear HB; have BK369 := n0_; have BK377 := n1_; have HB := n2_; clear n0_ n1_ n2_; (try clear hb); (try clear hb2); (try clear hk); (try clear hi); have hcz19_0 : w18.cell? ⟨gb377, 0, none⟩ = some (.int .u8 t370) := (blk_cell BK377.out 0).trans rfl; have hcz19_1 : w18.cell? ⟨gb377, 1, none⟩ = some (.string t371) := (blk_cell BK377.out 1).trans rfl; have hcz19_2 : w18.cell? ⟨gb377, 2, none⟩ = some (.bool t372) := (blk_cell BK377.out 2).trans rfl; have hcz19_3 : w18.cell? ⟨gb377, 3, none⟩ = some (.int .u8 t373) := (blk_cell BK377.out 3).trans rfl; have hcz19_4 : w18.cell? ⟨gb377, 4, none⟩ = some (.int .i64 t374) := (blk_cell BK377.out 4).trans rfl; have hcz19_5 : w18.cell? ⟨gb377, 5, none⟩ = some (.int .i64 t375) := (blk_cell BK377.out 5).trans rfl; have hfz19_0 := blk_frozen BK377.out 0; have hfz19_1 := blk_frozen BK377.out 1; have hfz19_2 := blk_frozen BK377.out 2; have hfz19_3 := blk_frozen BK377.out 3; have hfz19_4 := blk_frozen BK377.out 4; have hfz19_5 := blk_frozen BK377.out 5; have hcz20_0 : w18.cell? ⟨gb369, 0, none⟩ = some (.int .u8 a2_0) := (blk_cell BK369.out 0).trans rfl; have hcz20_1 : w18.cell? ⟨gb369, 1, none⟩ = some (.string a2_1) := (blk_cell BK369.out 1).trans rfl; have hcz20_2 : w18.cell? ⟨gb369, 2, none⟩ = some (.bool a2_2) := (blk_cell BK369.out 2).trans rfl; have hcz20_3 : w18.cell? ⟨gb369, 3, none⟩ = some (.int .u8 a2_3) := (blk_cell BK369.out 3).trans rfl; have hcz20_4 : w18.cell? ⟨gb369, 4, none⟩ = some (.int .i64 a2_4) := (blk_cell BK369.out 4).trans rfl; have hcz20_5 : w18.cell? ⟨gb369, 5, none⟩ = some (.int .i64 a2_5) := (blk_cell BK369.out 5).trans rfl; have hfz20_0 := blk_frozen BK369.out 0; have hfz20_1 := blk_frozen BK369.out 1; have hfz20_2 := blk_frozen BK369.out 2; have hfz20_3 := blk_frozen BK369.out 3; have hfz20_4 := blk_frozen BK369.out 4; have hfz20_5 := blk_frozen BK369.out 5) | ((with_reducible refine gate_callee (f := 21) rfl ?_); refine goesL_ (some 54) rfl rfl Try.func21 (by kernel_rfl) rfl #[.agg #[.int .u8 t370, .string a2_1, .bool a2_2, .int .u8 a2_3, .int .i64 a2_4, .int .i64 a2_5], .int .i64 (wrap64 (t378 + (Int.tmod (wrap64 (a1)) (wrap64 ((wrap64 (t379 - t378)) + 1)))))] rfl (by (try simp only [List.map_toArray, List.map_cons, List.map_nil]); first | done | rfl | (simp only [List.length_drop, List.length_take]; rfl)) ?_; (with_reducible refine (isa_Encode.calls k t370 a2_1 a2_2 a2_3 a2_4 a2_5 (wrap64 (t378 + (Int.tmod (wrap64 (a1)) (wrap64 ((wrap64 (t379 - t378)) + 1))))) t382 t383 _ A9.out).mono ?_); rintro e w21 ⟨rfl, hb⟩; refine ⟨_, rfl, ?_⟩; have n0_ := Aside0.mk (blk_below (g := gb369) (o := .cells #[.int .u8 t370, .string a2_1, .bool a2_2, .int .u8 a2_3, .int .i64 a2_4, .int .i64 a2_5] 28 (0, 0)) (by (with_reducible repeat (first | refine blk_drewN ?_ _ | refine blk_drew ?_ | refine blk_alloc ?_ _)); refine blk_put (cs := #[.int .u8 a2_0, .string a2_1, .bool a2_2, .int .u8 a2_3, .int .i64 a2_4, .int .i64 a2_5]) ?_ 0 _ rfl; (with_reducible repeat (first | refine blk_drewN ?_ _ | refine blk_drew ?_ | refine blk_alloc ?_ _)); exact BK369.out) hb); have n1_ := Aside0.mk (blk_below (g := gb377) (o := .cells #[.int .u8 t370, .string t371, .bool t372, .int .u8 t373, .int .i64 t374, .int .i64 t375] 28 (0, 0)) (by (with_reducible repeat (first | refine blk_drewN ?_ _ | refine blk_drew ?_ | refine blk_alloc ?_ _)); refine blk_far ?_ NB377_369.out _; (with_reducible repeat (first | refine blk_drewN ?_ _ | refine blk_drew ?_ | refine blk_alloc ?_ _)); exact BK377.out) hb); have n2_ := Aside0.mk (below_step (by repeat (first | (with_reducible first | exact HB.out | apply below_alloc | apply pw_below_drewN | apply below_drew1 | refine below_set ?_ GE369.out | refine below_set ?_ GE377.out) | exact HB.out)) hb); clear BK369; clear BK377; clear HB; have BK369 := n0_; have BK377 := n1_; have HB := n2_; clear n0_ n1_ n2_; (try clear hb); (try clear hb2); (try clear hk); (try clear hi)))
      (try simp only [Act.put, List.setIfInBounds_toArray, List.set_cons_zero, List.set_cons_succ])
      go_cut [64] (fun v64 wc => ∃ (kq : Nat) (x64_9 : Bool), v64 = .bool x64_9 ∧ Aside0 (perilunelaw04_IsaBack.j0 kq (wrap64 (t378 + (Int.tmod (wrap64 (a1)) (wrap64 ((wrap64 (t379 - t378)) + 1))))) t380 t381 x64_9 t370 t371 t372 t373 t374 t375 = some r) ∧ Aside0 (kq ≤ k) ∧ Aside0 (wc.heap[gb369]? = some (.cells #[.int .u8 t370, .string a2_1, .bool a2_2, .int .u8 a2_3, .int .i64 a2_4, .int .i64 a2_5] 28 (0, 0))) ∧ Aside0 (wc.heap[gb377]? = some (.cells #[.int .u8 t370, .string t371, .bool t372, .int .u8 t373, .int .i64 t374, .int .i64 t375] 28 (0, 0))) ∧ Aside0 (Below w.heap.size w wc))
      case first =>
        have H := HC10.out
        clear HC10
        by_cases c22 : t381 = t383
        · rw [if_pos c22] at H
          have c22b0 : (t381 == t383) = true := beq_iff_eq.mpr c22
          have c22b1 : (t381 != t383) = false := bne_eq_false_iff_eq.mpr c22
          clear c22
          (first | rw [c22b0] | (simp only [i64_w, i32_w]; rw [c22b0]) | skip)
          have H' := Aside0.mk H
          clear H
          go_wp2
          go_meet
          case rel => exact ⟨_, ((t380 != t382)), (by first | rfl | (simp; done) | (simp [*]; done)), H', ⟨by first | omega | exact Nat.le_refl _⟩, ⟨by (with_reducible repeat (first | refine blk_drewN ?_ _ | refine blk_drew ?_ | refine blk_alloc ?_ _)); exact BK369.out⟩, ⟨by (with_reducible repeat (first | refine blk_drewN ?_ _ | refine blk_drew ?_ | refine blk_alloc ?_ _)); exact BK377.out⟩, ⟨by repeat (first | (with_reducible first | exact HB.out | apply below_alloc | apply pw_below_drewN | apply below_drew1 | refine below_set ?_ GE369.out | refine below_set ?_ GE377.out) | exact HB.out)⟩⟩
        · rw [if_neg c22] at H
          have c22b0 : (t381 == t383) = false := beq_eq_false_iff_ne.mpr c22
          have c22b1 : (t381 != t383) = true := bne_iff_ne.mpr c22
          (first | rw [c22b0] | (simp only [i64_w, i32_w]; rw [c22b0]) | skip)
          have H' := Aside0.mk H
          clear H
          go_wp2
          go_meet
          case rel => exact ⟨_, (true), (by first | rfl | (simp; done) | (simp [*]; done)), H', ⟨by first | omega | exact Nat.le_refl _⟩, ⟨by (with_reducible repeat (first | refine blk_drewN ?_ _ | refine blk_drew ?_ | refine blk_alloc ?_ _)); exact BK369.out⟩, ⟨by (with_reducible repeat (first | refine blk_drewN ?_ _ | refine blk_drew ?_ | refine blk_alloc ?_ _)); exact BK377.out⟩, ⟨by repeat (first | (with_reducible first | exact HB.out | apply below_alloc | apply pw_below_drewN | apply below_drew1 | refine below_set ?_ GE369.out | refine below_set ?_ GE377.out) | exact HB.out)⟩⟩
      case rest =>
        clear HC10
        try clear c1
        try clear c2
        try clear p2
        try clear c5
        try clear c5b0
        try clear c5b1
        try clear p6
        try clear c7
        try clear c7b0
        try clear c7b1
        try clear c14
        try clear c16
        try clear c18
        try clear c21
        try clear c22
        try clear c22b0
        try clear c22b1
        try clear hcz15_0
        try clear hcz15_1
        try clear hcz15_2
        try clear hcz15_3
        try clear hcz15_4
        try clear hcz15_5
        try clear hcz17_0
        try clear hcz17_1
        try clear hcz17_2
        try clear hcz17_3
        try clear hcz17_4
        try clear hcz17_5
        try clear hcz19_0
        try clear hcz19_1
        try clear hcz19_2
        try clear hcz19_3
        try clear hcz19_4
        try clear hcz19_5
        try clear hcz20_0
        try clear hcz20_1
        try clear hcz20_2
        try clear hcz20_3
        try clear hcz20_4
        try clear hcz20_5
        try clear hfz15_0
        try clear hfz15_1
        try clear hfz15_2
        try clear hfz15_3
        try clear hfz15_4
        try clear hfz15_5
        try clear hfz17_0
        try clear hfz17_1
        try clear hfz17_2
        try clear hfz17_3
        try clear hfz17_4
        try clear hfz17_5
        try clear hfz19_0
        try clear hfz19_1
        try clear hfz19_2
        try clear hfz19_3
        try clear hfz19_4
        try clear hfz19_5
        try clear hfz20_0
        try clear hfz20_1
        try clear hfz20_2
        try clear hfz20_3
        try clear hfz20_4
        try clear hfz20_5
        obtain ⟨kq, x64_9, rfl, HA, HJ9, BK369, BK377, HB⟩ := hcut
        cases kq with
        | zero => exact absurd HA.out (by simp [perilunelaw04_IsaBack.j0])
        | succ kj9 =>
          have H := HA.out
          clear HA
          simp only [perilunelaw04_IsaBack.j0] at H
          by_cases c23 : x64_9 = true
          · subst c23
            have H1 : (some false) = some r := by rw [if_pos rfl] at H; exact H
            clear H
            have H := H1
            clear H1
            obtain rfl := Option.some.inj H
            go_wp2
            go_ret
            exact ⟨by first | rfl | (simp [errW_none, errW_some] <;> rfl) | (simp [*, errW_none, errW_some] <;> rfl), by repeat (first | (with_reducible first | exact HB.out | apply below_alloc | apply pw_below_drewN | apply below_drew1 | refine below_set ?_ GE369.out | refine below_set ?_ GE377.out) | exact HB.out)⟩
          · replace c23 := Bool.eq_false_iff.mpr c23
            subst c23
            have H1 : (if t381 = 0 then ((isa_Decode.f kj9 t380 t372).bind fun bt384 => (if bt384.2.2.2.2.2.2.2 = 0 then (if (bt384.1 == t370 && (bt384.2.1.toList == t371.toList && (bt384.2.2.1 == t372 && (bt384.2.2.2.1 == t373 && (bt384.2.2.2.2.1 == t374 && (bt384.2.2.2.2.2.1 == t375)))))) = true then (if bt384.2.2.2.2.2.2.1 = (wrap64 (t378 + (Int.tmod (wrap64 (a1)) (wrap64 ((wrap64 (t379 - t378)) + 1))))) then ((perilunelaw04_works.f kj9).bind fun t393 => (some t393)) else (some false)) else (some false)) else (some false))) else (if t381 = 3 then (if t380 = 0 then (if t371.toList = ([84, 67] : List UInt8) then (if (wrap64 (t378 + (Int.tmod (wrap64 (a1)) (wrap64 ((wrap64 (t379 - t378)) + 1))))) = 3 then ((perilunelaw04_works.f kj9).bind fun t394 => (some t394)) else (if (wrap64 (t378 + (Int.tmod (wrap64 (a1)) (wrap64 ((wrap64 (t379 - t378)) + 1))))) = 4 then ((perilunelaw04_works.f kj9).bind fun t395 => (some t395)) else (if (wrap64 (t378 + (Int.tmod (wrap64 (a1)) (wrap64 ((wrap64 (t379 - t378)) + 1))))) = 6 then ((perilunelaw04_works.f kj9).bind fun t396 => (some t396)) else (if t371.toList = ([73, 78, 68, 69, 88] : List UInt8) then (if (wrap64 (t378 + (Int.tmod (wrap64 (a1)) (wrap64 ((wrap64 (t379 - t378)) + 1))))) = 15 then ((perilunelaw04_works.f kj9).bind fun t397 => (some t397)) else (some false)) else (some false))))) else (if t371.toList = ([73, 78, 68, 69, 88] : List UInt8) then (if (wrap64 (t378 + (Int.tmod (wrap64 (a1)) (wrap64 ((wrap64 (t379 - t378)) + 1))))) = 15 then ((perilunelaw04_works.f kj9).bind fun t398 => (some t398)) else (some false)) else (some false))) else (some false)) else (some false))) = some r := by rw [if_neg (show ¬ (false = true) by decide)] at H; exact H
            clear H
            have H := H1
            clear H1
            by_cases c24 : t381 = 0
            · rw [if_pos c24] at H
              have c24b0 : (t381 == 0) = true := beq_iff_eq.mpr c24
              have c24b1 : (t381 != 0) = false := bne_eq_false_iff_eq.mpr c24
              clear c24
              replace H := Option.bind_eq_some_iff.mp H
              obtain ⟨⟨t384, t385, t386, t387, t388, t389, t390, t391⟩, A250, H⟩ := H
              replace H : (if t391 = 0 then (if (t384 == t370 && (t385.toList == t371.toList && (t386 == t372 && (t387 == t373 && (t388 == t374 && (t389 == t375)))))) = true then (if t390 = (wrap64 (t378 + (Int.tmod (wrap64 (a1)) (wrap64 ((wrap64 (t379 - t378)) + 1))))) then ((perilunelaw04_works.f kj9).bind fun t393 => (some t393)) else (some false)) else (some false)) else (some false)) = some r := H
              have A25 := Aside0.mk A250
              clear A250
              by_cases c26 : t391 = 0
              · rw [if_pos c26] at H
                have c26b0 : (t391 == 0) = true := beq_iff_eq.mpr c26
                have c26b1 : (t391 != 0) = false := bne_eq_false_iff_eq.mpr c26
                clear c26
                by_cases c27 : (t384 == t370 && (t385.toList == t371.toList && (t386 == t372 && (t387 == t373 && (t388 == t374 && (t389 == t375)))))) = true
                · rw [if_pos c27] at H
                  have c27b0 : (t384 == t370 && (t385.toList == t371.toList && (t386 == t372 && (t387 == t373 && (t388 == t374 && (t389 == t375)))))) = true := c27
                  (try (have c27b1 : decide (t384 = t370 && (t385.toList == t371.toList && (t386 == t372 && (t387 == t373 && (t388 == t374 && (t389 == t375)))))) = true := by simpa using c27))
                  (try (have c27b2 : (t384 == t370 && (t385.toList == t371.toList && (t386 == t372 && (t387 == t373 && (t388 == t374 && (t389 == t375)))))) = true := by simpa using c27))
                  clear c27
                  by_cases c28 : t390 = (wrap64 (t378 + (Int.tmod (wrap64 (a1)) (wrap64 ((wrap64 (t379 - t378)) + 1)))))
                  · rw [if_pos c28] at H
                    have c28b0 : (t390 == (wrap64 (t378 + (Int.tmod (wrap64 (a1)) (wrap64 ((wrap64 (t379 - t378)) + 1)))))) = true := beq_iff_eq.mpr c28
                    have c28b1 : (t390 != (wrap64 (t378 + (Int.tmod (wrap64 (a1)) (wrap64 ((wrap64 (t379 - t378)) + 1)))))) = false := bne_eq_false_iff_eq.mpr c28
                    clear c28
                    replace H := Option.bind_eq_some_iff.mp H
                    obtain ⟨t393, A290, H⟩ := H
                    replace H : (some t393) = some r := H
                    have A29 := Aside0.mk A290
                    clear A290
                    obtain rfl := Option.some.inj H
                    have hnb30 := NB377_369.out
                    have hnc30 := NB369_377.out
                    have hcz31_0 : wc.cell? ⟨gb377, 0, none⟩ = some (.int .u8 t370) := (blk_cell BK377.out 0).trans rfl
                    have hcz31_1 : wc.cell? ⟨gb377, 1, none⟩ = some (.string t371) := (blk_cell BK377.out 1).trans rfl
                    have hcz31_2 : wc.cell? ⟨gb377, 2, none⟩ = some (.bool t372) := (blk_cell BK377.out 2).trans rfl
                    have hcz31_3 : wc.cell? ⟨gb377, 3, none⟩ = some (.int .u8 t373) := (blk_cell BK377.out 3).trans rfl
                    have hcz31_4 : wc.cell? ⟨gb377, 4, none⟩ = some (.int .i64 t374) := (blk_cell BK377.out 4).trans rfl
                    have hcz31_5 : wc.cell? ⟨gb377, 5, none⟩ = some (.int .i64 t375) := (blk_cell BK377.out 5).trans rfl
                    have hfz31_0 := blk_frozen BK377.out 0
                    have hfz31_1 := blk_frozen BK377.out 1
                    have hfz31_2 := blk_frozen BK377.out 2
                    have hfz31_3 := blk_frozen BK377.out 3
                    have hfz31_4 := blk_frozen BK377.out 4
                    have hfz31_5 := blk_frozen BK377.out 5
                    go_wp2_with (first | ((with_reducible refine gate_callee (f := 23) rfl ?_); refine goesL_ (some 106) rfl rfl Try.func23 (by kernel_rfl) rfl #[.int .u16 t380, .bool t372] rfl (by (try simp only [List.map_toArray, List.map_cons, List.map_nil]); first | done | rfl | (simp only [List.length_drop, List.length_take]; rfl)) ?_; (with_reducible refine (isa_Decode.calls kj9 t380 t372 t384 t385 t386 t387 t388 t389 t390 t391 _ A25.out).mono ?_); rintro e w32 ⟨rfl, hb⟩; refine ⟨_, rfl, ?_⟩; have n0_ := Aside0.mk (blk_below (g := gb369) (o := .cells #[.int .u8 t370, .string a2_1, .bool a2_2, .int .u8 a2_3, .int .i64 a2_4, .int .i64 a2_5] 28 (0, 0)) (by (with_reducible repeat (first | refine blk_drewN ?_ _ | refine blk_drew ?_ | refine blk_alloc ?_ _)); exact BK369.out) hb); have n1_ := Aside0.mk (blk_below (g := gb377) (o := .cells #[.int .u8 t370, .string t371, .bool t372, .int .u8 t373, .int .i64 t374, .int .i64 t375] 28 (0, 0)) (by (with_reducible repeat (first | refine blk_drewN ?_ _ | refine blk_drew ?_ | refine blk_alloc ?_ _)); exact BK377.out) hb); have n2_ := Aside0.mk (below_step (by repeat (first | (with_reducible first | exact HB.out | apply below_alloc | apply pw_below_drewN | apply below_drew1 | refine below_set ?_ GE369.out | refine below_set ?_ GE377.out) | exact HB.out)) hb); clear BK369; clear BK377; clear HB; have BK369 := n0_; have BK377 := n1_; have HB := n2_; clear n0_ n1_ n2_; (try clear hb); (try clear hb2); (try clear hk); (try clear hi)) | ((with_reducible refine gate_dst (N := 16) rfl ?_); refine box_event ?hg (N := 16) ?hd (cs := #[.int .u8 0, .string (⟨#[]⟩ : ByteArray), .bool false, .int .u8 0, .int .i64 0, .int .i64 0]) (t := 28) ?hr ?_; (case hd => rfl); (case hg => rfl); (case hr => first | (go_simp; done) | (go_simp; rfl)); intro gb392 hg w33 hbox hb; have n0_ := Aside0.mk (blk_below (g := gb369) (o := .cells #[.int .u8 t370, .string a2_1, .bool a2_2, .int .u8 a2_3, .int .i64 a2_4, .int .i64 a2_5] 28 (0, 0)) (by (with_reducible repeat (first | refine blk_drewN ?_ _ | refine blk_drew ?_ | refine blk_alloc ?_ _)); exact BK369.out) hb); have n1_ := Aside0.mk (blk_below (g := gb377) (o := .cells #[.int .u8 t370, .string t371, .bool t372, .int .u8 t373, .int .i64 t374, .int .i64 t375] 28 (0, 0)) (by (with_reducible repeat (first | refine blk_drewN ?_ _ | refine blk_drew ?_ | refine blk_alloc ?_ _)); exact BK377.out) hb); have n2_ := Aside0.mk (below_step (by repeat (first | (with_reducible first | exact HB.out | apply below_alloc | apply pw_below_drewN | apply below_drew1 | refine below_set ?_ GE369.out | refine below_set ?_ GE377.out) | exact HB.out)) hb); have n3_ := Aside0.mk (hbox); have n4_ := Aside0.mk ((by rw [hg]; exact (below_size (by repeat (first | (with_reducible first | exact HB.out | apply below_alloc | apply pw_below_drewN | apply below_drew1 | refine below_set ?_ GE369.out | refine below_set ?_ GE377.out) | exact HB.out))) : w.heap.size ≤ gb392)); have n5_ := Aside0.mk ((by rw [hg]; exact (below_size (by repeat (first | (with_reducible first | exact HB.out | apply below_alloc | apply pw_below_drewN | apply below_drew1 | refine below_set ?_ GE369.out | refine below_set ?_ GE377.out) | exact HB.out))) : w.heap.size ≤ gb392)); have n6_ := Aside0.mk ((by rw [hg]; exact Nat.ne_of_lt (blk_lt (g := gb369) (o := .cells #[.int .u8 t370, .string a2_1, .bool a2_2, .int .u8 a2_3, .int .i64 a2_4, .int .i64 a2_5] 28 (0, 0)) (by (with_reducible repeat (first | refine blk_drewN ?_ _ | refine blk_drew ?_ | refine blk_alloc ?_ _)); exact BK369.out)) : gb369 ≠ gb392)); have n7_ := Aside0.mk ((by rw [hg]; exact Nat.ne_of_gt (blk_lt (g := gb369) (o := .cells #[.int .u8 t370, .string a2_1, .bool a2_2, .int .u8 a2_3, .int .i64 a2_4, .int .i64 a2_5] 28 (0, 0)) (by (with_reducible repeat (first | refine blk_drewN ?_ _ | refine blk_drew ?_ | refine blk_alloc ?_ _)); exact BK369.out)) : gb392 ≠ gb369)); have n8_ := Aside0.mk ((by rw [hg]; exact Nat.ne_of_lt (blk_lt (g := gb377) (o := .cells #[.int .u8 t370, .string t371, .bool t372, .int .u8 t373, .int .i64 t374, .int .i64 t375] 28 (0, 0)) (by (with_reducible repeat (first | refine blk_drewN ?_ _ | refine blk_drew ?_ | refine blk_alloc ?_ _)); exact BK377.out)) : gb377 ≠ gb392)); have n9_ := Aside0.mk ((by rw [hg]; exact Nat.ne_of_gt (blk_lt (g := gb377) (o := .cells #[.int .u8 t370, .string t371, .bool t372, .int .u8 t373, .int .i64 t374, .int .i64 t375] 28 (0, 0)) (by (with_reducible repeat (first | refine blk_drewN ?_ _ | refine blk_drew ?_ | refine blk_alloc ?_ _)); exact BK377.out)) : gb392 ≠ gb377)); clear BK369; clear BK377; clear HB; have BK369 := n0_; have BK377 := n1_; have HB := n2_; have BK392 := n3_; have GW392 := n4_; have GE392 := n5_; have NB369_392 := n6_; have NB392_369 := n7_; have NB377_392 := n8_; have NB392_377 := n9_; clear n0_ n1_ n2_ n3_ n4_ n5_ n6_ n7_ n8_ n9_; clear hb hbox hg; have hnb34 := NB392_369.out; have hnc34 := NB369_392.out; have hnb35 := NB392_377.out; have hnc35 := NB377_392.out; have hcz36_0 : w33.cell? ⟨gb392, 0, none⟩ = some (.int .u8 0) := (blk_cell BK392.out 0).trans rfl; have hcz36_1 : w33.cell? ⟨gb392, 1, none⟩ = some (.string (⟨#[]⟩ : ByteArray)) := (blk_cell BK392.out 1).trans rfl; have hcz36_2 : w33.cell? ⟨gb392, 2, none⟩ = some (.bool false) := (blk_cell BK392.out 2).trans rfl; have hcz36_3 : w33.cell? ⟨gb392, 3, none⟩ = some (.int .u8 0) := (blk_cell BK392.out 3).trans rfl; have hcz36_4 : w33.cell? ⟨gb392, 4, none⟩ = some (.int .i64 0) := (blk_cell BK392.out 4).trans rfl; have hcz36_5 : w33.cell? ⟨gb392, 5, none⟩ = some (.int .i64 0) := (blk_cell BK392.out 5).trans rfl; have hfz36_0 := blk_frozen BK392.out 0; have hfz36_1 := blk_frozen BK392.out 1; have hfz36_2 := blk_frozen BK392.out 2; have hfz36_3 := blk_frozen BK392.out 3; have hfz36_4 := blk_frozen BK392.out 4; have hfz36_5 := blk_frozen BK392.out 5; have hcz37_0 : w33.cell? ⟨gb377, 0, none⟩ = some (.int .u8 t370) := (blk_cell BK377.out 0).trans rfl; have hcz37_1 : w33.cell? ⟨gb377, 1, none⟩ = some (.string t371) := (blk_cell BK377.out 1).trans rfl; have hcz37_2 : w33.cell? ⟨gb377, 2, none⟩ = some (.bool t372) := (blk_cell BK377.out 2).trans rfl; have hcz37_3 : w33.cell? ⟨gb377, 3, none⟩ = some (.int .u8 t373) := (blk_cell BK377.out 3).trans rfl; have hcz37_4 : w33.cell? ⟨gb377, 4, none⟩ = some (.int .i64 t374) := (blk_cell BK377.out 4).trans rfl; have hcz37_5 : w33.cell? ⟨gb377, 5, none⟩ = some (.int .i64 t375) := (blk_cell BK377.out 5).trans rfl; have hfz37_0 := blk_frozen BK377.out 0; have hfz37_1 := blk_frozen BK377.out 1; have hfz37_2 := blk_frozen BK377.out 2; have hfz37_3 := blk_frozen BK377.out 3; have hfz37_4 := blk_frozen BK377.out 4; have hfz37_5 := blk_frozen BK377.out 5) | (go_at_call 20; (with_reducible refine (perilunelaw04_works.calls kj9  t393 _ A29.out).mono ?_); rintro e w38 ⟨rfl, hb⟩; have n0_ := Aside0.mk (blk_below (g := gb369) (o := .cells #[.int .u8 t370, .string a2_1, .bool a2_2, .int .u8 a2_3, .int .i64 a2_4, .int .i64 a2_5] 28 (0, 0)) (by (with_reducible repeat (first | refine blk_drewN ?_ _ | refine blk_drew ?_ | refine blk_alloc ?_ _)); refine blk_far ?_ NB369_392.out _; (with_reducible repeat (first | refine blk_drewN ?_ _ | refine blk_drew ?_ | refine blk_alloc ?_ _)); refine blk_far ?_ NB369_392.out _; (with_reducible repeat (first | refine blk_drewN ?_ _ | refine blk_drew ?_ | refine blk_alloc ?_ _)); refine blk_far ?_ NB369_392.out _; (with_reducible repeat (first | refine blk_drewN ?_ _ | refine blk_drew ?_ | refine blk_alloc ?_ _)); refine blk_far ?_ NB369_392.out _; (with_reducible repeat (first | refine blk_drewN ?_ _ | refine blk_drew ?_ | refine blk_alloc ?_ _)); refine blk_far ?_ NB369_392.out _; (with_reducible repeat (first | refine blk_drewN ?_ _ | refine blk_drew ?_ | refine blk_alloc ?_ _)); refine blk_far ?_ NB369_392.out _; (with_reducible repeat (first | refine blk_drewN ?_ _ | refine blk_drew ?_ | refine blk_alloc ?_ _)); exact BK369.out) hb); have n1_ := Aside0.mk (blk_below (g := gb377) (o := .cells #[.int .u8 t370, .string t371, .bool t372, .int .u8 t373, .int .i64 t374, .int .i64 t375] 28 (0, 0)) (by (with_reducible repeat (first | refine blk_drewN ?_ _ | refine blk_drew ?_ | refine blk_alloc ?_ _)); refine blk_far ?_ NB377_392.out _; (with_reducible repeat (first | refine blk_drewN ?_ _ | refine blk_drew ?_ | refine blk_alloc ?_ _)); refine blk_far ?_ NB377_392.out _; (with_reducible repeat (first | refine blk_drewN ?_ _ | refine blk_drew ?_ | refine blk_alloc ?_ _)); refine blk_far ?_ NB377_392.out _; (with_reducible repeat (first | refine blk_drewN ?_ _ | refine blk_drew ?_ | refine blk_alloc ?_ _)); refine blk_far ?_ NB377_392.out _; (with_reducible repeat (first | refine blk_drewN ?_ _ | refine blk_drew ?_ | refine blk_alloc ?_ _)); refine blk_far ?_ NB377_392.out _; (with_reducible repeat (first | refine blk_drewN ?_ _ | refine blk_drew ?_ | refine blk_alloc ?_ _)); refine blk_far ?_ NB377_392.out _; (with_reducible repeat (first | refine blk_drewN ?_ _ | refine blk_drew ?_ | refine blk_alloc ?_ _)); exact BK377.out) hb); have n2_ := Aside0.mk (blk_below (g := gb392) (o := .cells #[.int .u8 t384, .string t385, .bool t386, .int .u8 t387, .int .i64 t388, .int .i64 t389] 28 (0, 0)) (by (with_reducible repeat (first | refine blk_drewN ?_ _ | refine blk_drew ?_ | refine blk_alloc ?_ _)); refine blk_put (cs := #[.int .u8 t384, .string t385, .bool t386, .int .u8 t387, .int .i64 t388, .int .i64 0]) ?_ 5 _ rfl; (with_reducible repeat (first | refine blk_drewN ?_ _ | refine blk_drew ?_ | refine blk_alloc ?_ _)); refine blk_put (cs := #[.int .u8 t384, .string t385, .bool t386, .int .u8 t387, .int .i64 0, .int .i64 0]) ?_ 4 _ rfl; (with_reducible repeat (first | refine blk_drewN ?_ _ | refine blk_drew ?_ | refine blk_alloc ?_ _)); refine blk_put (cs := #[.int .u8 t384, .string t385, .bool t386, .int .u8 0, .int .i64 0, .int .i64 0]) ?_ 3 _ rfl; (with_reducible repeat (first | refine blk_drewN ?_ _ | refine blk_drew ?_ | refine blk_alloc ?_ _)); refine blk_put (cs := #[.int .u8 t384, .string t385, .bool false, .int .u8 0, .int .i64 0, .int .i64 0]) ?_ 2 _ rfl; (with_reducible repeat (first | refine blk_drewN ?_ _ | refine blk_drew ?_ | refine blk_alloc ?_ _)); refine blk_put (cs := #[.int .u8 t384, .string (⟨#[]⟩ : ByteArray), .bool false, .int .u8 0, .int .i64 0, .int .i64 0]) ?_ 1 _ rfl; (with_reducible repeat (first | refine blk_drewN ?_ _ | refine blk_drew ?_ | refine blk_alloc ?_ _)); refine blk_put (cs := #[.int .u8 0, .string (⟨#[]⟩ : ByteArray), .bool false, .int .u8 0, .int .i64 0, .int .i64 0]) ?_ 0 _ rfl; (with_reducible repeat (first | refine blk_drewN ?_ _ | refine blk_drew ?_ | refine blk_alloc ?_ _)); exact BK392.out) hb); have n3_ := Aside0.mk (below_step (by repeat (first | (with_reducible first | exact HB.out | apply below_alloc | apply pw_below_drewN | apply below_drew1 | refine below_set ?_ GE369.out | refine below_set ?_ GE377.out | refine below_set ?_ GE392.out) | exact HB.out)) hb); clear BK369; clear BK377; clear BK392; clear HB; have BK369 := n0_; have BK377 := n1_; have BK392 := n2_; have HB := n3_; clear n0_ n1_ n2_ n3_; (try clear hb); (try clear hb2); (try clear hk); (try clear hi)))
                    go_ret
                    exact ⟨by first | rfl | (simp [errW_none, errW_some] <;> rfl) | (simp [*, errW_none, errW_some] <;> rfl), by repeat (first | (with_reducible first | exact HB.out | apply below_alloc | apply pw_below_drewN | apply below_drew1 | refine below_set ?_ GE369.out | refine below_set ?_ GE377.out | refine below_set ?_ GE392.out) | exact HB.out)⟩
                  · rw [if_neg c28] at H
                    have c28b0 : (t390 == (wrap64 (t378 + (Int.tmod (wrap64 (a1)) (wrap64 ((wrap64 (t379 - t378)) + 1)))))) = false := beq_eq_false_iff_ne.mpr c28
                    have c28b1 : (t390 != (wrap64 (t378 + (Int.tmod (wrap64 (a1)) (wrap64 ((wrap64 (t379 - t378)) + 1)))))) = true := bne_iff_ne.mpr c28
                    obtain rfl := Option.some.inj H
                    have hnb39 := NB377_369.out
                    have hnc39 := NB369_377.out
                    have hcz40_0 : wc.cell? ⟨gb377, 0, none⟩ = some (.int .u8 t370) := (blk_cell BK377.out 0).trans rfl
                    have hcz40_1 : wc.cell? ⟨gb377, 1, none⟩ = some (.string t371) := (blk_cell BK377.out 1).trans rfl
                    have hcz40_2 : wc.cell? ⟨gb377, 2, none⟩ = some (.bool t372) := (blk_cell BK377.out 2).trans rfl
                    have hcz40_3 : wc.cell? ⟨gb377, 3, none⟩ = some (.int .u8 t373) := (blk_cell BK377.out 3).trans rfl
                    have hcz40_4 : wc.cell? ⟨gb377, 4, none⟩ = some (.int .i64 t374) := (blk_cell BK377.out 4).trans rfl
                    have hcz40_5 : wc.cell? ⟨gb377, 5, none⟩ = some (.int .i64 t375) := (blk_cell BK377.out 5).trans rfl
                    have hfz40_0 := blk_frozen BK377.out 0
                    have hfz40_1 := blk_frozen BK377.out 1
                    have hfz40_2 := blk_frozen BK377.out 2
                    have hfz40_3 := blk_frozen BK377.out 3
                    have hfz40_4 := blk_frozen BK377.out 4
                    have hfz40_5 := blk_frozen BK377.out 5
                    go_wp2_with (first | ((with_reducible refine gate_callee (f := 23) rfl ?_); refine goesL_ (some 106) rfl rfl Try.func23 (by kernel_rfl) rfl #[.int .u16 t380, .bool t372] rfl (by (try simp only [List.map_toArray, List.map_cons, List.map_nil]); first | done | rfl | (simp only [List.length_drop, List.length_take]; rfl)) ?_; (with_reducible refine (isa_Decode.calls kj9 t380 t372 t384 t385 t386 t387 t388 t389 t390 t391 _ A25.out).mono ?_); rintro e w41 ⟨rfl, hb⟩; refine ⟨_, rfl, ?_⟩; have n0_ := Aside0.mk (blk_below (g := gb369) (o := .cells #[.int .u8 t370, .string a2_1, .bool a2_2, .int .u8 a2_3, .int .i64 a2_4, .int .i64 a2_5] 28 (0, 0)) (by (with_reducible repeat (first | refine blk_drewN ?_ _ | refine blk_drew ?_ | refine blk_alloc ?_ _)); exact BK369.out) hb); have n1_ := Aside0.mk (blk_below (g := gb377) (o := .cells #[.int .u8 t370, .string t371, .bool t372, .int .u8 t373, .int .i64 t374, .int .i64 t375] 28 (0, 0)) (by (with_reducible repeat (first | refine blk_drewN ?_ _ | refine blk_drew ?_ | refine blk_alloc ?_ _)); exact BK377.out) hb); have n2_ := Aside0.mk (below_step (by repeat (first | (with_reducible first | exact HB.out | apply below_alloc | apply pw_below_drewN | apply below_drew1 | refine below_set ?_ GE369.out | refine below_set ?_ GE377.out) | exact HB.out)) hb); clear BK369; clear BK377; clear HB; have BK369 := n0_; have BK377 := n1_; have HB := n2_; clear n0_ n1_ n2_; (try clear hb); (try clear hb2); (try clear hk); (try clear hi)) | ((with_reducible refine gate_dst (N := 16) rfl ?_); refine box_event ?hg (N := 16) ?hd (cs := #[.int .u8 0, .string (⟨#[]⟩ : ByteArray), .bool false, .int .u8 0, .int .i64 0, .int .i64 0]) (t := 28) ?hr ?_; (case hd => rfl); (case hg => rfl); (case hr => first | (go_simp; done) | (go_simp; rfl)); intro gb392 hg w42 hbox hb; have n0_ := Aside0.mk (blk_below (g := gb369) (o := .cells #[.int .u8 t370, .string a2_1, .bool a2_2, .int .u8 a2_3, .int .i64 a2_4, .int .i64 a2_5] 28 (0, 0)) (by (with_reducible repeat (first | refine blk_drewN ?_ _ | refine blk_drew ?_ | refine blk_alloc ?_ _)); exact BK369.out) hb); have n1_ := Aside0.mk (blk_below (g := gb377) (o := .cells #[.int .u8 t370, .string t371, .bool t372, .int .u8 t373, .int .i64 t374, .int .i64 t375] 28 (0, 0)) (by (with_reducible repeat (first | refine blk_drewN ?_ _ | refine blk_drew ?_ | refine blk_alloc ?_ _)); exact BK377.out) hb); have n2_ := Aside0.mk (below_step (by repeat (first | (with_reducible first | exact HB.out | apply below_alloc | apply pw_below_drewN | apply below_drew1 | refine below_set ?_ GE369.out | refine below_set ?_ GE377.out) | exact HB.out)) hb); have n3_ := Aside0.mk (hbox); have n4_ := Aside0.mk ((by rw [hg]; exact (below_size (by repeat (first | (with_reducible first | exact HB.out | apply below_alloc | apply pw_below_drewN | apply below_drew1 | refine below_set ?_ GE369.out | refine below_set ?_ GE377.out) | exact HB.out))) : w.heap.size ≤ gb392)); have n5_ := Aside0.mk ((by rw [hg]; exact (below_size (by repeat (first | (with_reducible first | exact HB.out | apply below_alloc | apply pw_below_drewN | apply below_drew1 | refine below_set ?_ GE369.out | refine below_set ?_ GE377.out) | exact HB.out))) : w.heap.size ≤ gb392)); have n6_ := Aside0.mk ((by rw [hg]; exact Nat.ne_of_lt (blk_lt (g := gb369) (o := .cells #[.int .u8 t370, .string a2_1, .bool a2_2, .int .u8 a2_3, .int .i64 a2_4, .int .i64 a2_5] 28 (0, 0)) (by (with_reducible repeat (first | refine blk_drewN ?_ _ | refine blk_drew ?_ | refine blk_alloc ?_ _)); exact BK369.out)) : gb369 ≠ gb392)); have n7_ := Aside0.mk ((by rw [hg]; exact Nat.ne_of_gt (blk_lt (g := gb369) (o := .cells #[.int .u8 t370, .string a2_1, .bool a2_2, .int .u8 a2_3, .int .i64 a2_4, .int .i64 a2_5] 28 (0, 0)) (by (with_reducible repeat (first | refine blk_drewN ?_ _ | refine blk_drew ?_ | refine blk_alloc ?_ _)); exact BK369.out)) : gb392 ≠ gb369)); have n8_ := Aside0.mk ((by rw [hg]; exact Nat.ne_of_lt (blk_lt (g := gb377) (o := .cells #[.int .u8 t370, .string t371, .bool t372, .int .u8 t373, .int .i64 t374, .int .i64 t375] 28 (0, 0)) (by (with_reducible repeat (first | refine blk_drewN ?_ _ | refine blk_drew ?_ | refine blk_alloc ?_ _)); exact BK377.out)) : gb377 ≠ gb392)); have n9_ := Aside0.mk ((by rw [hg]; exact Nat.ne_of_gt (blk_lt (g := gb377) (o := .cells #[.int .u8 t370, .string t371, .bool t372, .int .u8 t373, .int .i64 t374, .int .i64 t375] 28 (0, 0)) (by (with_reducible repeat (first | refine blk_drewN ?_ _ | refine blk_drew ?_ | refine blk_alloc ?_ _)); exact BK377.out)) : gb392 ≠ gb377)); clear BK369; clear BK377; clear HB; have BK369 := n0_; have BK377 := n1_; have HB := n2_; have BK392 := n3_; have GW392 := n4_; have GE392 := n5_; have NB369_392 := n6_; have NB392_369 := n7_; have NB377_392 := n8_; have NB392_377 := n9_; clear n0_ n1_ n2_ n3_ n4_ n5_ n6_ n7_ n8_ n9_; clear hb hbox hg; have hnb43 := NB392_369.out; have hnc43 := NB369_392.out; have hnb44 := NB392_377.out; have hnc44 := NB377_392.out; have hcz45_0 : w42.cell? ⟨gb392, 0, none⟩ = some (.int .u8 0) := (blk_cell BK392.out 0).trans rfl; have hcz45_1 : w42.cell? ⟨gb392, 1, none⟩ = some (.string (⟨#[]⟩ : ByteArray)) := (blk_cell BK392.out 1).trans rfl; have hcz45_2 : w42.cell? ⟨gb392, 2, none⟩ = some (.bool false) := (blk_cell BK392.out 2).trans rfl; have hcz45_3 : w42.cell? ⟨gb392, 3, none⟩ = some (.int .u8 0) := (blk_cell BK392.out 3).trans rfl; have hcz45_4 : w42.cell? ⟨gb392, 4, none⟩ = some (.int .i64 0) := (blk_cell BK392.out 4).trans rfl; have hcz45_5 : w42.cell? ⟨gb392, 5, none⟩ = some (.int .i64 0) := (blk_cell BK392.out 5).trans rfl; have hfz45_0 := blk_frozen BK392.out 0; have hfz45_1 := blk_frozen BK392.out 1; have hfz45_2 := blk_frozen BK392.out 2; have hfz45_3 := blk_frozen BK392.out 3; have hfz45_4 := blk_frozen BK392.out 4; have hfz45_5 := blk_frozen BK392.out 5; have hcz46_0 : w42.cell? ⟨gb377, 0, none⟩ = some (.int .u8 t370) := (blk_cell BK377.out 0).trans rfl; have hcz46_1 : w42.cell? ⟨gb377, 1, none⟩ = some (.string t371) := (blk_cell BK377.out 1).trans rfl; have hcz46_2 : w42.cell? ⟨gb377, 2, none⟩ = some (.bool t372) := (blk_cell BK377.out 2).trans rfl; have hcz46_3 : w42.cell? ⟨gb377, 3, none⟩ = some (.int .u8 t373) := (blk_cell BK377.out 3).trans rfl; have hcz46_4 : w42.cell? ⟨gb377, 4, none⟩ = some (.int .i64 t374) := (blk_cell BK377.out 4).trans rfl; have hcz46_5 : w42.cell? ⟨gb377, 5, none⟩ = some (.int .i64 t375) := (blk_cell BK377.out 5).trans rfl; have hfz46_0 := blk_frozen BK377.out 0; have hfz46_1 := blk_frozen BK377.out 1; have hfz46_2 := blk_frozen BK377.out 2; have hfz46_3 := blk_frozen BK377.out 3; have hfz46_4 := blk_frozen BK377.out 4; have hfz46_5 := blk_frozen BK377.out 5))
                    go_ret
                    exact ⟨by first | rfl | (simp [errW_none, errW_some] <;> rfl) | (simp [*, errW_none, errW_some] <;> rfl), by repeat (first | (with_reducible first | exact HB.out | apply below_alloc | apply pw_below_drewN | apply below_drew1 | refine below_set ?_ GE369.out | refine below_set ?_ GE377.out | refine below_set ?_ GE392.out) | exact HB.out)⟩
                · rw [if_neg c27] at H
                  have c27b0 : (t384 == t370 && (t385.toList == t371.toList && (t386 == t372 && (t387 == t373 && (t388 == t374 && (t389 == t375)))))) = false := by simpa using c27
                  (try (have c27b1 : decide (t384 = t370 && (t385.toList == t371.toList && (t386 == t372 && (t387 == t373 && (t388 == t374 && (t389 == t375)))))) = false := by simpa using c27))
                  (try (have c27b2 : (t384 == t370 && (t385.toList == t371.toList && (t386 == t372 && (t387 == t373 && (t388 == t374 && (t389 == t375)))))) = false := by simpa using c27))
                  (try (have c27b3 : ¬ (t384 = t370 && (t385.toList == t371.toList && (t386 == t372 && (t387 == t373 && (t388 == t374 && (t389 == t375)))))) := by simpa using c27))
                  clear c27
                  obtain rfl := Option.some.inj H
                  have hnb47 := NB377_369.out
                  have hnc47 := NB369_377.out
                  have hcz48_0 : wc.cell? ⟨gb377, 0, none⟩ = some (.int .u8 t370) := (blk_cell BK377.out 0).trans rfl
                  have hcz48_1 : wc.cell? ⟨gb377, 1, none⟩ = some (.string t371) := (blk_cell BK377.out 1).trans rfl
                  have hcz48_2 : wc.cell? ⟨gb377, 2, none⟩ = some (.bool t372) := (blk_cell BK377.out 2).trans rfl
                  have hcz48_3 : wc.cell? ⟨gb377, 3, none⟩ = some (.int .u8 t373) := (blk_cell BK377.out 3).trans rfl
                  have hcz48_4 : wc.cell? ⟨gb377, 4, none⟩ = some (.int .i64 t374) := (blk_cell BK377.out 4).trans rfl
                  have hcz48_5 : wc.cell? ⟨gb377, 5, none⟩ = some (.int .i64 t375) := (blk_cell BK377.out 5).trans rfl
                  have hfz48_0 := blk_frozen BK377.out 0
                  have hfz48_1 := blk_frozen BK377.out 1
                  have hfz48_2 := blk_frozen BK377.out 2
                  have hfz48_3 := blk_frozen BK377.out 3
                  have hfz48_4 := blk_frozen BK377.out 4
                  have hfz48_5 := blk_frozen BK377.out 5
                  go_wp2_with (first | ((with_reducible refine gate_callee (f := 23) rfl ?_); refine goesL_ (some 106) rfl rfl Try.func23 (by kernel_rfl) rfl #[.int .u16 t380, .bool t372] rfl (by (try simp only [List.map_toArray, List.map_cons, List.map_nil]); first | done | rfl | (simp only [List.length_drop, List.length_take]; rfl)) ?_; (with_reducible refine (isa_Decode.calls kj9 t380 t372 t384 t385 t386 t387 t388 t389 t390 t391 _ A25.out).mono ?_); rintro e w49 ⟨rfl, hb⟩; refine ⟨_, rfl, ?_⟩; have n0_ := Aside0.mk (blk_below (g := gb369) (o := .cells #[.int .u8 t370, .string a2_1, .bool a2_2, .int .u8 a2_3, .int .i64 a2_4, .int .i64 a2_5] 28 (0, 0)) (by (with_reducible repeat (first | refine blk_drewN ?_ _ | refine blk_drew ?_ | refine blk_alloc ?_ _)); exact BK369.out) hb); have n1_ := Aside0.mk (blk_below (g := gb377) (o := .cells #[.int .u8 t370, .string t371, .bool t372, .int .u8 t373, .int .i64 t374, .int .i64 t375] 28 (0, 0)) (by (with_reducible repeat (first | refine blk_drewN ?_ _ | refine blk_drew ?_ | refine blk_alloc ?_ _)); exact BK377.out) hb); have n2_ := Aside0.mk (below_step (by repeat (first | (with_reducible first | exact HB.out | apply below_alloc | apply pw_below_drewN | apply below_drew1 | refine below_set ?_ GE369.out | refine below_set ?_ GE377.out) | exact HB.out)) hb); clear BK369; clear BK377; clear HB; have BK369 := n0_; have BK377 := n1_; have HB := n2_; clear n0_ n1_ n2_; (try clear hb); (try clear hb2); (try clear hk); (try clear hi)) | ((with_reducible refine gate_dst (N := 16) rfl ?_); refine box_event ?hg (N := 16) ?hd (cs := #[.int .u8 0, .string (⟨#[]⟩ : ByteArray), .bool false, .int .u8 0, .int .i64 0, .int .i64 0]) (t := 28) ?hr ?_; (case hd => rfl); (case hg => rfl); (case hr => first | (go_simp; done) | (go_simp; rfl)); intro gb392 hg w50 hbox hb; have n0_ := Aside0.mk (blk_below (g := gb369) (o := .cells #[.int .u8 t370, .string a2_1, .bool a2_2, .int .u8 a2_3, .int .i64 a2_4, .int .i64 a2_5] 28 (0, 0)) (by (with_reducible repeat (first | refine blk_drewN ?_ _ | refine blk_drew ?_ | refine blk_alloc ?_ _)); exact BK369.out) hb); have n1_ := Aside0.mk (blk_below (g := gb377) (o := .cells #[.int .u8 t370, .string t371, .bool t372, .int .u8 t373, .int .i64 t374, .int .i64 t375] 28 (0, 0)) (by (with_reducible repeat (first | refine blk_drewN ?_ _ | refine blk_drew ?_ | refine blk_alloc ?_ _)); exact BK377.out) hb); have n2_ := Aside0.mk (below_step (by repeat (first | (with_reducible first | exact HB.out | apply below_alloc | apply pw_below_drewN | apply below_drew1 | refine below_set ?_ GE369.out | refine below_set ?_ GE377.out) | exact HB.out)) hb); have n3_ := Aside0.mk (hbox); have n4_ := Aside0.mk ((by rw [hg]; exact (below_size (by repeat (first | (with_reducible first | exact HB.out | apply below_alloc | apply pw_below_drewN | apply below_drew1 | refine below_set ?_ GE369.out | refine below_set ?_ GE377.out) | exact HB.out))) : w.heap.size ≤ gb392)); have n5_ := Aside0.mk ((by rw [hg]; exact (below_size (by repeat (first | (with_reducible first | exact HB.out | apply below_alloc | apply pw_below_drewN | apply below_drew1 | refine below_set ?_ GE369.out | refine below_set ?_ GE377.out) | exact HB.out))) : w.heap.size ≤ gb392)); have n6_ := Aside0.mk ((by rw [hg]; exact Nat.ne_of_lt (blk_lt (g := gb369) (o := .cells #[.int .u8 t370, .string a2_1, .bool a2_2, .int .u8 a2_3, .int .i64 a2_4, .int .i64 a2_5] 28 (0, 0)) (by (with_reducible repeat (first | refine blk_drewN ?_ _ | refine blk_drew ?_ | refine blk_alloc ?_ _)); exact BK369.out)) : gb369 ≠ gb392)); have n7_ := Aside0.mk ((by rw [hg]; exact Nat.ne_of_gt (blk_lt (g := gb369) (o := .cells #[.int .u8 t370, .string a2_1, .bool a2_2, .int .u8 a2_3, .int .i64 a2_4, .int .i64 a2_5] 28 (0, 0)) (by (with_reducible repeat (first | refine blk_drewN ?_ _ | refine blk_drew ?_ | refine blk_alloc ?_ _)); exact BK369.out)) : gb392 ≠ gb369)); have n8_ := Aside0.mk ((by rw [hg]; exact Nat.ne_of_lt (blk_lt (g := gb377) (o := .cells #[.int .u8 t370, .string t371, .bool t372, .int .u8 t373, .int .i64 t374, .int .i64 t375] 28 (0, 0)) (by (with_reducible repeat (first | refine blk_drewN ?_ _ | refine blk_drew ?_ | refine blk_alloc ?_ _)); exact BK377.out)) : gb377 ≠ gb392)); have n9_ := Aside0.mk ((by rw [hg]; exact Nat.ne_of_gt (blk_lt (g := gb377) (o := .cells #[.int .u8 t370, .string t371, .bool t372, .int .u8 t373, .int .i64 t374, .int .i64 t375] 28 (0, 0)) (by (with_reducible repeat (first | refine blk_drewN ?_ _ | refine blk_drew ?_ | refine blk_alloc ?_ _)); exact BK377.out)) : gb392 ≠ gb377)); clear BK369; clear BK377; clear HB; have BK369 := n0_; have BK377 := n1_; have HB := n2_; have BK392 := n3_; have GW392 := n4_; have GE392 := n5_; have NB369_392 := n6_; have NB392_369 := n7_; have NB377_392 := n8_; have NB392_377 := n9_; clear n0_ n1_ n2_ n3_ n4_ n5_ n6_ n7_ n8_ n9_; clear hb hbox hg; have hnb51 := NB392_369.out; have hnc51 := NB369_392.out; have hnb52 := NB392_377.out; have hnc52 := NB377_392.out; have hcz53_0 : w50.cell? ⟨gb392, 0, none⟩ = some (.int .u8 0) := (blk_cell BK392.out 0).trans rfl; have hcz53_1 : w50.cell? ⟨gb392, 1, none⟩ = some (.string (⟨#[]⟩ : ByteArray)) := (blk_cell BK392.out 1).trans rfl; have hcz53_2 : w50.cell? ⟨gb392, 2, none⟩ = some (.bool false) := (blk_cell BK392.out 2).trans rfl; have hcz53_3 : w50.cell? ⟨gb392, 3, none⟩ = some (.int .u8 0) := (blk_cell BK392.out 3).trans rfl; have hcz53_4 : w50.cell? ⟨gb392, 4, none⟩ = some (.int .i64 0) := (blk_cell BK392.out 4).trans rfl; have hcz53_5 : w50.cell? ⟨gb392, 5, none⟩ = some (.int .i64 0) := (blk_cell BK392.out 5).trans rfl; have hfz53_0 := blk_frozen BK392.out 0; have hfz53_1 := blk_frozen BK392.out 1; have hfz53_2 := blk_frozen BK392.out 2; have hfz53_3 := blk_frozen BK392.out 3; have hfz53_4 := blk_frozen BK392.out 4; have hfz53_5 := blk_frozen BK392.out 5; have hcz54_0 : w50.cell? ⟨gb377, 0, none⟩ = some (.int .u8 t370) := (blk_cell BK377.out 0).trans rfl; have hcz54_1 : w50.cell? ⟨gb377, 1, none⟩ = some (.string t371) := (blk_cell BK377.out 1).trans rfl; have hcz54_2 : w50.cell? ⟨gb377, 2, none⟩ = some (.bool t372) := (blk_cell BK377.out 2).trans rfl; have hcz54_3 : w50.cell? ⟨gb377, 3, none⟩ = some (.int .u8 t373) := (blk_cell BK377.out 3).trans rfl; have hcz54_4 : w50.cell? ⟨gb377, 4, none⟩ = some (.int .i64 t374) := (blk_cell BK377.out 4).trans rfl; have hcz54_5 : w50.cell? ⟨gb377, 5, none⟩ = some (.int .i64 t375) := (blk_cell BK377.out 5).trans rfl; have hfz54_0 := blk_frozen BK377.out 0; have hfz54_1 := blk_frozen BK377.out 1; have hfz54_2 := blk_frozen BK377.out 2; have hfz54_3 := blk_frozen BK377.out 3; have hfz54_4 := blk_frozen BK377.out 4; have hfz54_5 := blk_frozen BK377.out 5))
                  go_ret
                  exact ⟨by first | rfl | (simp [errW_none, errW_some] <;> rfl) | (simp [*, errW_none, errW_some] <;> rfl), by repeat (first | (with_reducible first | exact HB.out | apply below_alloc | apply pw_below_drewN | apply below_drew1 | refine below_set ?_ GE369.out | refine below_set ?_ GE377.out | refine below_set ?_ GE392.out) | exact HB.out)⟩
              · rw [if_neg c26] at H
                have c26b0 : (t391 == 0) = false := beq_eq_false_iff_ne.mpr c26
                have c26b1 : (t391 != 0) = true := bne_iff_ne.mpr c26
                obtain rfl := Option.some.inj H
                have hnb55 := NB377_369.out
                have hnc55 := NB369_377.out
                have hcz56_0 : wc.cell? ⟨gb377, 0, none⟩ = some (.int .u8 t370) := (blk_cell BK377.out 0).trans rfl
                have hcz56_1 : wc.cell? ⟨gb377, 1, none⟩ = some (.string t371) := (blk_cell BK377.out 1).trans rfl
                have hcz56_2 : wc.cell? ⟨gb377, 2, none⟩ = some (.bool t372) := (blk_cell BK377.out 2).trans rfl
                have hcz56_3 : wc.cell? ⟨gb377, 3, none⟩ = some (.int .u8 t373) := (blk_cell BK377.out 3).trans rfl
                have hcz56_4 : wc.cell? ⟨gb377, 4, none⟩ = some (.int .i64 t374) := (blk_cell BK377.out 4).trans rfl
                have hcz56_5 : wc.cell? ⟨gb377, 5, none⟩ = some (.int .i64 t375) := (blk_cell BK377.out 5).trans rfl
                have hfz56_0 := blk_frozen BK377.out 0
                have hfz56_1 := blk_frozen BK377.out 1
                have hfz56_2 := blk_frozen BK377.out 2
                have hfz56_3 := blk_frozen BK377.out 3
                have hfz56_4 := blk_frozen BK377.out 4
                have hfz56_5 := blk_frozen BK377.out 5
                go_wp2_with (first | ((with_reducible refine gate_callee (f := 23) rfl ?_); refine goesL_ (some 106) rfl rfl Try.func23 (by kernel_rfl) rfl #[.int .u16 t380, .bool t372] rfl (by (try simp only [List.map_toArray, List.map_cons, List.map_nil]); first | done | rfl | (simp only [List.length_drop, List.length_take]; rfl)) ?_; (with_reducible refine (isa_Decode.calls kj9 t380 t372 t384 t385 t386 t387 t388 t389 t390 t391 _ A25.out).mono ?_); rintro e w57 ⟨rfl, hb⟩; refine ⟨_, rfl, ?_⟩; have n0_ := Aside0.mk (blk_below (g := gb369) (o := .cells #[.int .u8 t370, .string a2_1, .bool a2_2, .int .u8 a2_3, .int .i64 a2_4, .int .i64 a2_5] 28 (0, 0)) (by (with_reducible repeat (first | refine blk_drewN ?_ _ | refine blk_drew ?_ | refine blk_alloc ?_ _)); exact BK369.out) hb); have n1_ := Aside0.mk (blk_below (g := gb377) (o := .cells #[.int .u8 t370, .string t371, .bool t372, .int .u8 t373, .int .i64 t374, .int .i64 t375] 28 (0, 0)) (by (with_reducible repeat (first | refine blk_drewN ?_ _ | refine blk_drew ?_ | refine blk_alloc ?_ _)); exact BK377.out) hb); have n2_ := Aside0.mk (below_step (by repeat (first | (with_reducible first | exact HB.out | apply below_alloc | apply pw_below_drewN | apply below_drew1 | refine below_set ?_ GE369.out | refine below_set ?_ GE377.out) | exact HB.out)) hb); clear BK369; clear BK377; clear HB; have BK369 := n0_; have BK377 := n1_; have HB := n2_; clear n0_ n1_ n2_; (try clear hb); (try clear hb2); (try clear hk); (try clear hi)) | ((with_reducible refine gate_dst (N := 16) rfl ?_); refine box_event ?hg (N := 16) ?hd (cs := #[.int .u8 0, .string (⟨#[]⟩ : ByteArray), .bool false, .int .u8 0, .int .i64 0, .int .i64 0]) (t := 28) ?hr ?_; (case hd => rfl); (case hg => rfl); (case hr => first | (go_simp; done) | (go_simp; rfl)); intro gb392 hg w58 hbox hb; have n0_ := Aside0.mk (blk_below (g := gb369) (o := .cells #[.int .u8 t370, .string a2_1, .bool a2_2, .int .u8 a2_3, .int .i64 a2_4, .int .i64 a2_5] 28 (0, 0)) (by (with_reducible repeat (first | refine blk_drewN ?_ _ | refine blk_drew ?_ | refine blk_alloc ?_ _)); exact BK369.out) hb); have n1_ := Aside0.mk (blk_below (g := gb377) (o := .cells #[.int .u8 t370, .string t371, .bool t372, .int .u8 t373, .int .i64 t374, .int .i64 t375] 28 (0, 0)) (by (with_reducible repeat (first | refine blk_drewN ?_ _ | refine blk_drew ?_ | refine blk_alloc ?_ _)); exact BK377.out) hb); have n2_ := Aside0.mk (below_step (by repeat (first | (with_reducible first | exact HB.out | apply below_alloc | apply pw_below_drewN | apply below_drew1 | refine below_set ?_ GE369.out | refine below_set ?_ GE377.out) | exact HB.out)) hb); have n3_ := Aside0.mk (hbox); have n4_ := Aside0.mk ((by rw [hg]; exact (below_size (by repeat (first | (with_reducible first | exact HB.out | apply below_alloc | apply pw_below_drewN | apply below_drew1 | refine below_set ?_ GE369.out | refine below_set ?_ GE377.out) | exact HB.out))) : w.heap.size ≤ gb392)); have n5_ := Aside0.mk ((by rw [hg]; exact (below_size (by repeat (first | (with_reducible first | exact HB.out | apply below_alloc | apply pw_below_drewN | apply below_drew1 | refine below_set ?_ GE369.out | refine below_set ?_ GE377.out) | exact HB.out))) : w.heap.size ≤ gb392)); have n6_ := Aside0.mk ((by rw [hg]; exact Nat.ne_of_lt (blk_lt (g := gb369) (o := .cells #[.int .u8 t370, .string a2_1, .bool a2_2, .int .u8 a2_3, .int .i64 a2_4, .int .i64 a2_5] 28 (0, 0)) (by (with_reducible repeat (first | refine blk_drewN ?_ _ | refine blk_drew ?_ | refine blk_alloc ?_ _)); exact BK369.out)) : gb369 ≠ gb392)); have n7_ := Aside0.mk ((by rw [hg]; exact Nat.ne_of_gt (blk_lt (g := gb369) (o := .cells #[.int .u8 t370, .string a2_1, .bool a2_2, .int .u8 a2_3, .int .i64 a2_4, .int .i64 a2_5] 28 (0, 0)) (by (with_reducible repeat (first | refine blk_drewN ?_ _ | refine blk_drew ?_ | refine blk_alloc ?_ _)); exact BK369.out)) : gb392 ≠ gb369)); have n8_ := Aside0.mk ((by rw [hg]; exact Nat.ne_of_lt (blk_lt (g := gb377) (o := .cells #[.int .u8 t370, .string t371, .bool t372, .int .u8 t373, .int .i64 t374, .int .i64 t375] 28 (0, 0)) (by (with_reducible repeat (first | refine blk_drewN ?_ _ | refine blk_drew ?_ | refine blk_alloc ?_ _)); exact BK377.out)) : gb377 ≠ gb392)); have n9_ := Aside0.mk ((by rw [hg]; exact Nat.ne_of_gt (blk_lt (g := gb377) (o := .cells #[.int .u8 t370, .string t371, .bool t372, .int .u8 t373, .int .i64 t374, .int .i64 t375] 28 (0, 0)) (by (with_reducible repeat (first | refine blk_drewN ?_ _ | refine blk_drew ?_ | refine blk_alloc ?_ _)); exact BK377.out)) : gb392 ≠ gb377)); clear BK369; clear BK377; clear HB; have BK369 := n0_; have BK377 := n1_; have HB := n2_; have BK392 := n3_; have GW392 := n4_; have GE392 := n5_; have NB369_392 := n6_; have NB392_369 := n7_; have NB377_392 := n8_; have NB392_377 := n9_; clear n0_ n1_ n2_ n3_ n4_ n5_ n6_ n7_ n8_ n9_; clear hb hbox hg; have hnb59 := NB392_369.out; have hnc59 := NB369_392.out; have hnb60 := NB392_377.out; have hnc60 := NB377_392.out; have hcz61_0 : w58.cell? ⟨gb392, 0, none⟩ = some (.int .u8 0) := (blk_cell BK392.out 0).trans rfl; have hcz61_1 : w58.cell? ⟨gb392, 1, none⟩ = some (.string (⟨#[]⟩ : ByteArray)) := (blk_cell BK392.out 1).trans rfl; have hcz61_2 : w58.cell? ⟨gb392, 2, none⟩ = some (.bool false) := (blk_cell BK392.out 2).trans rfl; have hcz61_3 : w58.cell? ⟨gb392, 3, none⟩ = some (.int .u8 0) := (blk_cell BK392.out 3).trans rfl; have hcz61_4 : w58.cell? ⟨gb392, 4, none⟩ = some (.int .i64 0) := (blk_cell BK392.out 4).trans rfl; have hcz61_5 : w58.cell? ⟨gb392, 5, none⟩ = some (.int .i64 0) := (blk_cell BK392.out 5).trans rfl; have hfz61_0 := blk_frozen BK392.out 0; have hfz61_1 := blk_frozen BK392.out 1; have hfz61_2 := blk_frozen BK392.out 2; have hfz61_3 := blk_frozen BK392.out 3; have hfz61_4 := blk_frozen BK392.out 4; have hfz61_5 := blk_frozen BK392.out 5))
                go_ret
                exact ⟨by first | rfl | (simp [errW_none, errW_some] <;> rfl) | (simp [*, errW_none, errW_some] <;> rfl), by repeat (first | (with_reducible first | exact HB.out | apply below_alloc | apply pw_below_drewN | apply below_drew1 | refine below_set ?_ GE369.out | refine below_set ?_ GE377.out | refine below_set ?_ GE392.out) | exact HB.out)⟩
            · rw [if_neg c24] at H
              have c24b0 : (t381 == 0) = false := beq_eq_false_iff_ne.mpr c24
              have c24b1 : (t381 != 0) = true := bne_iff_ne.mpr c24
              by_cases c62 : t381 = 3
              · rw [if_pos c62] at H
                have c62b0 : (t381 == 3) = true := beq_iff_eq.mpr c62
                have c62b1 : (t381 != 3) = false := bne_eq_false_iff_eq.mpr c62
                clear c62
                by_cases c63 : t380 = 0
                · rw [if_pos c63] at H
                  have c63b0 : (t380 == 0) = true := beq_iff_eq.mpr c63
                  have c63b1 : (t380 != 0) = false := bne_eq_false_iff_eq.mpr c63
                  clear c63
                  by_cases c64 : t371.toList = ([84, 67] : List UInt8)
                  · rw [if_pos c64] at H
                    have c64b0 : (t371.toList == ([84, 67] : List UInt8)) = true := beq_iff_eq.mpr c64
                    have c64b1 : (t371.toList != ([84, 67] : List UInt8)) = false := bne_eq_false_iff_eq.mpr c64
                    clear c64
                    by_cases c65 : (wrap64 (t378 + (Int.tmod (wrap64 (a1)) (wrap64 ((wrap64 (t379 - t378)) + 1))))) = 3
                    · rw [if_pos c65] at H
                      have c65b0 : ((wrap64 (t378 + (Int.tmod (wrap64 (a1)) (wrap64 ((wrap64 (t379 - t378)) + 1))))) == 3) = true := beq_iff_eq.mpr c65
                      have c65b1 : ((wrap64 (t378 + (Int.tmod (wrap64 (a1)) (wrap64 ((wrap64 (t379 - t378)) + 1))))) != 3) = false := bne_eq_false_iff_eq.mpr c65
                      clear c65
                      replace H := Option.bind_eq_some_iff.mp H
                      obtain ⟨t394, A660, H⟩ := H
                      replace H : (some t394) = some r := H
                      have A66 := Aside0.mk A660
                      clear A660
                      obtain rfl := Option.some.inj H
                      have hnb67 := NB377_369.out
                      have hnc67 := NB369_377.out
                      have hcz68_0 : wc.cell? ⟨gb377, 0, none⟩ = some (.int .u8 t370) := (blk_cell BK377.out 0).trans rfl
                      have hcz68_1 : wc.cell? ⟨gb377, 1, none⟩ = some (.string t371) := (blk_cell BK377.out 1).trans rfl
                      have hcz68_2 : wc.cell? ⟨gb377, 2, none⟩ = some (.bool t372) := (blk_cell BK377.out 2).trans rfl
                      have hcz68_3 : wc.cell? ⟨gb377, 3, none⟩ = some (.int .u8 t373) := (blk_cell BK377.out 3).trans rfl
                      have hcz68_4 : wc.cell? ⟨gb377, 4, none⟩ = some (.int .i64 t374) := (blk_cell BK377.out 4).trans rfl
                      have hcz68_5 : wc.cell? ⟨gb377, 5, none⟩ = some (.int .i64 t375) := (blk_cell BK377.out 5).trans rfl
                      have hfz68_0 := blk_frozen BK377.out 0
                      have hfz68_1 := blk_frozen BK377.out 1
                      have hfz68_2 := blk_frozen BK377.out 2
                      have hfz68_3 := blk_frozen BK377.out 3
                      have hfz68_4 := blk_frozen BK377.out 4
                      have hfz68_5 := blk_frozen BK377.out 5
                      go_wp2_with (first | (go_at_call 20; (with_reducible refine (perilunelaw04_works.calls kj9  t394 _ A66.out).mono ?_); rintro e w69 ⟨rfl, hb⟩; have n0_ := Aside0.mk (blk_below (g := gb369) (o := .cells #[.int .u8 t370, .string a2_1, .bool a2_2, .int .u8 a2_3, .int .i64 a2_4, .int .i64 a2_5] 28 (0, 0)) (by (with_reducible repeat (first | refine blk_drewN ?_ _ | refine blk_drew ?_ | refine blk_alloc ?_ _)); exact BK369.out) hb); have n1_ := Aside0.mk (blk_below (g := gb377) (o := .cells #[.int .u8 t370, .string t371, .bool t372, .int .u8 t373, .int .i64 t374, .int .i64 t375] 28 (0, 0)) (by (with_reducible repeat (first | refine blk_drewN ?_ _ | refine blk_drew ?_ | refine blk_alloc ?_ _)); exact BK377.out) hb); have n2_ := Aside0.mk (below_step (by repeat (first | (with_reducible first | exact HB.out | apply below_alloc | apply pw_below_drewN | apply below_drew1 | refine below_set ?_ GE369.out | refine below_set ?_ GE377.out) | exact HB.out)) hb); clear BK369; clear BK377; clear HB; have BK369 := n0_; have BK377 := n1_; have HB := n2_; clear n0_ n1_ n2_; (try clear hb); (try clear hb2); (try clear hk); (try clear hi)))
                      go_ret
                      exact ⟨by first | rfl | (simp [errW_none, errW_some] <;> rfl) | (simp [*, errW_none, errW_some] <;> rfl), by repeat (first | (with_reducible first | exact HB.out | apply below_alloc | apply pw_below_drewN | apply below_drew1 | refine below_set ?_ GE369.out | refine below_set ?_ GE377.out) | exact HB.out)⟩
                    · rw [if_neg c65] at H
                      have c65b0 : ((wrap64 (t378 + (Int.tmod (wrap64 (a1)) (wrap64 ((wrap64 (t379 - t378)) + 1))))) == 3) = false := beq_eq_false_iff_ne.mpr c65
                      have c65b1 : ((wrap64 (t378 + (Int.tmod (wrap64 (a1)) (wrap64 ((wrap64 (t379 - t378)) + 1))))) != 3) = true := bne_iff_ne.mpr c65
                      by_cases c70 : (wrap64 (t378 + (Int.tmod (wrap64 (a1)) (wrap64 ((wrap64 (t379 - t378)) + 1))))) = 4
                      · rw [if_pos c70] at H
                        have c70b0 : ((wrap64 (t378 + (Int.tmod (wrap64 (a1)) (wrap64 ((wrap64 (t379 - t378)) + 1))))) == 4) = true := beq_iff_eq.mpr c70
                        have c70b1 : ((wrap64 (t378 + (Int.tmod (wrap64 (a1)) (wrap64 ((wrap64 (t379 - t378)) + 1))))) != 4) = false := bne_eq_false_iff_eq.mpr c70
                        clear c70
                        replace H := Option.bind_eq_some_iff.mp H
                        obtain ⟨t395, A710, H⟩ := H
                        replace H : (some t395) = some r := H
                        have A71 := Aside0.mk A710
                        clear A710
                        obtain rfl := Option.some.inj H
                        have hnb72 := NB377_369.out
                        have hnc72 := NB369_377.out
                        have hcz73_0 : wc.cell? ⟨gb377, 0, none⟩ = some (.int .u8 t370) := (blk_cell BK377.out 0).trans rfl
                        have hcz73_1 : wc.cell? ⟨gb377, 1, none⟩ = some (.string t371) := (blk_cell BK377.out 1).trans rfl
                        have hcz73_2 : wc.cell? ⟨gb377, 2, none⟩ = some (.bool t372) := (blk_cell BK377.out 2).trans rfl
                        have hcz73_3 : wc.cell? ⟨gb377, 3, none⟩ = some (.int .u8 t373) := (blk_cell BK377.out 3).trans rfl
                        have hcz73_4 : wc.cell? ⟨gb377, 4, none⟩ = some (.int .i64 t374) := (blk_cell BK377.out 4).trans rfl
                        have hcz73_5 : wc.cell? ⟨gb377, 5, none⟩ = some (.int .i64 t375) := (blk_cell BK377.out 5).trans rfl
                        have hfz73_0 := blk_frozen BK377.out 0
                        have hfz73_1 := blk_frozen BK377.out 1
                        have hfz73_2 := blk_frozen BK377.out 2
                        have hfz73_3 := blk_frozen BK377.out 3
                        have hfz73_4 := blk_frozen BK377.out 4
                        have hfz73_5 := blk_frozen BK377.out 5
                        go_wp2_with (first | (go_at_call 20; (with_reducible refine (perilunelaw04_works.calls kj9  t395 _ A71.out).mono ?_); rintro e w74 ⟨rfl, hb⟩; have n0_ := Aside0.mk (blk_below (g := gb369) (o := .cells #[.int .u8 t370, .string a2_1, .bool a2_2, .int .u8 a2_3, .int .i64 a2_4, .int .i64 a2_5] 28 (0, 0)) (by (with_reducible repeat (first | refine blk_drewN ?_ _ | refine blk_drew ?_ | refine blk_alloc ?_ _)); exact BK369.out) hb); have n1_ := Aside0.mk (blk_below (g := gb377) (o := .cells #[.int .u8 t370, .string t371, .bool t372, .int .u8 t373, .int .i64 t374, .int .i64 t375] 28 (0, 0)) (by (with_reducible repeat (first | refine blk_drewN ?_ _ | refine blk_drew ?_ | refine blk_alloc ?_ _)); exact BK377.out) hb); have n2_ := Aside0.mk (below_step (by repeat (first | (with_reducible first | exact HB.out | apply below_alloc | apply pw_below_drewN | apply below_drew1 | refine below_set ?_ GE369.out | refine below_set ?_ GE377.out) | exact HB.out)) hb); clear BK369; clear BK377; clear HB; have BK369 := n0_; have BK377 := n1_; have HB := n2_; clear n0_ n1_ n2_; (try clear hb); (try clear hb2); (try clear hk); (try clear hi)))
                        go_ret
                        exact ⟨by first | rfl | (simp [errW_none, errW_some] <;> rfl) | (simp [*, errW_none, errW_some] <;> rfl), by repeat (first | (with_reducible first | exact HB.out | apply below_alloc | apply pw_below_drewN | apply below_drew1 | refine below_set ?_ GE369.out | refine below_set ?_ GE377.out) | exact HB.out)⟩
                      · rw [if_neg c70] at H
                        have c70b0 : ((wrap64 (t378 + (Int.tmod (wrap64 (a1)) (wrap64 ((wrap64 (t379 - t378)) + 1))))) == 4) = false := beq_eq_false_iff_ne.mpr c70
                        have c70b1 : ((wrap64 (t378 + (Int.tmod (wrap64 (a1)) (wrap64 ((wrap64 (t379 - t378)) + 1))))) != 4) = true := bne_iff_ne.mpr c70
                        by_cases c75 : (wrap64 (t378 + (Int.tmod (wrap64 (a1)) (wrap64 ((wrap64 (t379 - t378)) + 1))))) = 6
                        · rw [if_pos c75] at H
                          have c75b0 : ((wrap64 (t378 + (Int.tmod (wrap64 (a1)) (wrap64 ((wrap64 (t379 - t378)) + 1))))) == 6) = true := beq_iff_eq.mpr c75
                          have c75b1 : ((wrap64 (t378 + (Int.tmod (wrap64 (a1)) (wrap64 ((wrap64 (t379 - t378)) + 1))))) != 6) = false := bne_eq_false_iff_eq.mpr c75
                          clear c75
                          replace H := Option.bind_eq_some_iff.mp H
                          obtain ⟨t396, A760, H⟩ := H
                          replace H : (some t396) = some r := H
                          have A76 := Aside0.mk A760
                          clear A760
                          obtain rfl := Option.some.inj H
                          have hnb77 := NB377_369.out
                          have hnc77 := NB369_377.out
                          have hcz78_0 : wc.cell? ⟨gb377, 0, none⟩ = some (.int .u8 t370) := (blk_cell BK377.out 0).trans rfl
                          have hcz78_1 : wc.cell? ⟨gb377, 1, none⟩ = some (.string t371) := (blk_cell BK377.out 1).trans rfl
                          have hcz78_2 : wc.cell? ⟨gb377, 2, none⟩ = some (.bool t372) := (blk_cell BK377.out 2).trans rfl
                          have hcz78_3 : wc.cell? ⟨gb377, 3, none⟩ = some (.int .u8 t373) := (blk_cell BK377.out 3).trans rfl
                          have hcz78_4 : wc.cell? ⟨gb377, 4, none⟩ = some (.int .i64 t374) := (blk_cell BK377.out 4).trans rfl
                          have hcz78_5 : wc.cell? ⟨gb377, 5, none⟩ = some (.int .i64 t375) := (blk_cell BK377.out 5).trans rfl
                          have hfz78_0 := blk_frozen BK377.out 0
                          have hfz78_1 := blk_frozen BK377.out 1
                          have hfz78_2 := blk_frozen BK377.out 2
                          have hfz78_3 := blk_frozen BK377.out 3
                          have hfz78_4 := blk_frozen BK377.out 4
                          have hfz78_5 := blk_frozen BK377.out 5
                          go_wp2_with (first | (go_at_call 20; (with_reducible refine (perilunelaw04_works.calls kj9  t396 _ A76.out).mono ?_); rintro e w79 ⟨rfl, hb⟩; have n0_ := Aside0.mk (blk_below (g := gb369) (o := .cells #[.int .u8 t370, .string a2_1, .bool a2_2, .int .u8 a2_3, .int .i64 a2_4, .int .i64 a2_5] 28 (0, 0)) (by (with_reducible repeat (first | refine blk_drewN ?_ _ | refine blk_drew ?_ | refine blk_alloc ?_ _)); exact BK369.out) hb); have n1_ := Aside0.mk (blk_below (g := gb377) (o := .cells #[.int .u8 t370, .string t371, .bool t372, .int .u8 t373, .int .i64 t374, .int .i64 t375] 28 (0, 0)) (by (with_reducible repeat (first | refine blk_drewN ?_ _ | refine blk_drew ?_ | refine blk_alloc ?_ _)); exact BK377.out) hb); have n2_ := Aside0.mk (below_step (by repeat (first | (with_reducible first | exact HB.out | apply below_alloc | apply pw_below_drewN | apply below_drew1 | refine below_set ?_ GE369.out | refine below_set ?_ GE377.out) | exact HB.out)) hb); clear BK369; clear BK377; clear HB; have BK369 := n0_; have BK377 := n1_; have HB := n2_; clear n0_ n1_ n2_; (try clear hb); (try clear hb2); (try clear hk); (try clear hi)))
                          go_ret
                          exact ⟨by first | rfl | (simp [errW_none, errW_some] <;> rfl) | (simp [*, errW_none, errW_some] <;> rfl), by repeat (first | (with_reducible first | exact HB.out | apply below_alloc | apply pw_below_drewN | apply below_drew1 | refine below_set ?_ GE369.out | refine below_set ?_ GE377.out) | exact HB.out)⟩
                        · rw [if_neg c75] at H
                          have c75b0 : ((wrap64 (t378 + (Int.tmod (wrap64 (a1)) (wrap64 ((wrap64 (t379 - t378)) + 1))))) == 6) = false := beq_eq_false_iff_ne.mpr c75
                          have c75b1 : ((wrap64 (t378 + (Int.tmod (wrap64 (a1)) (wrap64 ((wrap64 (t379 - t378)) + 1))))) != 6) = true := bne_iff_ne.mpr c75
                          by_cases c80 : t371.toList = ([73, 78, 68, 69, 88] : List UInt8)
                          · rw [if_pos c80] at H
                            have c80b0 : (t371.toList == ([73, 78, 68, 69, 88] : List UInt8)) = true := beq_iff_eq.mpr c80
                            have c80b1 : (t371.toList != ([73, 78, 68, 69, 88] : List UInt8)) = false := bne_eq_false_iff_eq.mpr c80
                            clear c80
                            by_cases c81 : (wrap64 (t378 + (Int.tmod (wrap64 (a1)) (wrap64 ((wrap64 (t379 - t378)) + 1))))) = 15
                            · rw [if_pos c81] at H
                              have c81b0 : ((wrap64 (t378 + (Int.tmod (wrap64 (a1)) (wrap64 ((wrap64 (t379 - t378)) + 1))))) == 15) = true := beq_iff_eq.mpr c81
                              have c81b1 : ((wrap64 (t378 + (Int.tmod (wrap64 (a1)) (wrap64 ((wrap64 (t379 - t378)) + 1))))) != 15) = false := bne_eq_false_iff_eq.mpr c81
                              clear c81
                              replace H := Option.bind_eq_some_iff.mp H
                              obtain ⟨t397, A820, H⟩ := H
                              replace H : (some t397) = some r := H
                              have A82 := Aside0.mk A820
                              clear A820
                              obtain rfl := Option.some.inj H
                              have hnb83 := NB377_369.out
                              have hnc83 := NB369_377.out
                              have hcz84_0 : wc.cell? ⟨gb377, 0, none⟩ = some (.int .u8 t370) := (blk_cell BK377.out 0).trans rfl
                              have hcz84_1 : wc.cell? ⟨gb377, 1, none⟩ = some (.string t371) := (blk_cell BK377.out 1).trans rfl
                              have hcz84_2 : wc.cell? ⟨gb377, 2, none⟩ = some (.bool t372) := (blk_cell BK377.out 2).trans rfl
                              have hcz84_3 : wc.cell? ⟨gb377, 3, none⟩ = some (.int .u8 t373) := (blk_cell BK377.out 3).trans rfl
                              have hcz84_4 : wc.cell? ⟨gb377, 4, none⟩ = some (.int .i64 t374) := (blk_cell BK377.out 4).trans rfl
                              have hcz84_5 : wc.cell? ⟨gb377, 5, none⟩ = some (.int .i64 t375) := (blk_cell BK377.out 5).trans rfl
                              have hfz84_0 := blk_frozen BK377.out 0
                              have hfz84_1 := blk_frozen BK377.out 1
                              have hfz84_2 := blk_frozen BK377.out 2
                              have hfz84_3 := blk_frozen BK377.out 3
                              have hfz84_4 := blk_frozen BK377.out 4
                              have hfz84_5 := blk_frozen BK377.out 5
                              go_wp2_with (first | (go_at_call 20; (with_reducible refine (perilunelaw04_works.calls kj9  t397 _ A82.out).mono ?_); rintro e w85 ⟨rfl, hb⟩; have n0_ := Aside0.mk (blk_below (g := gb369) (o := .cells #[.int .u8 t370, .string a2_1, .bool a2_2, .int .u8 a2_3, .int .i64 a2_4, .int .i64 a2_5] 28 (0, 0)) (by (with_reducible repeat (first | refine blk_drewN ?_ _ | refine blk_drew ?_ | refine blk_alloc ?_ _)); exact BK369.out) hb); have n1_ := Aside0.mk (blk_below (g := gb377) (o := .cells #[.int .u8 t370, .string t371, .bool t372, .int .u8 t373, .int .i64 t374, .int .i64 t375] 28 (0, 0)) (by (with_reducible repeat (first | refine blk_drewN ?_ _ | refine blk_drew ?_ | refine blk_alloc ?_ _)); exact BK377.out) hb); have n2_ := Aside0.mk (below_step (by repeat (first | (with_reducible first | exact HB.out | apply below_alloc | apply pw_below_drewN | apply below_drew1 | refine below_set ?_ GE369.out | refine below_set ?_ GE377.out) | exact HB.out)) hb); clear BK369; clear BK377; clear HB; have BK369 := n0_; have BK377 := n1_; have HB := n2_; clear n0_ n1_ n2_; (try clear hb); (try clear hb2); (try clear hk); (try clear hi)))
                              go_ret
                              exact ⟨by first | rfl | (simp [errW_none, errW_some] <;> rfl) | (simp [*, errW_none, errW_some] <;> rfl), by repeat (first | (with_reducible first | exact HB.out | apply below_alloc | apply pw_below_drewN | apply below_drew1 | refine below_set ?_ GE369.out | refine below_set ?_ GE377.out) | exact HB.out)⟩
                            · rw [if_neg c81] at H
                              have c81b0 : ((wrap64 (t378 + (Int.tmod (wrap64 (a1)) (wrap64 ((wrap64 (t379 - t378)) + 1))))) == 15) = false := beq_eq_false_iff_ne.mpr c81
                              have c81b1 : ((wrap64 (t378 + (Int.tmod (wrap64 (a1)) (wrap64 ((wrap64 (t379 - t378)) + 1))))) != 15) = true := bne_iff_ne.mpr c81
                              obtain rfl := Option.some.inj H
                              have hnb86 := NB377_369.out
                              have hnc86 := NB369_377.out
                              have hcz87_0 : wc.cell? ⟨gb377, 0, none⟩ = some (.int .u8 t370) := (blk_cell BK377.out 0).trans rfl
                              have hcz87_1 : wc.cell? ⟨gb377, 1, none⟩ = some (.string t371) := (blk_cell BK377.out 1).trans rfl
                              have hcz87_2 : wc.cell? ⟨gb377, 2, none⟩ = some (.bool t372) := (blk_cell BK377.out 2).trans rfl
                              have hcz87_3 : wc.cell? ⟨gb377, 3, none⟩ = some (.int .u8 t373) := (blk_cell BK377.out 3).trans rfl
                              have hcz87_4 : wc.cell? ⟨gb377, 4, none⟩ = some (.int .i64 t374) := (blk_cell BK377.out 4).trans rfl
                              have hcz87_5 : wc.cell? ⟨gb377, 5, none⟩ = some (.int .i64 t375) := (blk_cell BK377.out 5).trans rfl
                              have hfz87_0 := blk_frozen BK377.out 0
                              have hfz87_1 := blk_frozen BK377.out 1
                              have hfz87_2 := blk_frozen BK377.out 2
                              have hfz87_3 := blk_frozen BK377.out 3
                              have hfz87_4 := blk_frozen BK377.out 4
                              have hfz87_5 := blk_frozen BK377.out 5
                              go_wp2
                              go_ret
                              exact ⟨by first | rfl | (simp [errW_none, errW_some] <;> rfl) | (simp [*, errW_none, errW_some] <;> rfl), by repeat (first | (with_reducible first | exact HB.out | apply below_alloc | apply pw_below_drewN | apply below_drew1 | refine below_set ?_ GE369.out | refine below_set ?_ GE377.out) | exact HB.out)⟩
                          · rw [if_neg c80] at H
                            have c80b0 : (t371.toList == ([73, 78, 68, 69, 88] : List UInt8)) = false := beq_eq_false_iff_ne.mpr c80
                            have c80b1 : (t371.toList != ([73, 78, 68, 69, 88] : List UInt8)) = true := bne_iff_ne.mpr c80
                            obtain rfl := Option.some.inj H
                            have hnb88 := NB377_369.out
                            have hnc88 := NB369_377.out
                            have hcz89_0 : wc.cell? ⟨gb377, 0, none⟩ = some (.int .u8 t370) := (blk_cell BK377.out 0).trans rfl
                            have hcz89_1 : wc.cell? ⟨gb377, 1, none⟩ = some (.string t371) := (blk_cell BK377.out 1).trans rfl
                            have hcz89_2 : wc.cell? ⟨gb377, 2, none⟩ = some (.bool t372) := (blk_cell BK377.out 2).trans rfl
                            have hcz89_3 : wc.cell? ⟨gb377, 3, none⟩ = some (.int .u8 t373) := (blk_cell BK377.out 3).trans rfl
                            have hcz89_4 : wc.cell? ⟨gb377, 4, none⟩ = some (.int .i64 t374) := (blk_cell BK377.out 4).trans rfl
                            have hcz89_5 : wc.cell? ⟨gb377, 5, none⟩ = some (.int .i64 t375) := (blk_cell BK377.out 5).trans rfl
                            have hfz89_0 := blk_frozen BK377.out 0
                            have hfz89_1 := blk_frozen BK377.out 1
                            have hfz89_2 := blk_frozen BK377.out 2
                            have hfz89_3 := blk_frozen BK377.out 3
                            have hfz89_4 := blk_frozen BK377.out 4
                            have hfz89_5 := blk_frozen BK377.out 5
                            go_wp2
                            go_ret
                            exact ⟨by first | rfl | (simp [errW_none, errW_some] <;> rfl) | (simp [*, errW_none, errW_some] <;> rfl), by repeat (first | (with_reducible first | exact HB.out | apply below_alloc | apply pw_below_drewN | apply below_drew1 | refine below_set ?_ GE369.out | refine below_set ?_ GE377.out) | exact HB.out)⟩
                  · rw [if_neg c64] at H
                    have c64b0 : (t371.toList == ([84, 67] : List UInt8)) = false := beq_eq_false_iff_ne.mpr c64
                    have c64b1 : (t371.toList != ([84, 67] : List UInt8)) = true := bne_iff_ne.mpr c64
                    by_cases c90 : t371.toList = ([73, 78, 68, 69, 88] : List UInt8)
                    · rw [if_pos c90] at H
                      have c90b0 : (t371.toList == ([73, 78, 68, 69, 88] : List UInt8)) = true := beq_iff_eq.mpr c90
                      have c90b1 : (t371.toList != ([73, 78, 68, 69, 88] : List UInt8)) = false := bne_eq_false_iff_eq.mpr c90
                      clear c90
                      by_cases c91 : (wrap64 (t378 + (Int.tmod (wrap64 (a1)) (wrap64 ((wrap64 (t379 - t378)) + 1))))) = 15
                      · rw [if_pos c91] at H
                        have c91b0 : ((wrap64 (t378 + (Int.tmod (wrap64 (a1)) (wrap64 ((wrap64 (t379 - t378)) + 1))))) == 15) = true := beq_iff_eq.mpr c91
                        have c91b1 : ((wrap64 (t378 + (Int.tmod (wrap64 (a1)) (wrap64 ((wrap64 (t379 - t378)) + 1))))) != 15) = false := bne_eq_false_iff_eq.mpr c91
                        clear c91
                        replace H := Option.bind_eq_some_iff.mp H
                        obtain ⟨t398, A920, H⟩ := H
                        replace H : (some t398) = some r := H
                        have A92 := Aside0.mk A920
                        clear A920
                        obtain rfl := Option.some.inj H
                        have hnb93 := NB377_369.out
                        have hnc93 := NB369_377.out
                        have hcz94_0 : wc.cell? ⟨gb377, 0, none⟩ = some (.int .u8 t370) := (blk_cell BK377.out 0).trans rfl
                        have hcz94_1 : wc.cell? ⟨gb377, 1, none⟩ = some (.string t371) := (blk_cell BK377.out 1).trans rfl
                        have hcz94_2 : wc.cell? ⟨gb377, 2, none⟩ = some (.bool t372) := (blk_cell BK377.out 2).trans rfl
                        have hcz94_3 : wc.cell? ⟨gb377, 3, none⟩ = some (.int .u8 t373) := (blk_cell BK377.out 3).trans rfl
                        have hcz94_4 : wc.cell? ⟨gb377, 4, none⟩ = some (.int .i64 t374) := (blk_cell BK377.out 4).trans rfl
                        have hcz94_5 : wc.cell? ⟨gb377, 5, none⟩ = some (.int .i64 t375) := (blk_cell BK377.out 5).trans rfl
                        have hfz94_0 := blk_frozen BK377.out 0
                        have hfz94_1 := blk_frozen BK377.out 1
                        have hfz94_2 := blk_frozen BK377.out 2
                        have hfz94_3 := blk_frozen BK377.out 3
                        have hfz94_4 := blk_frozen BK377.out 4
                        have hfz94_5 := blk_frozen BK377.out 5
                        go_wp2_with (first | (go_at_call 20; (with_reducible refine (perilunelaw04_works.calls kj9  t398 _ A92.out).mono ?_); rintro e w95 ⟨rfl, hb⟩; have n0_ := Aside0.mk (blk_below (g := gb369) (o := .cells #[.int .u8 t370, .string a2_1, .bool a2_2, .int .u8 a2_3, .int .i64 a2_4, .int .i64 a2_5] 28 (0, 0)) (by (with_reducible repeat (first | refine blk_drewN ?_ _ | refine blk_drew ?_ | refine blk_alloc ?_ _)); exact BK369.out) hb); have n1_ := Aside0.mk (blk_below (g := gb377) (o := .cells #[.int .u8 t370, .string t371, .bool t372, .int .u8 t373, .int .i64 t374, .int .i64 t375] 28 (0, 0)) (by (with_reducible repeat (first | refine blk_drewN ?_ _ | refine blk_drew ?_ | refine blk_alloc ?_ _)); exact BK377.out) hb); have n2_ := Aside0.mk (below_step (by repeat (first | (with_reducible first | exact HB.out | apply below_alloc | apply pw_below_drewN | apply below_drew1 | refine below_set ?_ GE369.out | refine below_set ?_ GE377.out) | exact HB.out)) hb); clear BK369; clear BK377; clear HB; have BK369 := n0_; have BK377 := n1_; have HB := n2_; clear n0_ n1_ n2_; (try clear hb); (try clear hb2); (try clear hk); (try clear hi)))
                        go_ret
                        exact ⟨by first | rfl | (simp [errW_none, errW_some] <;> rfl) | (simp [*, errW_none, errW_some] <;> rfl), by repeat (first | (with_reducible first | exact HB.out | apply below_alloc | apply pw_below_drewN | apply below_drew1 | refine below_set ?_ GE369.out | refine below_set ?_ GE377.out) | exact HB.out)⟩
                      · rw [if_neg c91] at H
                        have c91b0 : ((wrap64 (t378 + (Int.tmod (wrap64 (a1)) (wrap64 ((wrap64 (t379 - t378)) + 1))))) == 15) = false := beq_eq_false_iff_ne.mpr c91
                        have c91b1 : ((wrap64 (t378 + (Int.tmod (wrap64 (a1)) (wrap64 ((wrap64 (t379 - t378)) + 1))))) != 15) = true := bne_iff_ne.mpr c91
                        obtain rfl := Option.some.inj H
                        have hnb96 := NB377_369.out
                        have hnc96 := NB369_377.out
                        have hcz97_0 : wc.cell? ⟨gb377, 0, none⟩ = some (.int .u8 t370) := (blk_cell BK377.out 0).trans rfl
                        have hcz97_1 : wc.cell? ⟨gb377, 1, none⟩ = some (.string t371) := (blk_cell BK377.out 1).trans rfl
                        have hcz97_2 : wc.cell? ⟨gb377, 2, none⟩ = some (.bool t372) := (blk_cell BK377.out 2).trans rfl
                        have hcz97_3 : wc.cell? ⟨gb377, 3, none⟩ = some (.int .u8 t373) := (blk_cell BK377.out 3).trans rfl
                        have hcz97_4 : wc.cell? ⟨gb377, 4, none⟩ = some (.int .i64 t374) := (blk_cell BK377.out 4).trans rfl
                        have hcz97_5 : wc.cell? ⟨gb377, 5, none⟩ = some (.int .i64 t375) := (blk_cell BK377.out 5).trans rfl
                        have hfz97_0 := blk_frozen BK377.out 0
                        have hfz97_1 := blk_frozen BK377.out 1
                        have hfz97_2 := blk_frozen BK377.out 2
                        have hfz97_3 := blk_frozen BK377.out 3
                        have hfz97_4 := blk_frozen BK377.out 4
                        have hfz97_5 := blk_frozen BK377.out 5
                        go_wp2
                        go_ret
                        exact ⟨by first | rfl | (simp [errW_none, errW_some] <;> rfl) | (simp [*, errW_none, errW_some] <;> rfl), by repeat (first | (with_reducible first | exact HB.out | apply below_alloc | apply pw_below_drewN | apply below_drew1 | refine below_set ?_ GE369.out | refine below_set ?_ GE377.out) | exact HB.out)⟩
                    · rw [if_neg c90] at H
                      have c90b0 : (t371.toList == ([73, 78, 68, 69, 88] : List UInt8)) = false := beq_eq_false_iff_ne.mpr c90
                      have c90b1 : (t371.toList != ([73, 78, 68, 69, 88] : List UInt8)) = true := bne_iff_ne.mpr c90
                      obtain rfl := Option.some.inj H
                      have hnb98 := NB377_369.out
                      have hnc98 := NB369_377.out
                      have hcz99_0 : wc.cell? ⟨gb377, 0, none⟩ = some (.int .u8 t370) := (blk_cell BK377.out 0).trans rfl
                      have hcz99_1 : wc.cell? ⟨gb377, 1, none⟩ = some (.string t371) := (blk_cell BK377.out 1).trans rfl
                      have hcz99_2 : wc.cell? ⟨gb377, 2, none⟩ = some (.bool t372) := (blk_cell BK377.out 2).trans rfl
                      have hcz99_3 : wc.cell? ⟨gb377, 3, none⟩ = some (.int .u8 t373) := (blk_cell BK377.out 3).trans rfl
                      have hcz99_4 : wc.cell? ⟨gb377, 4, none⟩ = some (.int .i64 t374) := (blk_cell BK377.out 4).trans rfl
                      have hcz99_5 : wc.cell? ⟨gb377, 5, none⟩ = some (.int .i64 t375) := (blk_cell BK377.out 5).trans rfl
                      have hfz99_0 := blk_frozen BK377.out 0
                      have hfz99_1 := blk_frozen BK377.out 1
                      have hfz99_2 := blk_frozen BK377.out 2
                      have hfz99_3 := blk_frozen BK377.out 3
                      have hfz99_4 := blk_frozen BK377.out 4
                      have hfz99_5 := blk_frozen BK377.out 5
                      go_wp2
                      go_ret
                      exact ⟨by first | rfl | (simp [errW_none, errW_some] <;> rfl) | (simp [*, errW_none, errW_some] <;> rfl), by repeat (first | (with_reducible first | exact HB.out | apply below_alloc | apply pw_below_drewN | apply below_drew1 | refine below_set ?_ GE369.out | refine below_set ?_ GE377.out) | exact HB.out)⟩
                · rw [if_neg c63] at H
                  have c63b0 : (t380 == 0) = false := beq_eq_false_iff_ne.mpr c63
                  have c63b1 : (t380 != 0) = true := bne_iff_ne.mpr c63
                  obtain rfl := Option.some.inj H
                  go_wp2
                  go_ret
                  exact ⟨by first | rfl | (simp [errW_none, errW_some] <;> rfl) | (simp [*, errW_none, errW_some] <;> rfl), by repeat (first | (with_reducible first | exact HB.out | apply below_alloc | apply pw_below_drewN | apply below_drew1 | refine below_set ?_ GE369.out | refine below_set ?_ GE377.out) | exact HB.out)⟩
              · rw [if_neg c62] at H
                have c62b0 : (t381 == 3) = false := beq_eq_false_iff_ne.mpr c62
                have c62b1 : (t381 != 3) = true := bne_iff_ne.mpr c62
                obtain rfl := Option.some.inj H
                go_wp2
                go_ret
                exact ⟨by first | rfl | (simp [errW_none, errW_some] <;> rfl) | (simp [*, errW_none, errW_some] <;> rfl), by repeat (first | (with_reducible first | exact HB.out | apply below_alloc | apply pw_below_drewN | apply below_drew1 | refine below_set ?_ GE369.out | refine below_set ?_ GE377.out) | exact HB.out)⟩
  · rw [if_neg c5] at H
    have c5b0 : (t376 == 0) = false := beq_eq_false_iff_ne.mpr c5
    have c5b1 : (t376 != 0) = true := bne_iff_ne.mpr c5
    obtain rfl := Option.some.inj H
    go_enter Try.func7, Try.ntmps7
    go_wp2_with (first | ((with_reducible refine gate_dst (N := 5) rfl ?_); refine box_event ?hg (N := 5) ?hd (cs := #[.int .u8 a2_0, .string a2_1, .bool a2_2, .int .u8 a2_3, .int .i64 a2_4, .int .i64 a2_5]) (t := 28) ?hr ?_; (case hd => rfl); (case hg => rfl); (case hr => first | (go_simp; done) | (go_simp; rfl)); intro gb369 hg w100 hbox hb; have n0_ := Aside0.mk (below_step (by repeat (first | (with_reducible first | exact HB.out | apply below_alloc | apply pw_below_drewN | apply below_drew1) | exact HB.out)) hb); have n1_ := Aside0.mk (hbox); have n2_ := Aside0.mk ((by rw [hg]; exact (below_size (by repeat (first | (with_reducible first | exact HB.out | apply below_alloc | apply pw_below_drewN | apply below_drew1) | exact HB.out))) : w.heap.size ≤ gb369)); have n3_ := Aside0.mk ((by rw [hg]; exact (below_size (by repeat (first | (with_reducible first | exact HB.out | apply below_alloc | apply pw_below_drewN | apply below_drew1) | exact HB.out))) : w.heap.size ≤ gb369)); clear HB; have HB := n0_; have BK369 := n1_; have GW369 := n2_; have GE369 := n3_; clear n0_ n1_ n2_ n3_; clear hb hbox hg) | ((with_reducible refine gate_callee (f := 16) rfl ?_); refine goesL_ (some 23) rfl rfl Try.func16 (by kernel_rfl) rfl #[.int .u8 (((Int.tmod a0 39) + 1) % 256)] rfl (by (try simp only [List.map_toArray, List.map_cons, List.map_nil]); first | done | rfl | (simp only [List.length_drop, List.length_take]; rfl)) ?_; (with_reducible refine (isa_Of.calls (((Int.tmod a0 39) + 1) % 256) t370 t371 t372 t373 t374 t375 t376 _ A4.out).mono ?_); rintro e w101 ⟨rfl, hb⟩; refine ⟨_, rfl, ?_⟩; have n0_ := Aside0.mk (blk_below (g := gb369) (o := .cells #[.int .u8 a2_0, .string a2_1, .bool a2_2, .int .u8 a2_3, .int .i64 a2_4, .int .i64 a2_5] 28 (0, 0)) (by (with_reducible repeat (first | refine blk_drewN ?_ _ | refine blk_drew ?_ | refine blk_alloc ?_ _)); exact BK369.out) hb); have n1_ := Aside0.mk (below_step (by repeat (first | (with_reducible first | exact HB.out | apply below_alloc | apply pw_below_drewN | apply below_drew1 | refine below_set ?_ GE369.out) | exact HB.out)) hb); clear BK369; clear HB; have BK369 := n0_; have HB := n1_; clear n0_ n1_; (try clear hb); (try clear hb2); (try clear hk); (try clear hi)) | ((with_reducible refine gate_dst (N := 7) rfl ?_); refine box_event ?hg (N := 7) ?hd (cs := #[.int .u8 0, .string (⟨#[]⟩ : ByteArray), .bool false, .int .u8 0, .int .i64 0, .int .i64 0]) (t := 28) ?hr ?_; (case hd => rfl); (case hg => rfl); (case hr => first | (go_simp; done) | (go_simp; rfl)); intro gb377 hg w102 hbox hb; have n0_ := Aside0.mk (blk_below (g := gb369) (o := .cells #[.int .u8 a2_0, .string a2_1, .bool a2_2, .int .u8 a2_3, .int .i64 a2_4, .int .i64 a2_5] 28 (0, 0)) (by (with_reducible repeat (first | refine blk_drewN ?_ _ | refine blk_drew ?_ | refine blk_alloc ?_ _)); exact BK369.out) hb); have n1_ := Aside0.mk (below_step (by repeat (first | (with_reducible first | exact HB.out | apply below_alloc | apply pw_below_drewN | apply below_drew1 | refine below_set ?_ GE369.out) | exact HB.out)) hb); have n2_ := Aside0.mk (hbox); have n3_ := Aside0.mk ((by rw [hg]; exact (below_size (by repeat (first | (with_reducible first | exact HB.out | apply below_alloc | apply pw_below_drewN | apply below_drew1 | refine below_set ?_ GE369.out) | exact HB.out))) : w.heap.size ≤ gb377)); have n4_ := Aside0.mk ((by rw [hg]; exact (below_size (by repeat (first | (with_reducible first | exact HB.out | apply below_alloc | apply pw_below_drewN | apply below_drew1 | refine below_set ?_ GE369.out) | exact HB.out))) : w.heap.size ≤ gb377)); have n5_ := Aside0.mk ((by rw [hg]; exact Nat.ne_of_lt (blk_lt (g := gb369) (o := .cells #[.int .u8 a2_0, .string a2_1, .bool a2_2, .int .u8 a2_3, .int .i64 a2_4, .int .i64 a2_5] 28 (0, 0)) (by (with_reducible repeat (first | refine blk_drewN ?_ _ | refine blk_drew ?_ | refine blk_alloc ?_ _)); exact BK369.out)) : gb369 ≠ gb377)); have n6_ := Aside0.mk ((by rw [hg]; exact Nat.ne_of_gt (blk_lt (g := gb369) (o := .cells #[.int .u8 a2_0, .string a2_1, .bool a2_2, .int .u8 a2_3, .int .i64 a2_4, .int .i64 a2_5] 28 (0, 0)) (by (with_reducible repeat (first | refine blk_drewN ?_ _ | refine blk_drew ?_ | refine blk_alloc ?_ _)); exact BK369.out)) : gb377 ≠ gb369)); clear BK369; clear HB; have BK369 := n0_; have HB := n1_; have BK377 := n2_; have GW377 := n3_; have GE377 := n4_; have NB369_377 := n5_; have NB377_369 := n6_; clear n0_ n1_ n2_ n3_ n4_ n5_ n6_; clear hb hbox hg; have hnb103 := NB377_369.out; have hnc103 := NB369_377.out; have hcz104_0 : w102.cell? ⟨gb377, 0, none⟩ = some (.int .u8 0) := (blk_cell BK377.out 0).trans rfl; have hcz104_1 : w102.cell? ⟨gb377, 1, none⟩ = some (.string (⟨#[]⟩ : ByteArray)) := (blk_cell BK377.out 1).trans rfl; have hcz104_2 : w102.cell? ⟨gb377, 2, none⟩ = some (.bool false) := (blk_cell BK377.out 2).trans rfl; have hcz104_3 : w102.cell? ⟨gb377, 3, none⟩ = some (.int .u8 0) := (blk_cell BK377.out 3).trans rfl; have hcz104_4 : w102.cell? ⟨gb377, 4, none⟩ = some (.int .i64 0) := (blk_cell BK377.out 4).trans rfl; have hcz104_5 : w102.cell? ⟨gb377, 5, none⟩ = some (.int .i64 0) := (blk_cell BK377.out 5).trans rfl; have hfz104_0 := blk_frozen BK377.out 0; have hfz104_1 := blk_frozen BK377.out 1; have hfz104_2 := blk_frozen BK377.out 2; have hfz104_3 := blk_frozen BK377.out 3; have hfz104_4 := blk_frozen BK377.out 4; have hfz104_5 := blk_frozen BK377.out 5))
    go_ret
    exact ⟨by first | rfl | (simp [errW_none, errW_some] <;> rfl) | (simp [*, errW_none, errW_some] <;> rfl), by repeat (first | (with_reducible first | exact HB.out | apply below_alloc | apply pw_below_drewN | apply below_drew1 | refine below_set ?_ GE369.out | refine below_set ?_ GE377.out) | exact HB.out)⟩

-- NOT PRINTED: function 8 (perilunelaw04_IsaDiffers)

-- NOT PRINTED: function 9 (perilunelaw04_IsaCounts)

-- NOT PRINTED: function 10 (perilunelaw04_IsaKnown)

end Go.Proofs.Ytgaajaddaecejaa.PAll
