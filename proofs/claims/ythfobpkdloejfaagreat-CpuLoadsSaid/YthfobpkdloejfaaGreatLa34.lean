/- Chapter 5: a part of its proof (cut by program out of FY); no condition. -/
import Derived.Test.YthfobpkdloejfaaGreatLa33
set_option linter.unusedVariables false
set_option linter.unusedSimpArgs false
set_option linter.unusedSectionVars false
set_option maxRecDepth 100000
set_option maxHeartbeats 8000000
section
namespace Go.Proofs.YthfobpkdloejfaaGreat.PAll
open Go.RowKit Go.Proofs.YthfobpkdloejfaaGreatW.PrintWords Go.Proofs.YthfobpkdloejfaaGreatW.PrintLast Go.Proofs.YthfobpkdloejfaaGreatW.PrintMore
mutual
def isa_Encode.j0 : Nat → Int → Bool → ByteArray → Int → Int → Int → Option (Int × Int)
 | 0, _, _, _, _, _, _ => none
 | k + 1, x1, x30, x353000, x353001, x353002, x353003 => if x30 = true then (some (0, 3)) else (if x353000.toList = ([84, 67] : List UInt8) then (if x1 = 3 then (isa_Encode.j1 k x1 true x353000 x353001 x353002 x353003) else (if x1 = 4 then (isa_Encode.j1 k x1 true x353000 x353001 x353002 x353003) else (isa_Encode.j1 k x1 (x1 == 6) x353000 x353001 x353002 x353003))) else (isa_Encode.j1 k x1 false x353000 x353001 x353002 x353003))
def isa_Encode.j1 : Nat → Int → Bool → ByteArray → Int → Int → Int → Option (Int × Int)
 | 0, _, _, _, _, _, _ => none
 | k + 1, x1, x31, x353000, x353001, x353002, x353003 => if x31 = true then (some (0, 3)) else (if x353000.toList = ([73, 78, 68, 69, 88] : List UInt8) then (if x1 = 15 then (some (0, 3)) else (some (IntKind.u16.wrap (wrap64 (x353002 + x1)), 0))) else (some (IntKind.u16.wrap (wrap64 (x353002 + x1)), 0)))
end
def isa_Encode.f (k : Nat) (a0_0 : Int) (a0_1 : ByteArray) (a0_2 : Bool) (a0_3 : Int) (a0_4 : Int) (a0_5 : Int) (a1 : Int) : Option (Int × Int) := (isa_valid.f a0_0).bind fun t347 => (if t347 = true then ((isa_row.f a0_0).bind fun bt348 => ((isa_Range.f 0 (⟨#[]⟩ : ByteArray) false bt348.2.1 0 0).bind fun bt353 => (if a1 < bt353.1 then (isa_Encode.j0 k a1 true bt348.1 bt348.2.1 bt348.2.2.1 bt348.2.2.2) else (isa_Encode.j0 k a1 (decide (a1 > bt353.2)) bt348.1 bt348.2.1 bt348.2.2.1 bt348.2.2.2)))) else (some (0, 7)))
theorem isa_Encode.calls (k : Nat) (a0_0 : Int) (a0_1 : ByteArray) (a0_2 : Bool) (a0_3 : Int) (a0_4 : Int) (a0_5 : Int) (a1 : Int) (r1 : Int) (r2 : Int) (w : World) (h : isa_Encode.f k a0_0 a0_1 a0_2 a0_3 a0_4 a0_5 a1 = some (r1, r2)) :
 Calls Tryz.prog 66 #[.agg #[.int .u8 a0_0, .string a0_1, .bool a0_2, .int .u8 a0_3, .int .i64 a0_4, .int .i64 a0_5], .int .i64 a1] w fun e w' => e = .returned (.tuple #[.int .u16 r1, .int .i64 r2]) ∧ Below w.heap.size w w' := by
 have hu41 := Tryz.underlying41
 have hu125 := Tryz.underlying125
 have HB := Aside0.mk (Below.refl w.heap.size w)
 have H : ((isa_valid.f a0_0).bind fun t347 => (if t347 = true then ((isa_row.f a0_0).bind fun bt348 => ((isa_Range.f 0 (⟨#[]⟩ : ByteArray) false bt348.2.1 0 0).bind fun bt353 => (if a1 < bt353.1 then (isa_Encode.j0 k a1 true bt348.1 bt348.2.1 bt348.2.2.1 bt348.2.2.2) else (isa_Encode.j0 k a1 (decide (a1 > bt353.2)) bt348.1 bt348.2.1 bt348.2.2.1 bt348.2.2.2)))) else (some (0, 7)))) = some (r1, r2) := h
 clear h
 replace H := Option.bind_eq_some_iff.mp H
 obtain ⟨t347, A30, H⟩ := H
 replace H : (if t347 = true then ((isa_row.f a0_0).bind fun bt348 => ((isa_Range.f 0 (⟨#[]⟩ : ByteArray) false bt348.2.1 0 0).bind fun bt353 => (if a1 < bt353.1 then (isa_Encode.j0 k a1 true bt348.1 bt348.2.1 bt348.2.2.1 bt348.2.2.2) else (isa_Encode.j0 k a1 (decide (a1 > bt353.2)) bt348.1 bt348.2.1 bt348.2.2.1 bt348.2.2.2)))) else (some (0, 7))) = some (r1, r2) := H
 have A3 := Aside0.mk A30
 clear A30
 by_cases c4 : t347 = true
 · subst c4
   have H1 : ((isa_row.f a0_0).bind fun bt348 => ((isa_Range.f 0 (⟨#[]⟩ : ByteArray) false bt348.2.1 0 0).bind fun bt353 => (if a1 < bt353.1 then (isa_Encode.j0 k a1 true bt348.1 bt348.2.1 bt348.2.2.1 bt348.2.2.2) else (isa_Encode.j0 k a1 (decide (a1 > bt353.2)) bt348.1 bt348.2.1 bt348.2.2.1 bt348.2.2.2)))) = some (r1, r2) := by rw [if_pos rfl] at H; exact H
   clear H
   have H := H1
   clear H1
   replace H := Option.bind_eq_some_iff.mp H
   obtain ⟨⟨t348, t349, t350, t351⟩, A50, H⟩ := H
   replace H : ((isa_Range.f 0 (⟨#[]⟩ : ByteArray) false t349 0 0).bind fun bt353 => (if a1 < bt353.1 then (isa_Encode.j0 k a1 true t348 t349 t350 t351) else (isa_Encode.j0 k a1 (decide (a1 > bt353.2)) t348 t349 t350 t351))) = some (r1, r2) := H
   have A5 := Aside0.mk A50
   clear A50
   replace H := Option.bind_eq_some_iff.mp H
   obtain ⟨⟨t353, t354⟩, A60, H⟩ := H
   replace H : (if a1 < t353 then (isa_Encode.j0 k a1 true t348 t349 t350 t351) else (isa_Encode.j0 k a1 (decide (a1 > t354)) t348 t349 t350 t351)) = some (r1, r2) := H
   have A6 := Aside0.mk A60
   clear A60
   have HC7 := Aside0.mk H
   clear H
   go_enter Tryz.func66, Tryz.ntmps66
   go_upto_region 5 with (first | ((with_reducible refine gate_dst (N := 2) rfl ?_); refine box_event ?hg (N := 2) ?hd (cs := #[.int .u8 a0_0, .string a0_1, .bool a0_2, .int .u8 a0_3, .int .i64 a0_4, .int .i64 a0_5]) (t := 41) ?hr ?_; (case hd => rfl); (case hg => rfl); (case hr => first | (go_simp; done) | (go_simp; rfl)); intro gb346 hg w8 hbox hb; have n0_ := Aside0.mk (below_step (by repeat (first | (with_reducible first | exact HB.out | apply below_alloc | apply pw_below_drewN | apply below_drew1) | exact HB.out)) hb); have n1_ := Aside0.mk (hbox); have n2_ := Aside0.mk ((by rw [hg]; exact (below_size (by repeat (first | (with_reducible first | exact HB.out | apply below_alloc | apply pw_below_drewN | apply below_drew1) | exact HB.out))) : w.heap.size ≤ gb346)); have n3_ := Aside0.mk ((by rw [hg]; exact (below_size (by repeat (first | (with_reducible first | exact HB.out | apply below_alloc | apply pw_below_drewN | apply below_drew1) | exact HB.out))) : w.heap.size ≤ gb346)); clear HB; have HB := n0_; have BK346 := n1_; have GW346 := n2_; have GE346 := n3_; clear n0_ n1_ n2_ n3_; clear hb hbox hg; have hcz9_0 : w8.cell? ⟨gb346, 0, none⟩ = some (.int .u8 a0_0) := (blk_cell BK346.out 0).trans rfl; have hcz9_1 : w8.cell? ⟨gb346, 1, none⟩ = some (.string a0_1) := (blk_cell BK346.out 1).trans rfl; have hcz9_2 : w8.cell? ⟨gb346, 2, none⟩ = some (.bool a0_2) := (blk_cell BK346.out 2).trans rfl; have hcz9_3 : w8.cell? ⟨gb346, 3, none⟩ = some (.int .u8 a0_3) := (blk_cell BK346.out 3).trans rfl; have hcz9_4 : w8.cell? ⟨gb346, 4, none⟩ = some (.int .i64 a0_4) := (blk_cell BK346.out 4).trans rfl; have hcz9_5 : w8.cell? ⟨gb346, 5, none⟩ = some (.int .i64 a0_5) := (blk_cell BK346.out 5).trans rfl; have hfz9_0 := blk_frozen BK346.out 0; have hfz9_1 := blk_frozen BK346.out 1; have hfz9_2 := blk_frozen BK346.out 2; have hfz9_3 := blk_frozen BK346.out 3; have hfz9_4 := blk_frozen BK346.out 4; have hfz9_5 := blk_frozen BK346.out 5) | ((with_reducible refine gate_callee (f := 150) rfl ?_); refine goesL_ (some 11) rfl rfl Tryz.func150 (by kernel_rfl) rfl #[.int .u8 a0_0] rfl (by (try simp only [List.map_toArray, List.map_cons, List.map_nil]); first | done | rfl | (simp only [List.length_drop, List.length_take]; rfl)) ?_; (with_reducible refine (isa_valid.calls a0_0 true _ A3.out).mono ?_); rintro e w' ⟨rfl, ⟨nd, rfl⟩⟩; refine ⟨_, rfl, ?_⟩; (try (rw [drewN_self w8]; generalize hq_ : World.drewN w8 _ = w8; have n0_ : Aside0 (w8.heap[gb346]? = some (.cells #[.int .u8 a0_0, .string a0_1, .bool a0_2, .int .u8 a0_3, .int .i64 a0_4, .int .i64 a0_5] 41 (0, 0))) := ⟨by rw [← hq_]; exact (by (with_reducible repeat (first | refine blk_drewN ?_ _ | refine blk_drew ?_ | refine blk_alloc ?_ _)); exact BK346.out)⟩; have n1_ : Aside0 (Below w.heap.size w w8) := ⟨by rw [← hq_]; exact (by repeat (first | (with_reducible first | exact HB.out | apply below_alloc | apply pw_below_drewN | apply below_drew1 | refine below_set ?_ GE346.out) | exact HB.out))⟩; clear BK346 HB hq_; have BK346 := n0_; have HB := n1_; clear n0_ n1_; have hcr346_0 : w8.cell? ⟨gb346, 0, none⟩ = some (.int .u8 a0_0) := (blk_cell BK346.out 0).trans rfl; have hfr346_0 := blk_frozen BK346.out 0; have hcr346_1 : w8.cell? ⟨gb346, 1, none⟩ = some (.string a0_1) := (blk_cell BK346.out 1).trans rfl; have hfr346_1 := blk_frozen BK346.out 1; have hcr346_2 : w8.cell? ⟨gb346, 2, none⟩ = some (.bool a0_2) := (blk_cell BK346.out 2).trans rfl; have hfr346_2 := blk_frozen BK346.out 2; have hcr346_3 : w8.cell? ⟨gb346, 3, none⟩ = some (.int .u8 a0_3) := (blk_cell BK346.out 3).trans rfl; have hfr346_3 := blk_frozen BK346.out 3; have hcr346_4 : w8.cell? ⟨gb346, 4, none⟩ = some (.int .i64 a0_4) := (blk_cell BK346.out 4).trans rfl; have hfr346_4 := blk_frozen BK346.out 4; have hcr346_5 : w8.cell? ⟨gb346, 5, none⟩ = some (.int .i64 a0_5) := (blk_cell BK346.out 5).trans rfl; have hfr346_5 := blk_frozen BK346.out 5))) | ((with_reducible refine gate_callee (f := 79) rfl ?_); refine goesL_ (some 15) rfl rfl Tryz.func79 (by kernel_rfl) rfl #[.int .u8 a0_0] rfl (by (try simp only [List.map_toArray, List.map_cons, List.map_nil]); first | done | rfl | (simp only [List.length_drop, List.length_take]; rfl)) ?_; (with_reducible refine (isa_row.calls a0_0 t348 t349 t350 t351 _ A5.out).mono ?_); rintro e w10 ⟨rfl, hb⟩; refine ⟨_, rfl, ?_⟩; have n0_ := Aside0.mk (blk_below (g := gb346) (o := .cells #[.int .u8 a0_0, .string a0_1, .bool a0_2, .int .u8 a0_3, .int .i64 a0_4, .int .i64 a0_5] 41 (0, 0)) (by (with_reducible repeat (first | refine blk_drewN ?_ _ | refine blk_drew ?_ | refine blk_alloc ?_ _)); exact BK346.out) hb); have n1_ := Aside0.mk (below_step (by repeat (first | (with_reducible first | exact HB.out | apply below_alloc | apply pw_below_drewN | apply below_drew1 | refine below_set ?_ GE346.out) | exact HB.out)) hb); clear BK346; clear HB; have BK346 := n0_; have HB := n1_; clear n0_ n1_; (try clear hb); (try clear hb2); (try clear hk); (try clear hi)) | ((with_reducible refine gate_dst (N := 6) rfl ?_); refine box_event ?hg (N := 6) ?hd (cs := #[.string (⟨#[]⟩ : ByteArray), .int .u8 0, .int .i64 0, .int .i64 0]) (t := 125) ?hr ?_; (case hd => rfl); (case hg => rfl); (case hr => first | (go_simp; done) | (go_simp; rfl)); intro gb352 hg w11 hbox hb; have n0_ := Aside0.mk (blk_below (g := gb346) (o := .cells #[.int .u8 a0_0, .string a0_1, .bool a0_2, .int .u8 a0_3, .int .i64 a0_4, .int .i64 a0_5] 41 (0, 0)) (by (with_reducible repeat (first | refine blk_drewN ?_ _ | refine blk_drew ?_ | refine blk_alloc ?_ _)); exact BK346.out) hb); have n1_ := Aside0.mk (below_step (by repeat (first | (with_reducible first | exact HB.out | apply below_alloc | apply pw_below_drewN | apply below_drew1 | refine below_set ?_ GE346.out) | exact HB.out)) hb); have n2_ := Aside0.mk (hbox); have n3_ := Aside0.mk ((by rw [hg]; exact (below_size (by repeat (first | (with_reducible first | exact HB.out | apply below_alloc | apply pw_below_drewN | apply below_drew1 | refine below_set ?_ GE346.out) | exact HB.out))) : w.heap.size ≤ gb352)); have n4_ := Aside0.mk ((by rw [hg]; exact (below_size (by repeat (first | (with_reducible first | exact HB.out | apply below_alloc | apply pw_below_drewN | apply below_drew1 | refine below_set ?_ GE346.out) | exact HB.out))) : w.heap.size ≤ gb352)); have n5_ := Aside0.mk ((by rw [hg]; exact Nat.ne_of_lt (blk_lt (g := gb346) (o := .cells #[.int .u8 a0_0, .string a0_1, .bool a0_2, .int .u8 a0_3, .int .i64 a0_4, .int .i64 a0_5] 41 (0, 0)) (by (with_reducible repeat (first | refine blk_drewN ?_ _ | refine blk_drew ?_ | refine blk_alloc ?_ _)); exact BK346.out)) : gb346 ≠ gb352)); have n6_ := Aside0.mk ((by rw [hg]; exact Nat.ne_of_gt (blk_lt (g := gb346) (o := .cells #[.int .u8 a0_0, .string a0_1, .bool a0_2, .int .u8 a0_3, .int .i64 a0_4, .int .i64 a0_5] 41 (0, 0)) (by (with_reducible repeat (first | refine blk_drewN ?_ _ | refine blk_drew ?_ | refine blk_alloc ?_ _)); exact BK346.out)) : gb352 ≠ gb346)); clear BK346; clear HB; have BK346 := n0_; have HB := n1_; have BK352 := n2_; have GW352 := n3_; have GE352 := n4_; have NB346_352 := n5_; have NB352_346 := n6_; clear n0_ n1_ n2_ n3_ n4_ n5_ n6_; clear hb hbox hg; have hnb12 := NB352_346.out; have hnc12 := NB346_352.out; have hcz13_0 : w11.cell? ⟨gb352, 0, none⟩ = some (.string (⟨#[]⟩ : ByteArray)) := (blk_cell BK352.out 0).trans rfl; have hcz13_1 : w11.cell? ⟨gb352, 1, none⟩ = some (.int .u8 0) := (blk_cell BK352.out 1).trans rfl; have hcz13_2 : w11.cell? ⟨gb352, 2, none⟩ = some (.int .i64 0) := (blk_cell BK352.out 2).trans rfl; have hcz13_3 : w11.cell? ⟨gb352, 3, none⟩ = some (.int .i64 0) := (blk_cell BK352.out 3).trans rfl; have hfz13_0 := blk_frozen BK352.out 0; have hfz13_1 := blk_frozen BK352.out 1; have hfz13_2 := blk_frozen BK352.out 2; have hfz13_3 := blk_frozen BK352.out 3) | ((with_reducible refine gate_callee (f := 151) rfl ?_); refine goesL_ (some 20) rfl rfl Tryz.func151 (by kernel_rfl) rfl #[.agg #[.int .u8 0, .string (⟨#[]⟩ : ByteArray), .bool false, .int .u8 t349, .int .i64 0, .int .i64 0]] rfl (by (try simp only [List.map_toArray, List.map_cons, List.map_nil]); first | done | rfl | (simp only [List.length_drop, List.length_take]; rfl)) ?_; (with_reducible refine (isa_Range.calls 0 (⟨#[]⟩ : ByteArray) false t349 0 0 t353 t354 _ A6.out).mono ?_); rintro e w14 ⟨rfl, hb⟩; refine ⟨_, rfl, ?_⟩; have n0_ := Aside0.mk (blk_below (g := gb346) (o := .cells #[.int .u8 a0_0, .string a0_1, .bool a0_2, .int .u8 a0_3, .int .i64 a0_4, .int .i64 a0_5] 41 (0, 0)) (by (with_reducible repeat (first | refine blk_drewN ?_ _ | refine blk_drew ?_ | refine blk_alloc ?_ _)); refine blk_far ?_ NB346_352.out _; (with_reducible repeat (first | refine blk_drewN ?_ _ | refine blk_drew ?_ | refine blk_alloc ?_ _)); refine blk_far ?_ NB346_352.out _; (with_reducible repeat (first | refine blk_drewN ?_ _ | refine blk_drew ?_ | refine blk_alloc ?_ _)); refine blk_far ?_ NB346_352.out _; (with_reducible repeat (first | refine blk_drewN ?_ _ | refine blk_drew ?_ | refine blk_alloc ?_ _)); refine blk_far ?_ NB346_352.out _; (with_reducible repeat (first | refine blk_drewN ?_ _ | refine blk_drew ?_ | refine blk_alloc ?_ _)); exact BK346.out) hb); have n1_ := Aside0.mk (blk_below (g := gb352) (o := .cells #[.string t348, .int .u8 t349, .int .i64 t350, .int .i64 t351] 125 (0, 0)) (by (with_reducible repeat (first | refine blk_drewN ?_ _ | refine blk_drew ?_ | refine blk_alloc ?_ _)); refine blk_put (cs := #[.string t348, .int .u8 t349, .int .i64 t350, .int .i64 0]) ?_ 3 _ rfl; (with_reducible repeat (first | refine blk_drewN ?_ _ | refine blk_drew ?_ | refine blk_alloc ?_ _)); refine blk_put (cs := #[.string t348, .int .u8 t349, .int .i64 0, .int .i64 0]) ?_ 2 _ rfl; (with_reducible repeat (first | refine blk_drewN ?_ _ | refine blk_drew ?_ | refine blk_alloc ?_ _)); refine blk_put (cs := #[.string t348, .int .u8 0, .int .i64 0, .int .i64 0]) ?_ 1 _ rfl; (with_reducible repeat (first | refine blk_drewN ?_ _ | refine blk_drew ?_ | refine blk_alloc ?_ _)); refine blk_put (cs := #[.string (⟨#[]⟩ : ByteArray), .int .u8 0, .int .i64 0, .int .i64 0]) ?_ 0 _ rfl; (with_reducible repeat (first | refine blk_drewN ?_ _ | refine blk_drew ?_ | refine blk_alloc ?_ _)); exact BK352.out) hb); have n2_ := Aside0.mk (below_step (by repeat (first | (with_reducible first | exact HB.out | apply below_alloc | apply pw_below_drewN | apply below_drew1 | refine below_set ?_ GE346.out | refine below_set ?_ GE352.out) | exact HB.out)) hb); clear BK346; clear BK352; clear HB; have BK346 := n0_; have BK352 := n1_; have HB := n2_; clear n0_ n1_ n2_; (try clear hb); (try clear hb2); (try clear hk); (try clear hi)))
   (try simp only [Act.put, List.setIfInBounds_toArray, List.set_cons_zero, List.set_cons_succ])
   go_cut [30] (fun v30 wc => ∃ (kq : Nat) (x30_6 : Bool), v30 = .bool x30_6 ∧ Aside0 (isa_Encode.j0 kq a1 x30_6 t348 t349 t350 t351 = some (r1, r2)) ∧ Aside0 (kq ≤ k) ∧ Aside0 (wc.heap[gb346]? = some (.cells #[.int .u8 a0_0, .string a0_1, .bool a0_2, .int .u8 a0_3, .int .i64 a0_4, .int .i64 a0_5] 41 (0, 0))) ∧ Aside0 (wc.heap[gb352]? = some (.cells #[.string t348, .int .u8 t349, .int .i64 t350, .int .i64 t351] 125 (0, 0))) ∧ Aside0 (Below w.heap.size w wc))
   case first =>
    have H := HC7.out
    clear HC7
    by_cases c15 : a1 < t353
    · rw [if_pos c15] at H
      have c15b0 : decide (a1 < t353) = true := decide_eq_true c15
      clear c15
      (first | rw [c15b0] | (simp only [i64_w, i32_w]; rw [c15b0]) | skip)
      have H' := Aside0.mk H
      clear H
      go_wp2
      go_meet
      case rel => exact ⟨_, (true), (by first | rfl | (simp; done) | (simp [*]; done)), H', ⟨by first | omega | exact Nat.le_refl _⟩, ⟨by (with_reducible repeat (first | refine blk_drewN ?_ _ | refine blk_drew ?_ | refine blk_alloc ?_ _)); exact BK346.out⟩, ⟨by (with_reducible repeat (first | refine blk_drewN ?_ _ | refine blk_drew ?_ | refine blk_alloc ?_ _)); exact BK352.out⟩, ⟨by repeat (first | (with_reducible first | exact HB.out | apply below_alloc | apply pw_below_drewN | apply below_drew1 | refine below_set ?_ GE346.out | refine below_set ?_ GE352.out) | exact HB.out)⟩⟩
    · rw [if_neg c15] at H
      have c15b0 : decide (a1 < t353) = false := decide_eq_false c15
      clear c15
      (first | rw [c15b0] | (simp only [i64_w, i32_w]; rw [c15b0]) | skip)
      have H' := Aside0.mk H
      clear H
      go_wp2
      go_meet
      case rel => exact ⟨_, (decide (a1 > t354)), (by first | rfl | (simp; done) | (simp [*]; done)), H', ⟨by first | omega | exact Nat.le_refl _⟩, ⟨by (with_reducible repeat (first | refine blk_drewN ?_ _ | refine blk_drew ?_ | refine blk_alloc ?_ _)); exact BK346.out⟩, ⟨by (with_reducible repeat (first | refine blk_drewN ?_ _ | refine blk_drew ?_ | refine blk_alloc ?_ _)); exact BK352.out⟩, ⟨by repeat (first | (with_reducible first | exact HB.out | apply below_alloc | apply pw_below_drewN | apply below_drew1 | refine below_set ?_ GE346.out | refine below_set ?_ GE352.out) | exact HB.out)⟩⟩
   case rest =>
    clear HC7
    try clear c1
    try clear p2
    try clear c4
    try clear c6
    try clear c7
    try clear c12
    try clear c15
    try clear c15b0
    try clear hcz13_0
    try clear hcz13_1
    try clear hcz13_2
    try clear hcz13_3
    try clear hcz9_0
    try clear hcz9_1
    try clear hcz9_2
    try clear hcz9_3
    try clear hcz9_4
    try clear hcz9_5
    try clear hfz13_0
    try clear hfz13_1
    try clear hfz13_2
    try clear hfz13_3
    try clear hfz9_0
    try clear hfz9_1
    try clear hfz9_2
    try clear hfz9_3
    try clear hfz9_4
    try clear hfz9_5
    obtain ⟨kq, x30_6, rfl, HA, HJ6, BK346, BK352, HB⟩ := hcut
    cases kq with
    | zero => exact absurd HA.out (by simp [isa_Encode.j0])
    | succ kj6 =>
     have H := HA.out
     clear HA
     simp only [isa_Encode.j0] at H
     by_cases c16 : x30_6 = true
     · subst c16
       have H1 : (some (0, 3)) = some (r1, r2) := by rw [if_pos rfl] at H; exact H
       clear H
       have H := H1
       clear H1
       simp only [Option.some.injEq, Prod.mk.injEq] at H
       obtain ⟨rfl, rfl⟩ := H
       go_wp2
       go_ret2
       exact ⟨by first | rfl | (simp [errW_none, errW_some] <;> rfl) | (simp [*, errW_none, errW_some] <;> rfl), by repeat (first | (with_reducible first | exact HB.out | apply below_alloc | apply pw_below_drewN | apply below_drew1 | refine below_set ?_ GE346.out | refine below_set ?_ GE352.out) | exact HB.out)⟩
     · replace c16 := Bool.eq_false_iff.mpr c16
       subst c16
       have H1 : (if t348.toList = ([84, 67] : List UInt8) then (if a1 = 3 then (isa_Encode.j1 kj6 a1 true t348 t349 t350 t351) else (if a1 = 4 then (isa_Encode.j1 kj6 a1 true t348 t349 t350 t351) else (isa_Encode.j1 kj6 a1 (a1 == 6) t348 t349 t350 t351))) else (isa_Encode.j1 kj6 a1 false t348 t349 t350 t351)) = some (r1, r2) := by rw [if_neg (show ¬ (false = true) by decide)] at H; exact H
       clear H
       have H := H1
       clear H1
       have HC17 := Aside0.mk H
       clear H
       go_upto_region 7 with (fail)
       go_cut [31] (fun v31 wc => ∃ (kq : Nat) (x31_16 : Bool), v31 = .bool x31_16 ∧ Aside0 (isa_Encode.j1 kq a1 x31_16 t348 t349 t350 t351 = some (r1, r2)) ∧ Aside0 (kq ≤ kj6) ∧ Aside0 (wc.heap[gb346]? = some (.cells #[.int .u8 a0_0, .string a0_1, .bool a0_2, .int .u8 a0_3, .int .i64 a0_4, .int .i64 a0_5] 41 (0, 0))) ∧ Aside0 (wc.heap[gb352]? = some (.cells #[.string t348, .int .u8 t349, .int .i64 t350, .int .i64 t351] 125 (0, 0))) ∧ Aside0 (Below w.heap.size w wc))
       case first =>
        have H := HC17.out
        clear HC17
        by_cases c18 : t348.toList = ([84, 67] : List UInt8)
        · rw [if_pos c18] at H
          have c18b0 : (t348.toList == ([84, 67] : List UInt8)) = true := beq_iff_eq.mpr c18
          have c18b1 : (t348.toList != ([84, 67] : List UInt8)) = false := bne_eq_false_iff_eq.mpr c18
          clear c18
          (first | rw [c18b0] | (simp only [i64_w, i32_w]; rw [c18b0]) | skip)
          by_cases c19 : a1 = 3
          · rw [if_pos c19] at H
            have c19b0 : (a1 == 3) = true := beq_iff_eq.mpr c19
            have c19b1 : (a1 != 3) = false := bne_eq_false_iff_eq.mpr c19
            clear c19
            have H' := Aside0.mk H
            clear H
            have hnb20 := NB352_346.out
            have hnc20 := NB346_352.out
            have hcz21_0 : wc.cell? ⟨gb352, 0, none⟩ = some (.string t348) := (blk_cell BK352.out 0).trans rfl
            have hcz21_1 : wc.cell? ⟨gb352, 1, none⟩ = some (.int .u8 t349) := (blk_cell BK352.out 1).trans rfl
            have hcz21_2 : wc.cell? ⟨gb352, 2, none⟩ = some (.int .i64 t350) := (blk_cell BK352.out 2).trans rfl
            have hcz21_3 : wc.cell? ⟨gb352, 3, none⟩ = some (.int .i64 t351) := (blk_cell BK352.out 3).trans rfl
            have hfz21_0 := blk_frozen BK352.out 0
            have hfz21_1 := blk_frozen BK352.out 1
            have hfz21_2 := blk_frozen BK352.out 2
            have hfz21_3 := blk_frozen BK352.out 3
            go_wp2
            go_meet
            case rel => exact ⟨_, (true), (by first | rfl | (simp; done) | (simp [*]; done)), H', ⟨by have := HJ6.out; first | omega | exact Nat.le_refl _⟩, ⟨by (with_reducible repeat (first | refine blk_drewN ?_ _ | refine blk_drew ?_ | refine blk_alloc ?_ _)); exact BK346.out⟩, ⟨by (with_reducible repeat (first | refine blk_drewN ?_ _ | refine blk_drew ?_ | refine blk_alloc ?_ _)); exact BK352.out⟩, ⟨by repeat (first | (with_reducible first | exact HB.out | apply below_alloc | apply pw_below_drewN | apply below_drew1 | refine below_set ?_ GE346.out | refine below_set ?_ GE352.out) | exact HB.out)⟩⟩
          · rw [if_neg c19] at H
            have c19b0 : (a1 == 3) = false := beq_eq_false_iff_ne.mpr c19
            have c19b1 : (a1 != 3) = true := bne_iff_ne.mpr c19
            by_cases c22 : a1 = 4
            · rw [if_pos c22] at H
              have c22b0 : (a1 == 4) = true := beq_iff_eq.mpr c22
              have c22b1 : (a1 != 4) = false := bne_eq_false_iff_eq.mpr c22
              clear c22
              have H' := Aside0.mk H
              clear H
              have hnb23 := NB352_346.out
              have hnc23 := NB346_352.out
              have hcz24_0 : wc.cell? ⟨gb352, 0, none⟩ = some (.string t348) := (blk_cell BK352.out 0).trans rfl
              have hcz24_1 : wc.cell? ⟨gb352, 1, none⟩ = some (.int .u8 t349) := (blk_cell BK352.out 1).trans rfl
              have hcz24_2 : wc.cell? ⟨gb352, 2, none⟩ = some (.int .i64 t350) := (blk_cell BK352.out 2).trans rfl
              have hcz24_3 : wc.cell? ⟨gb352, 3, none⟩ = some (.int .i64 t351) := (blk_cell BK352.out 3).trans rfl
              have hfz24_0 := blk_frozen BK352.out 0
              have hfz24_1 := blk_frozen BK352.out 1
              have hfz24_2 := blk_frozen BK352.out 2
              have hfz24_3 := blk_frozen BK352.out 3
              go_wp2
              go_meet
              case rel => exact ⟨_, (true), (by first | rfl | (simp; done) | (simp [*]; done)), H', ⟨by have := HJ6.out; first | omega | exact Nat.le_refl _⟩, ⟨by (with_reducible repeat (first | refine blk_drewN ?_ _ | refine blk_drew ?_ | refine blk_alloc ?_ _)); exact BK346.out⟩, ⟨by (with_reducible repeat (first | refine blk_drewN ?_ _ | refine blk_drew ?_ | refine blk_alloc ?_ _)); exact BK352.out⟩, ⟨by repeat (first | (with_reducible first | exact HB.out | apply below_alloc | apply pw_below_drewN | apply below_drew1 | refine below_set ?_ GE346.out | refine below_set ?_ GE352.out) | exact HB.out)⟩⟩
            · rw [if_neg c22] at H
              have c22b0 : (a1 == 4) = false := beq_eq_false_iff_ne.mpr c22
              have c22b1 : (a1 != 4) = true := bne_iff_ne.mpr c22
              have H' := Aside0.mk H
              clear H
              have hnb25 := NB352_346.out
              have hnc25 := NB346_352.out
              have hcz26_0 : wc.cell? ⟨gb352, 0, none⟩ = some (.string t348) := (blk_cell BK352.out 0).trans rfl
              have hcz26_1 : wc.cell? ⟨gb352, 1, none⟩ = some (.int .u8 t349) := (blk_cell BK352.out 1).trans rfl
              have hcz26_2 : wc.cell? ⟨gb352, 2, none⟩ = some (.int .i64 t350) := (blk_cell BK352.out 2).trans rfl
              have hcz26_3 : wc.cell? ⟨gb352, 3, none⟩ = some (.int .i64 t351) := (blk_cell BK352.out 3).trans rfl
              have hfz26_0 := blk_frozen BK352.out 0
              have hfz26_1 := blk_frozen BK352.out 1
              have hfz26_2 := blk_frozen BK352.out 2
              have hfz26_3 := blk_frozen BK352.out 3
              go_wp2
              go_meet
              case rel => exact ⟨_, ((a1 == 6)), (by first | rfl | (simp; done) | (simp [*]; done)), H', ⟨by have := HJ6.out; first | omega | exact Nat.le_refl _⟩, ⟨by (with_reducible repeat (first | refine blk_drewN ?_ _ | refine blk_drew ?_ | refine blk_alloc ?_ _)); exact BK346.out⟩, ⟨by (with_reducible repeat (first | refine blk_drewN ?_ _ | refine blk_drew ?_ | refine blk_alloc ?_ _)); exact BK352.out⟩, ⟨by repeat (first | (with_reducible first | exact HB.out | apply below_alloc | apply pw_below_drewN | apply below_drew1 | refine below_set ?_ GE346.out | refine below_set ?_ GE352.out) | exact HB.out)⟩⟩
        · rw [if_neg c18] at H
          have c18b0 : (t348.toList == ([84, 67] : List UInt8)) = false := beq_eq_false_iff_ne.mpr c18
          have c18b1 : (t348.toList != ([84, 67] : List UInt8)) = true := bne_iff_ne.mpr c18
          (first | rw [c18b0] | (simp only [i64_w, i32_w]; rw [c18b0]) | skip)
          have H' := Aside0.mk H
          clear H
          have hnb27 := NB352_346.out
          have hnc27 := NB346_352.out
          have hcz28_0 : wc.cell? ⟨gb352, 0, none⟩ = some (.string t348) := (blk_cell BK352.out 0).trans rfl
          have hcz28_1 : wc.cell? ⟨gb352, 1, none⟩ = some (.int .u8 t349) := (blk_cell BK352.out 1).trans rfl
          have hcz28_2 : wc.cell? ⟨gb352, 2, none⟩ = some (.int .i64 t350) := (blk_cell BK352.out 2).trans rfl
          have hcz28_3 : wc.cell? ⟨gb352, 3, none⟩ = some (.int .i64 t351) := (blk_cell BK352.out 3).trans rfl
          have hfz28_0 := blk_frozen BK352.out 0
          have hfz28_1 := blk_frozen BK352.out 1
          have hfz28_2 := blk_frozen BK352.out 2
          have hfz28_3 := blk_frozen BK352.out 3
          go_wp2
          go_meet
          case rel => exact ⟨_, (false), (by first | rfl | (simp; done) | (simp [*]; done)), H', ⟨by have := HJ6.out; first | omega | exact Nat.le_refl _⟩, ⟨by (with_reducible repeat (first | refine blk_drewN ?_ _ | refine blk_drew ?_ | refine blk_alloc ?_ _)); exact BK346.out⟩, ⟨by (with_reducible repeat (first | refine blk_drewN ?_ _ | refine blk_drew ?_ | refine blk_alloc ?_ _)); exact BK352.out⟩, ⟨by repeat (first | (with_reducible first | exact HB.out | apply below_alloc | apply pw_below_drewN | apply below_drew1 | refine below_set ?_ GE346.out | refine below_set ?_ GE352.out) | exact HB.out)⟩⟩
       case rest =>
        clear HC17
        try clear c1
        try clear c2
        try clear p2
        try clear c4
        try clear c6
        try clear c7
        try clear c12
        try clear c15
        try clear c15b0
        try clear c16
        try clear c18
        try clear c18b0
        try clear c18b1
        try clear c19
        try clear c19b0
        try clear c19b1
        try clear c20
        try clear c22
        try clear c22b0
        try clear c22b1
        try clear c23
        try clear c25
        try clear c27
        try clear hcz13_0
        try clear hcz13_1
        try clear hcz13_2
        try clear hcz13_3
        try clear hcz21_0
        try clear hcz21_1
        try clear hcz21_2
        try clear hcz21_3
        try clear hcz24_0
        try clear hcz24_1
        try clear hcz24_2
        try clear hcz24_3
        try clear hcz26_0
        try clear hcz26_1
        try clear hcz26_2
        try clear hcz26_3
        try clear hcz28_0
        try clear hcz28_1
        try clear hcz28_2
        try clear hcz28_3
        try clear hcz9_0
        try clear hcz9_1
        try clear hcz9_2
        try clear hcz9_3
        try clear hcz9_4
        try clear hcz9_5
        try clear hfz13_0
        try clear hfz13_1
        try clear hfz13_2
        try clear hfz13_3
        try clear hfz21_0
        try clear hfz21_1
        try clear hfz21_2
        try clear hfz21_3
        try clear hfz24_0
        try clear hfz24_1
        try clear hfz24_2
        try clear hfz24_3
        try clear hfz26_0
        try clear hfz26_1
        try clear hfz26_2
        try clear hfz26_3
        try clear hfz28_0
        try clear hfz28_1
        try clear hfz28_2
        try clear hfz28_3
        try clear hfz9_0
        try clear hfz9_1
        try clear hfz9_2
        try clear hfz9_3
        try clear hfz9_4
        try clear hfz9_5
        try clear p2
        obtain ⟨kq, x31_16, rfl, HA, HJ16, BK346, BK352, HB⟩ := hcut
        cases kq with
        | zero => exact absurd HA.out (by simp [isa_Encode.j1])
        | succ kj16 =>
         have H := HA.out
         clear HA
         simp only [isa_Encode.j1] at H
         by_cases c29 : x31_16 = true
         · subst c29
           have H1 : (some (0, 3)) = some (r1, r2) := by rw [if_pos rfl] at H; exact H
           clear H
           have H := H1
           clear H1
           simp only [Option.some.injEq, Prod.mk.injEq] at H
           obtain ⟨rfl, rfl⟩ := H
           go_wp2
           go_ret2
           exact ⟨by first | rfl | (simp [errW_none, errW_some] <;> rfl) | (simp [*, errW_none, errW_some] <;> rfl), by repeat (first | (with_reducible first | exact HB.out | apply below_alloc | apply pw_below_drewN | apply below_drew1 | refine below_set ?_ GE346.out | refine below_set ?_ GE352.out) | exact HB.out)⟩
         · replace c29 := Bool.eq_false_iff.mpr c29
           subst c29
           have H1 : (if t348.toList = ([73, 78, 68, 69, 88] : List UInt8) then (if a1 = 15 then (some (0, 3)) else (some (IntKind.u16.wrap (wrap64 (t350 + a1)), 0))) else (some (IntKind.u16.wrap (wrap64 (t350 + a1)), 0))) = some (r1, r2) := by rw [if_neg (show ¬ (false = true) by decide)] at H; exact H
           clear H
           have H := H1
           clear H1
           by_cases c30 : t348.toList = ([73, 78, 68, 69, 88] : List UInt8)
           · rw [if_pos c30] at H
             have c30b0 : (t348.toList == ([73, 78, 68, 69, 88] : List UInt8)) = true := beq_iff_eq.mpr c30
             have c30b1 : (t348.toList != ([73, 78, 68, 69, 88] : List UInt8)) = false := bne_eq_false_iff_eq.mpr c30
             clear c30
             by_cases c31 : a1 = 15
             · rw [if_pos c31] at H
               have c31b0 : (a1 == 15) = true := beq_iff_eq.mpr c31
               have c31b1 : (a1 != 15) = false := bne_eq_false_iff_eq.mpr c31
               clear c31
               simp only [Option.some.injEq, Prod.mk.injEq] at H
               obtain ⟨rfl, rfl⟩ := H
               have hnb32 := NB352_346.out
               have hnc32 := NB346_352.out
               have hcz33_0 : wc.cell? ⟨gb352, 0, none⟩ = some (.string t348) := (blk_cell BK352.out 0).trans rfl
               have hcz33_1 : wc.cell? ⟨gb352, 1, none⟩ = some (.int .u8 t349) := (blk_cell BK352.out 1).trans rfl
               have hcz33_2 : wc.cell? ⟨gb352, 2, none⟩ = some (.int .i64 t350) := (blk_cell BK352.out 2).trans rfl
               have hcz33_3 : wc.cell? ⟨gb352, 3, none⟩ = some (.int .i64 t351) := (blk_cell BK352.out 3).trans rfl
               have hfz33_0 := blk_frozen BK352.out 0
               have hfz33_1 := blk_frozen BK352.out 1
               have hfz33_2 := blk_frozen BK352.out 2
               have hfz33_3 := blk_frozen BK352.out 3
               go_wp2
               go_ret2
               exact ⟨by first | rfl | (simp [errW_none, errW_some] <;> rfl) | (simp [*, errW_none, errW_some] <;> rfl), by repeat (first | (with_reducible first | exact HB.out | apply below_alloc | apply pw_below_drewN | apply below_drew1 | refine below_set ?_ GE346.out | refine below_set ?_ GE352.out) | exact HB.out)⟩
             · rw [if_neg c31] at H
               have c31b0 : (a1 == 15) = false := beq_eq_false_iff_ne.mpr c31
               have c31b1 : (a1 != 15) = true := bne_iff_ne.mpr c31
               simp only [Option.some.injEq, Prod.mk.injEq] at H
               obtain ⟨rfl, rfl⟩ := H
               have hnb34 := NB352_346.out
               have hnc34 := NB346_352.out
               have hcz35_0 : wc.cell? ⟨gb352, 0, none⟩ = some (.string t348) := (blk_cell BK352.out 0).trans rfl
               have hcz35_1 : wc.cell? ⟨gb352, 1, none⟩ = some (.int .u8 t349) := (blk_cell BK352.out 1).trans rfl
               have hcz35_2 : wc.cell? ⟨gb352, 2, none⟩ = some (.int .i64 t350) := (blk_cell BK352.out 2).trans rfl
               have hcz35_3 : wc.cell? ⟨gb352, 3, none⟩ = some (.int .i64 t351) := (blk_cell BK352.out 3).trans rfl
               have hfz35_0 := blk_frozen BK352.out 0
               have hfz35_1 := blk_frozen BK352.out 1
               have hfz35_2 := blk_frozen BK352.out 2
               have hfz35_3 := blk_frozen BK352.out 3
               go_wp2
               go_ret2
               exact ⟨by first | rfl | (simp [errW_none, errW_some] <;> rfl) | (simp [*, errW_none, errW_some] <;> rfl), by repeat (first | (with_reducible first | exact HB.out | apply below_alloc | apply pw_below_drewN | apply below_drew1 | refine below_set ?_ GE346.out | refine below_set ?_ GE352.out) | exact HB.out)⟩
           · rw [if_neg c30] at H
             have c30b0 : (t348.toList == ([73, 78, 68, 69, 88] : List UInt8)) = false := beq_eq_false_iff_ne.mpr c30
             have c30b1 : (t348.toList != ([73, 78, 68, 69, 88] : List UInt8)) = true := bne_iff_ne.mpr c30
             simp only [Option.some.injEq, Prod.mk.injEq] at H
             obtain ⟨rfl, rfl⟩ := H
             have hnb36 := NB352_346.out
             have hnc36 := NB346_352.out
             have hcz37_0 : wc.cell? ⟨gb352, 0, none⟩ = some (.string t348) := (blk_cell BK352.out 0).trans rfl
             have hcz37_1 : wc.cell? ⟨gb352, 1, none⟩ = some (.int .u8 t349) := (blk_cell BK352.out 1).trans rfl
             have hcz37_2 : wc.cell? ⟨gb352, 2, none⟩ = some (.int .i64 t350) := (blk_cell BK352.out 2).trans rfl
             have hcz37_3 : wc.cell? ⟨gb352, 3, none⟩ = some (.int .i64 t351) := (blk_cell BK352.out 3).trans rfl
             have hfz37_0 := blk_frozen BK352.out 0
             have hfz37_1 := blk_frozen BK352.out 1
             have hfz37_2 := blk_frozen BK352.out 2
             have hfz37_3 := blk_frozen BK352.out 3
             go_wp2
             go_ret2
             exact ⟨by first | rfl | (simp [errW_none, errW_some] <;> rfl) | (simp [*, errW_none, errW_some] <;> rfl), by repeat (first | (with_reducible first | exact HB.out | apply below_alloc | apply pw_below_drewN | apply below_drew1 | refine below_set ?_ GE346.out | refine below_set ?_ GE352.out) | exact HB.out)⟩
 · replace c4 := Bool.eq_false_iff.mpr c4
   subst c4
   have H1 : (some (0, 7)) = some (r1, r2) := by rw [if_neg (show ¬ (false = true) by decide)] at H; exact H
   clear H
   have H := H1
   clear H1
   simp only [Option.some.injEq, Prod.mk.injEq] at H
   obtain ⟨rfl, rfl⟩ := H
   go_enter Tryz.func66, Tryz.ntmps66
   go_wp2_with (first | ((with_reducible refine gate_dst (N := 2) rfl ?_); refine box_event ?hg (N := 2) ?hd (cs := #[.int .u8 a0_0, .string a0_1, .bool a0_2, .int .u8 a0_3, .int .i64 a0_4, .int .i64 a0_5]) (t := 41) ?hr ?_; (case hd => rfl); (case hg => rfl); (case hr => first | (go_simp; done) | (go_simp; rfl)); intro gb346 hg w38 hbox hb; have n0_ := Aside0.mk (below_step (by repeat (first | (with_reducible first | exact HB.out | apply below_alloc | apply pw_below_drewN | apply below_drew1) | exact HB.out)) hb); have n1_ := Aside0.mk (hbox); have n2_ := Aside0.mk ((by rw [hg]; exact (below_size (by repeat (first | (with_reducible first | exact HB.out | apply below_alloc | apply pw_below_drewN | apply below_drew1) | exact HB.out))) : w.heap.size ≤ gb346)); have n3_ := Aside0.mk ((by rw [hg]; exact (below_size (by repeat (first | (with_reducible first | exact HB.out | apply below_alloc | apply pw_below_drewN | apply below_drew1) | exact HB.out))) : w.heap.size ≤ gb346)); clear HB; have HB := n0_; have BK346 := n1_; have GW346 := n2_; have GE346 := n3_; clear n0_ n1_ n2_ n3_; clear hb hbox hg; have hcz39_0 : w38.cell? ⟨gb346, 0, none⟩ = some (.int .u8 a0_0) := (blk_cell BK346.out 0).trans rfl; have hcz39_1 : w38.cell? ⟨gb346, 1, none⟩ = some (.string a0_1) := (blk_cell BK346.out 1).trans rfl; have hcz39_2 : w38.cell? ⟨gb346, 2, none⟩ = some (.bool a0_2) := (blk_cell BK346.out 2).trans rfl; have hcz39_3 : w38.cell? ⟨gb346, 3, none⟩ = some (.int .u8 a0_3) := (blk_cell BK346.out 3).trans rfl; have hcz39_4 : w38.cell? ⟨gb346, 4, none⟩ = some (.int .i64 a0_4) := (blk_cell BK346.out 4).trans rfl; have hcz39_5 : w38.cell? ⟨gb346, 5, none⟩ = some (.int .i64 a0_5) := (blk_cell BK346.out 5).trans rfl; have hfz39_0 := blk_frozen BK346.out 0; have hfz39_1 := blk_frozen BK346.out 1; have hfz39_2 := blk_frozen BK346.out 2; have hfz39_3 := blk_frozen BK346.out 3; have hfz39_4 := blk_frozen BK346.out 4; have hfz39_5 := blk_frozen BK346.out 5) | ((with_reducible refine gate_callee (f := 150) rfl ?_); refine goesL_ (some 11) rfl rfl Tryz.func150 (by kernel_rfl) rfl #[.int .u8 a0_0] rfl (by (try simp only [List.map_toArray, List.map_cons, List.map_nil]); first | done | rfl | (simp only [List.length_drop, List.length_take]; rfl)) ?_; (with_reducible refine (isa_valid.calls a0_0 false _ A3.out).mono ?_); rintro e w' ⟨rfl, ⟨nd, rfl⟩⟩; refine ⟨_, rfl, ?_⟩))
   go_ret2
   exact ⟨by first | rfl | (simp [errW_none, errW_some] <;> rfl) | (simp [*, errW_none, errW_some] <;> rfl), by repeat (first | (with_reducible first | exact HB.out | apply below_alloc | apply pw_below_drewN | apply below_drew1 | refine below_set ?_ GE346.out) | exact HB.out)⟩
end Go.Proofs.YthfobpkdloejfaaGreat.PAll
end
