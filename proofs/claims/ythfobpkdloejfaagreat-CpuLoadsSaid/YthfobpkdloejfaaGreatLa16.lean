/- Chapter 5: a part of its proof (cut by program out of F17); no condition. -/
import Derived.Test.YthfobpkdloejfaaGreatLa11
import Derived.Test.YthfobpkdloejfaaGreatLa15
set_option linter.unusedVariables false
set_option linter.unusedSimpArgs false
set_option linter.unusedSectionVars false
set_option maxRecDepth 100000
set_option maxHeartbeats 8000000
section
namespace Go.Proofs.YthfobpkdloejfaaGreat.PAll
open Go.RowKit Go.Proofs.YthfobpkdloejfaaGreatW.PrintWords Go.Proofs.YthfobpkdloejfaaGreatW.PrintLast Go.Proofs.YthfobpkdloejfaaGreatW.PrintMore
attribute [local go_sem high] eqA64
def periluneref04_Decode.l0 : Nat → Int → Bool → List Int → Int → Option (Int × ByteArray × Bool × Int × Int × Int × Int × Int)
 | 0, _, _, _, _ => none
 | k + 1, x0, x1, x7, x8 => if x8 < (x7.length : Int) then ((periluneref04_Of.f k ((wrap64 (x8 + 1)) % 256)).bind fun bt256 => (if 0 ≤ x8 then ((periluneref04_Encode.f k bt256.1 bt256.2.1 bt256.2.2.1 bt256.2.2.2.1 bt256.2.2.2.2.1 bt256.2.2.2.2.2.1 (wrap64 ((wrap64 (x0)) - (rd x7 x8)))).bind fun bt265 => (if (bt256.2.2.1 == x1) = true then (if bt265.2 = 0 then (if bt265.1 = x0 then (some (bt256.1, bt256.2.1, bt256.2.2.1, bt256.2.2.2.1, bt256.2.2.2.2.1, bt256.2.2.2.2.2.1, wrap64 ((wrap64 (x0)) - (rd x7 x8)), 0)) else (periluneref04_Decode.l0 k x0 x1 x7 (wrap64 (x8 + 1)))) else (periluneref04_Decode.l0 k x0 x1 x7 (wrap64 (x8 + 1)))) else (periluneref04_Decode.l0 k x0 x1 x7 (wrap64 (x8 + 1))))) else (none))) else (some (0, (⟨#[]⟩ : ByteArray), false, 0, 0, 0, 0, 3))
def periluneref04_Decode.f (k : Nat) (a0 : Int) (a1 : Bool) : Option (Int × ByteArray × Bool × Int × Int × Int × Int × Int) := if a0 > 32767 then (some (0, (⟨#[]⟩ : ByteArray), false, 0, 0, 0, 0, 3)) else ((periluneref04_bases.f).bind fun t253 => (periluneref04_Decode.l0 k a0 a1 t253 0))
def periluneref04_Decode.T8 : Bool × List (List Nat × List Nat) := (true, [([], []), ([], []), ([1], [1]), ([], []), ([], []), ([3, 4], [3, 4]), ([5], [5]), ([2, 6], [2, 6]), ([0, 7], [0, 7]), ([8], [8]), ([9], [9]), ([9], [9]), ([10, 8, 0, 1, 2, 3, 4, 5, 6, 7, 8, 9, 10], [10]), ([11, 12, 0, 1, 2, 3, 4, 5, 6, 7, 8, 9, 10, 11, 12], [11])])
def periluneref04_Decode.B8 : List Nat := [0, 0, 2, 0, 0, 24, 56, 126, 255, 511, 1023, 1023, 2047, 8191]
theorem periluneref04_Decode.tab8 : rtab .any (opsOf Tryz.f48 8) = periluneref04_Decode.T8 := by kernel_rfl
theorem periluneref04_Decode.bits8 : waitsOk periluneref04_Decode.T8.2 periluneref04_Decode.B8 = true := by kernel_rfl
def periluneref04_Decode.T10 : Bool × List (List Nat × List Nat) := (true, [([], []), ([], []), ([1], [1]), ([], []), ([], []), ([3, 4], [3, 4]), ([5], [5]), ([2, 6], [2, 6]), ([0, 0], [0]), ([7, 8, 0, 1, 2, 3, 4, 5, 6, 7, 8], [7]), ([9, 0, 1, 2, 3, 4, 5, 6, 7, 8, 9], [])])
def periluneref04_Decode.B10 : List Nat := [0, 0, 2, 0, 0, 24, 56, 126, 1, 511, 1023]
theorem periluneref04_Decode.tab10 : rtab .any (opsOf Tryz.f48 10) = periluneref04_Decode.T10 := by kernel_rfl
theorem periluneref04_Decode.bits10 : waitsOk periluneref04_Decode.T10.2 periluneref04_Decode.B10 = true := by kernel_rfl
theorem periluneref04_Decode.calls (k : Nat) (a0 : Int) (a1 : Bool) (r1 : Int) (r2 : ByteArray) (r3 : Bool) (r4 : Int) (r5 : Int) (r6 : Int) (r7 : Int) (r8 : Int) (w : World) (h : periluneref04_Decode.f k a0 a1 = some (r1, r2, r3, r4, r5, r6, r7, r8)) :
 Calls Tryz.prog 48 #[.int .u16 a0, .bool a1] w fun e w' => e = .returned (.tuple #[.agg #[.int .u8 r1, .string r2, .bool r3, .int .u8 r4, .int .i64 r5, .int .i64 r6], .int .i64 r7, .int .i64 r8]) ∧ Below w.heap.size w w' := by
 have hu41 := Tryz.underlying41
 have HB := Aside0.mk (Below.refl w.heap.size w)
 have H : (if a0 > 32767 then (some (0, (⟨#[]⟩ : ByteArray), false, 0, 0, 0, 0, 3)) else ((periluneref04_bases.f).bind fun t253 => (periluneref04_Decode.l0 k a0 a1 t253 0))) = some (r1, r2, r3, r4, r5, r6, r7, r8) := h
 clear h
 by_cases c3 : a0 > 32767
 · rw [if_pos c3] at H
   have c3b0 : decide (32767 < a0) = true := decide_eq_true c3
   clear c3
   simp only [Option.some.injEq, Prod.mk.injEq] at H
   obtain ⟨rfl, rfl, rfl, rfl, rfl, rfl, rfl, rfl⟩ := H
   go_enter Tryz.func48, Tryz.ntmps48
   go_wp2_with (first | ((with_reducible refine gate_dst (N := 4) rfl ?_); refine box_event ?hg (N := 4) ?hd (cs := #[.int .u8 0, .string (⟨#[]⟩ : ByteArray), .bool false, .int .u8 0, .int .i64 0, .int .i64 0]) (t := 41) ?hr ?_; (case hd => rfl); (case hg => rfl); (case hr => first | (go_simp; done) | (go_simp; rfl)); intro gb252 hg w4 hbox hb; have n0_ := Aside0.mk (below_step (by repeat (first | (with_reducible first | exact HB.out | apply below_alloc | apply pw_below_drewN | apply below_drew1) | exact HB.out)) hb); have n1_ := Aside0.mk (hbox); have n2_ := Aside0.mk ((by rw [hg]; exact (below_size (by repeat (first | (with_reducible first | exact HB.out | apply below_alloc | apply pw_below_drewN | apply below_drew1) | exact HB.out))) : w.heap.size ≤ gb252)); have n3_ := Aside0.mk ((by rw [hg]; exact (below_size (by repeat (first | (with_reducible first | exact HB.out | apply below_alloc | apply pw_below_drewN | apply below_drew1) | exact HB.out))) : w.heap.size ≤ gb252)); clear HB; have HB := n0_; have BK252 := n1_; have GW252 := n2_; have GE252 := n3_; clear n0_ n1_ n2_ n3_; clear hb hbox hg; have hcz5_0 : w4.cell? ⟨gb252, 0, none⟩ = some (.int .u8 0) := (blk_cell BK252.out 0).trans rfl; have hcz5_1 : w4.cell? ⟨gb252, 1, none⟩ = some (.string (⟨#[]⟩ : ByteArray)) := (blk_cell BK252.out 1).trans rfl; have hcz5_2 : w4.cell? ⟨gb252, 2, none⟩ = some (.bool false) := (blk_cell BK252.out 2).trans rfl; have hcz5_3 : w4.cell? ⟨gb252, 3, none⟩ = some (.int .u8 0) := (blk_cell BK252.out 3).trans rfl; have hcz5_4 : w4.cell? ⟨gb252, 4, none⟩ = some (.int .i64 0) := (blk_cell BK252.out 4).trans rfl; have hcz5_5 : w4.cell? ⟨gb252, 5, none⟩ = some (.int .i64 0) := (blk_cell BK252.out 5).trans rfl; have hfz5_0 := blk_frozen BK252.out 0; have hfz5_1 := blk_frozen BK252.out 1; have hfz5_2 := blk_frozen BK252.out 2; have hfz5_3 := blk_frozen BK252.out 3; have hfz5_4 := blk_frozen BK252.out 4; have hfz5_5 := blk_frozen BK252.out 5))
   refine bodyPost_ret (results_ctt rfl _ _ gb252 41 #[.int .u8 0, .string (⟨#[]⟩ : ByteArray), .bool false, .int .u8 0, .int .i64 0, .int .i64 0] (0, 0) _ rfl (by (with_reducible repeat (first | refine blk_drewN ?_ _ | refine blk_drew ?_ | refine blk_alloc ?_ _)); refine blk_put (cs := #[.int .u8 0, .string (⟨#[]⟩ : ByteArray), .bool false, .int .u8 0, .int .i64 0, .int .i64 0]) ?_ 5 _ rfl; (with_reducible repeat (first | refine blk_drewN ?_ _ | refine blk_drew ?_ | refine blk_alloc ?_ _)); refine blk_put (cs := #[.int .u8 0, .string (⟨#[]⟩ : ByteArray), .bool false, .int .u8 0, .int .i64 0, .int .i64 0]) ?_ 4 _ rfl; (with_reducible repeat (first | refine blk_drewN ?_ _ | refine blk_drew ?_ | refine blk_alloc ?_ _)); refine blk_put (cs := #[.int .u8 0, .string (⟨#[]⟩ : ByteArray), .bool false, .int .u8 0, .int .i64 0, .int .i64 0]) ?_ 3 _ rfl; (with_reducible repeat (first | refine blk_drewN ?_ _ | refine blk_drew ?_ | refine blk_alloc ?_ _)); refine blk_put (cs := #[.int .u8 0, .string (⟨#[]⟩ : ByteArray), .bool false, .int .u8 0, .int .i64 0, .int .i64 0]) ?_ 2 _ rfl; (with_reducible repeat (first | refine blk_drewN ?_ _ | refine blk_drew ?_ | refine blk_alloc ?_ _)); refine blk_put (cs := #[.int .u8 0, .string (⟨#[]⟩ : ByteArray), .bool false, .int .u8 0, .int .i64 0, .int .i64 0]) ?_ 1 _ rfl; (with_reducible repeat (first | refine blk_drewN ?_ _ | refine blk_drew ?_ | refine blk_alloc ?_ _)); refine blk_put (cs := #[.int .u8 0, .string (⟨#[]⟩ : ByteArray), .bool false, .int .u8 0, .int .i64 0, .int .i64 0]) ?_ 0 _ rfl; (with_reducible repeat (first | refine blk_drewN ?_ _ | refine blk_drew ?_ | refine blk_alloc ?_ _)); exact BK252.out) Tryz.underlying41 rfl (by kernel_rfl)) rfl ?_
   exact ⟨by first | rfl | (simp [errW_none, errW_some] <;> rfl) | (simp [*, errW_none, errW_some] <;> rfl), by repeat (first | (with_reducible first | exact HB.out | apply below_alloc | apply pw_below_drewN | apply below_drew1 | refine below_set ?_ GE252.out) | exact HB.out)⟩
 · rw [if_neg c3] at H
   have c3b0 : decide (32767 < a0) = false := decide_eq_false c3
   clear c3
   replace H := Option.bind_eq_some_iff.mp H
   obtain ⟨t253, A60, H⟩ := H
   replace H : (periluneref04_Decode.l0 k a0 a1 t253 0) = some (r1, r2, r3, r4, r5, r6, r7, r8) := H
   have A6 := Aside0.mk A60
   clear A60
   have H' := Aside0.mk H
   clear H
   go_enter Tryz.func48, Tryz.ntmps48
   go_wp2_with (first | ((with_reducible refine gate_dst (N := 4) rfl ?_); refine box_event ?hg (N := 4) ?hd (cs := #[.int .u8 0, .string (⟨#[]⟩ : ByteArray), .bool false, .int .u8 0, .int .i64 0, .int .i64 0]) (t := 41) ?hr ?_; (case hd => rfl); (case hg => rfl); (case hr => first | (go_simp; done) | (go_simp; rfl)); intro gb252 hg w7 hbox hb; have n0_ := Aside0.mk (below_step (by repeat (first | (with_reducible first | exact HB.out | apply below_alloc | apply pw_below_drewN | apply below_drew1) | exact HB.out)) hb); have n1_ := Aside0.mk (hbox); have n2_ := Aside0.mk ((by rw [hg]; exact (below_size (by repeat (first | (with_reducible first | exact HB.out | apply below_alloc | apply pw_below_drewN | apply below_drew1) | exact HB.out))) : w.heap.size ≤ gb252)); have n3_ := Aside0.mk ((by rw [hg]; exact (below_size (by repeat (first | (with_reducible first | exact HB.out | apply below_alloc | apply pw_below_drewN | apply below_drew1) | exact HB.out))) : w.heap.size ≤ gb252)); clear HB; have HB := n0_; have BK252 := n1_; have GW252 := n2_; have GE252 := n3_; clear n0_ n1_ n2_ n3_; clear hb hbox hg) | ((with_reducible refine gate_callee (f := 81) rfl ?_); refine goesL_ (some 16) rfl rfl Tryz.func81 (by kernel_rfl) rfl #[] rfl (by (try simp only [List.map_toArray, List.map_cons, List.map_nil]); first | done | rfl | (simp only [List.length_drop, List.length_take]; rfl)) ?_; (with_reducible refine (periluneref04_bases.calls  t253 _ A6.out).mono ?_); rintro e w8 ⟨v254, rfl, ho0, hb⟩; refine ⟨_, rfl, ?_⟩; have n0_ := Aside0.mk (Kd.R_lower ho0 (below_size (by repeat (first | (with_reducible first | exact HB.out | apply below_alloc | apply pw_below_drewN | apply below_drew1 | refine below_set ?_ GE252.out) | exact HB.out)))); have n1_ := Aside0.mk (blk_below (g := gb252) (o := .cells #[.int .u8 0, .string (⟨#[]⟩ : ByteArray), .bool false, .int .u8 0, .int .i64 0, .int .i64 0] 41 (0, 0)) (by (with_reducible repeat (first | refine blk_drewN ?_ _ | refine blk_drew ?_ | refine blk_alloc ?_ _)); exact BK252.out) hb); have n2_ := Aside0.mk (below_step (by repeat (first | (with_reducible first | exact HB.out | apply below_alloc | apply pw_below_drewN | apply below_drew1 | refine below_set ?_ GE252.out) | exact HB.out)) hb); clear BK252; clear HB; have HO255 := n0_; have BK252 := n1_; have HB := n2_; clear n0_ n1_ n2_; (try clear hb); (try clear hb2); (try clear hk); (try clear hi); (try clear ho0)))
   go_loopg [8] k (fun kq v8 w' => ∃ (x8_1 : Int) (x253000_1 : Int) (x253001_1 : ByteArray) (x253002_1 : Bool) (x253003_1 : Int) (x253004_1 : Int) (x253005_1 : Int), v8 = .int .i64 x8_1 ∧ Aside0 (periluneref04_Decode.l0 kq a0 a1 t253 x8_1 = some (r1, r2, r3, r4, r5, r6, r7, r8)) ∧ Aside0 (kq ≤ k) ∧ Aside0 (Kd.R (Kd.int .i64) 3 w' w.heap.size (fun _ => True) v254 t253) ∧ Aside0 (w'.heap[gb252]? = some (.cells #[.int .u8 x253000_1, .string x253001_1, .bool x253002_1, .int .u8 x253003_1, .int .i64 x253004_1, .int .i64 x253005_1] 41 (0, 0))) ∧ Aside0 (Below w.heap.size w w'))
   case atStart => exact ⟨(0), (0), ((⟨#[]⟩ : ByteArray)), (false), (0), (0), (0), (by first | rfl | (simp; done) | (simp [*]; done)), H', ⟨Nat.le_refl _⟩, ⟨by (with_reducible repeat (first | apply Kd.R_alloc | apply Kd.R_drewN | apply Kd.R_drew)); exact HO255.out⟩, ⟨by (with_reducible repeat (first | refine blk_drewN ?_ _ | refine blk_drew ?_ | refine blk_alloc ?_ _)); exact BK252.out⟩, ⟨by repeat (first | (with_reducible first | exact HB.out | apply below_alloc | apply pw_below_drewN | apply below_drew1 | refine below_set ?_ GE252.out) | exact HB.out)⟩⟩
   case round =>
    clear H'
    try clear p2
    try clear c3
    try clear c3b0
    try clear c4
    try clear c8
    try clear hcz5_0
    try clear hcz5_1
    try clear hcz5_2
    try clear hcz5_3
    try clear hcz5_4
    try clear hcz5_5
    try clear hfz5_0
    try clear hfz5_1
    try clear hfz5_2
    try clear hfz5_3
    try clear hfz5_4
    try clear hfz5_5
    obtain ⟨x8_1, x253000_1, x253001_1, x253002_1, x253003_1, x253004_1, x253005_1, rfl, HA, HK1, HO_7, BK252, HB⟩ := hrel
    cases gk with
    | zero => exact absurd HA.out (by simp [periluneref04_Decode.l0])
    | succ k1 =>
     have H := HA.out
     clear HA
     simp only [periluneref04_Decode.l0] at H
     by_cases c9 : x8_1 < (t253.length : Int)
     · rw [if_pos c9] at H
       have c9b0 : decide (x8_1 < (t253.length : Int)) = true := decide_eq_true c9
       clear c9
       replace H := Option.bind_eq_some_iff.mp H
       obtain ⟨⟨t256, t257, t258, t259, t260, t261, t262⟩, A100, H⟩ := H
       replace H : (if 0 ≤ x8_1 then ((periluneref04_Encode.f k1 t256 t257 t258 t259 t260 t261 (wrap64 ((wrap64 (a0)) - (rd t253 x8_1)))).bind fun bt265 => (if (t258 == a1) = true then (if bt265.2 = 0 then (if bt265.1 = a0 then (some (t256, t257, t258, t259, t260, t261, wrap64 ((wrap64 (a0)) - (rd t253 x8_1)), 0)) else (periluneref04_Decode.l0 k1 a0 a1 t253 (wrap64 (x8_1 + 1)))) else (periluneref04_Decode.l0 k1 a0 a1 t253 (wrap64 (x8_1 + 1)))) else (periluneref04_Decode.l0 k1 a0 a1 t253 (wrap64 (x8_1 + 1))))) else (none)) = some (r1, r2, r3, r4, r5, r6, r7, r8) := H
       have A10 := Aside0.mk A100
       clear A100
       by_cases c11 : 0 ≤ x8_1
       · rw [if_pos c11] at H
         have c11b0 : decide (0 ≤ x8_1) = true := decide_eq_true c11
         clear c11
         replace H := Option.bind_eq_some_iff.mp H
         obtain ⟨⟨t265, t266⟩, A120, H⟩ := H
         replace H : (if (t258 == a1) = true then (if t266 = 0 then (if t265 = a0 then (some (t256, t257, t258, t259, t260, t261, wrap64 ((wrap64 (a0)) - (rd t253 x8_1)), 0)) else (periluneref04_Decode.l0 k1 a0 a1 t253 (wrap64 (x8_1 + 1)))) else (periluneref04_Decode.l0 k1 a0 a1 t253 (wrap64 (x8_1 + 1)))) else (periluneref04_Decode.l0 k1 a0 a1 t253 (wrap64 (x8_1 + 1)))) = some (r1, r2, r3, r4, r5, r6, r7, r8) := H
         have A12 := Aside0.mk A120
         clear A120
         by_cases c13 : (t258 == a1) = true
         · rw [if_pos c13] at H
           have c13b0 : (t258 == a1) = true := c13
           (try (have c13b1 : decide (t258 = a1) = true := by simpa using c13))
           (try (have c13b2 : (t258 == a1) = true := by simpa using c13))
           clear c13
           by_cases c14 : t266 = 0
           · rw [if_pos c14] at H
             have c14b0 : (t266 == 0) = true := beq_iff_eq.mpr c14
             have c14b1 : (t266 != 0) = false := bne_eq_false_iff_eq.mpr c14
             clear c14
             by_cases c15 : t265 = a0
             · rw [if_pos c15] at H
               have c15b0 : (t265 == a0) = true := beq_iff_eq.mpr c15
               have c15b1 : (t265 != a0) = false := bne_eq_false_iff_eq.mpr c15
               clear c15
               simp only [Option.some.injEq, Prod.mk.injEq] at H
               obtain ⟨rfl, rfl, rfl, rfl, rfl, rfl, rfl, rfl⟩ := H
               obtain ⟨Ao16, co16, eo16⟩ := Kd.R_slice HO_7.out
               subst eo16
               try go_wp2_with (first | ((with_reducible refine gate_callee (f := 82) rfl ?_); refine goesL_ (some 27) rfl rfl Tryz.func82 (by kernel_rfl) rfl #[.int .u8 ((wrap64 (x8_1 + 1)) % 256)] rfl (by (try simp only [List.map_toArray, List.map_cons, List.map_nil]); first | done | rfl | (simp only [List.length_drop, List.length_take]; rfl)) ?_; (with_reducible refine (periluneref04_Of.calls k1 ((wrap64 (x8_1 + 1)) % 256) t256 t257 t258 t259 t260 t261 t262 _ A10.out).mono ?_); rintro e w17 ⟨rfl, hb⟩; refine ⟨_, rfl, ?_⟩; have n0_ := Aside0.mk (Kd.R_below (by (with_reducible repeat (first | apply Kd.R_alloc | apply Kd.R_drewN | apply Kd.R_drew)); exact HO_7.out) hb); have n1_ := Aside0.mk (blk_below (g := gb252) (o := .cells #[.int .u8 x253000_1, .string x253001_1, .bool x253002_1, .int .u8 x253003_1, .int .i64 x253004_1, .int .i64 x253005_1] 41 (0, 0)) (by (with_reducible repeat (first | refine blk_drewN ?_ _ | refine blk_drew ?_ | refine blk_alloc ?_ _)); exact BK252.out) hb); have n2_ := Aside0.mk (below_step (by repeat (first | (with_reducible first | exact HB.out | apply below_alloc | apply pw_below_drewN | apply below_drew1 | refine below_set ?_ GE252.out) | exact HB.out)) hb); clear HO_7; clear BK252; clear HB; have HO_7 := n0_; have BK252 := n1_; have HB := n2_; clear n0_ n1_ n2_; (try clear hb); (try clear hb2); (try clear hk); (try clear hi)) | ((with_reducible refine gate_dst (N := 9) rfl ?_); refine box_event ?hg (N := 9) ?hd (cs := #[.int .u8 0, .string (⟨#[]⟩ : ByteArray), .bool false, .int .u8 0, .int .i64 0, .int .i64 0]) (t := 41) ?hr ?_; (case hd => rfl); (case hg => rfl); (case hr => first | (go_simp; done) | (go_simp; rfl)); intro gb263 hg w18 hbox hb; have n0_ := Aside0.mk (Kd.R_below (by (with_reducible repeat (first | apply Kd.R_alloc | apply Kd.R_drewN | apply Kd.R_drew)); exact HO_7.out) hb); have n1_ := Aside0.mk (blk_below (g := gb252) (o := .cells #[.int .u8 x253000_1, .string x253001_1, .bool x253002_1, .int .u8 x253003_1, .int .i64 x253004_1, .int .i64 x253005_1] 41 (0, 0)) (by (with_reducible repeat (first | refine blk_drewN ?_ _ | refine blk_drew ?_ | refine blk_alloc ?_ _)); exact BK252.out) hb); have n2_ := Aside0.mk (below_step (by repeat (first | (with_reducible first | exact HB.out | apply below_alloc | apply pw_below_drewN | apply below_drew1 | refine below_set ?_ GE252.out) | exact HB.out)) hb); have n3_ := Aside0.mk (hbox); have n4_ := Aside0.mk ((by rw [hg]; exact (below_size (by repeat (first | (with_reducible first | exact HB.out | apply below_alloc | apply pw_below_drewN | apply below_drew1 | refine below_set ?_ GE252.out) | exact HB.out))) : w.heap.size ≤ gb263)); have n5_ := Aside0.mk ((by rw [hg]; exact (below_size (by repeat (first | (with_reducible first | exact HB.out | apply below_alloc | apply pw_below_drewN | apply below_drew1 | refine below_set ?_ GE252.out) | exact HB.out))) : w.heap.size ≤ gb263)); have n6_ := Aside0.mk ((by rw [hg]; exact Nat.ne_of_lt (blk_lt (g := gb252) (o := .cells #[.int .u8 x253000_1, .string x253001_1, .bool x253002_1, .int .u8 x253003_1, .int .i64 x253004_1, .int .i64 x253005_1] 41 (0, 0)) (by (with_reducible repeat (first | refine blk_drewN ?_ _ | refine blk_drew ?_ | refine blk_alloc ?_ _)); exact BK252.out)) : gb252 ≠ gb263)); have n7_ := Aside0.mk ((by rw [hg]; exact Nat.ne_of_gt (blk_lt (g := gb252) (o := .cells #[.int .u8 x253000_1, .string x253001_1, .bool x253002_1, .int .u8 x253003_1, .int .i64 x253004_1, .int .i64 x253005_1] 41 (0, 0)) (by (with_reducible repeat (first | refine blk_drewN ?_ _ | refine blk_drew ?_ | refine blk_alloc ?_ _)); exact BK252.out)) : gb263 ≠ gb252)); clear HO_7; clear BK252; clear HB; have HO_7 := n0_; have BK252 := n1_; have HB := n2_; have BK263 := n3_; have GW263 := n4_; have GE263 := n5_; have NB252_263 := n6_; have NB263_252 := n7_; clear n0_ n1_ n2_ n3_ n4_ n5_ n6_ n7_; clear hb hbox hg; have hnb19 := NB263_252.out; have hnc19 := NB252_263.out; have hcz20_0 : w18.cell? ⟨gb263, 0, none⟩ = some (.int .u8 0) := (blk_cell BK263.out 0).trans rfl; have hcz20_1 : w18.cell? ⟨gb263, 1, none⟩ = some (.string (⟨#[]⟩ : ByteArray)) := (blk_cell BK263.out 1).trans rfl; have hcz20_2 : w18.cell? ⟨gb263, 2, none⟩ = some (.bool false) := (blk_cell BK263.out 2).trans rfl; have hcz20_3 : w18.cell? ⟨gb263, 3, none⟩ = some (.int .u8 0) := (blk_cell BK263.out 3).trans rfl; have hcz20_4 : w18.cell? ⟨gb263, 4, none⟩ = some (.int .i64 0) := (blk_cell BK263.out 4).trans rfl; have hcz20_5 : w18.cell? ⟨gb263, 5, none⟩ = some (.int .i64 0) := (blk_cell BK263.out 5).trans rfl; have hfz20_0 := blk_frozen BK263.out 0; have hfz20_1 := blk_frozen BK263.out 1; have hfz20_2 := blk_frozen BK263.out 2; have hfz20_3 := blk_frozen BK263.out 3; have hfz20_4 := blk_frozen BK263.out 4; have hfz20_5 := blk_frozen BK263.out 5))
               have n0_ : Aside0 (Kd.R (Kd.int .i64) 3 ((((((w18.setCell ⟨gb263, 0, none⟩ (.int .u8 t256)).setCell ⟨gb263, 1, none⟩ (.string t257)).setCell ⟨gb263, 2, none⟩ (.bool t258)).setCell ⟨gb263, 3, none⟩ (.int .u8 t259)).setCell ⟨gb263, 4, none⟩ (.int .i64 t260)).setCell ⟨gb263, 5, none⟩ (.int .i64 t261)) w.heap.size (fun _ => True) (.slice Ao16 t253.length co16) t253) := ⟨by (with_reducible repeat (first | apply Kd.R_alloc | apply Kd.R_drewN | apply Kd.R_drew)); exact Kd.R_mono (Kd.R_far (p := ⟨gb263, 5, none⟩) (Kd.R_far (p := ⟨gb263, 4, none⟩) (Kd.R_far (p := ⟨gb263, 3, none⟩) (Kd.R_far (p := ⟨gb263, 2, none⟩) (Kd.R_far (p := ⟨gb263, 1, none⟩) (Kd.R_far (p := ⟨gb263, 0, none⟩) (Kd.R_types HO_7.out BK263.out (by decide)) (fun _ hk => hk.2) (.int .u8 t256)) (fun _ hk => hk.2) (.string t257)) (fun _ hk => hk.2) (.bool t258)) (fun _ hk => hk.2) (.int .u8 t259)) (fun _ hk => hk.2) (.int .i64 t260)) (fun _ hk => hk.2) (.int .i64 t261)) (fun _ hk => trivial)⟩
               have n1_ : Aside0 (((((((w18.setCell ⟨gb263, 0, none⟩ (.int .u8 t256)).setCell ⟨gb263, 1, none⟩ (.string t257)).setCell ⟨gb263, 2, none⟩ (.bool t258)).setCell ⟨gb263, 3, none⟩ (.int .u8 t259)).setCell ⟨gb263, 4, none⟩ (.int .i64 t260)).setCell ⟨gb263, 5, none⟩ (.int .i64 t261)).heap[gb252]? = some (.cells #[.int .u8 x253000_1, .string x253001_1, .bool x253002_1, .int .u8 x253003_1, .int .i64 x253004_1, .int .i64 x253005_1] 41 (0, 0))) := ⟨by (with_reducible repeat (first | refine blk_drewN ?_ _ | refine blk_drew ?_ | refine blk_alloc ?_ _)); refine blk_far ?_ NB252_263.out _; (with_reducible repeat (first | refine blk_drewN ?_ _ | refine blk_drew ?_ | refine blk_alloc ?_ _)); refine blk_far ?_ NB252_263.out _; (with_reducible repeat (first | refine blk_drewN ?_ _ | refine blk_drew ?_ | refine blk_alloc ?_ _)); refine blk_far ?_ NB252_263.out _; (with_reducible repeat (first | refine blk_drewN ?_ _ | refine blk_drew ?_ | refine blk_alloc ?_ _)); refine blk_far ?_ NB252_263.out _; (with_reducible repeat (first | refine blk_drewN ?_ _ | refine blk_drew ?_ | refine blk_alloc ?_ _)); refine blk_far ?_ NB252_263.out _; (with_reducible repeat (first | refine blk_drewN ?_ _ | refine blk_drew ?_ | refine blk_alloc ?_ _)); refine blk_far ?_ NB252_263.out _; (with_reducible repeat (first | refine blk_drewN ?_ _ | refine blk_drew ?_ | refine blk_alloc ?_ _)); exact BK252.out⟩
               have n2_ : Aside0 (((((((w18.setCell ⟨gb263, 0, none⟩ (.int .u8 t256)).setCell ⟨gb263, 1, none⟩ (.string t257)).setCell ⟨gb263, 2, none⟩ (.bool t258)).setCell ⟨gb263, 3, none⟩ (.int .u8 t259)).setCell ⟨gb263, 4, none⟩ (.int .i64 t260)).setCell ⟨gb263, 5, none⟩ (.int .i64 t261)).heap[gb263]? = some (.cells #[.int .u8 t256, .string t257, .bool t258, .int .u8 t259, .int .i64 t260, .int .i64 t261] 41 (0, 0))) := ⟨by (with_reducible repeat (first | refine blk_drewN ?_ _ | refine blk_drew ?_ | refine blk_alloc ?_ _)); refine blk_put (cs := #[.int .u8 t256, .string t257, .bool t258, .int .u8 t259, .int .i64 t260, .int .i64 0]) ?_ 5 _ rfl; (with_reducible repeat (first | refine blk_drewN ?_ _ | refine blk_drew ?_ | refine blk_alloc ?_ _)); refine blk_put (cs := #[.int .u8 t256, .string t257, .bool t258, .int .u8 t259, .int .i64 0, .int .i64 0]) ?_ 4 _ rfl; (with_reducible repeat (first | refine blk_drewN ?_ _ | refine blk_drew ?_ | refine blk_alloc ?_ _)); refine blk_put (cs := #[.int .u8 t256, .string t257, .bool t258, .int .u8 0, .int .i64 0, .int .i64 0]) ?_ 3 _ rfl; (with_reducible repeat (first | refine blk_drewN ?_ _ | refine blk_drew ?_ | refine blk_alloc ?_ _)); refine blk_put (cs := #[.int .u8 t256, .string t257, .bool false, .int .u8 0, .int .i64 0, .int .i64 0]) ?_ 2 _ rfl; (with_reducible repeat (first | refine blk_drewN ?_ _ | refine blk_drew ?_ | refine blk_alloc ?_ _)); refine blk_put (cs := #[.int .u8 t256, .string (⟨#[]⟩ : ByteArray), .bool false, .int .u8 0, .int .i64 0, .int .i64 0]) ?_ 1 _ rfl; (with_reducible repeat (first | refine blk_drewN ?_ _ | refine blk_drew ?_ | refine blk_alloc ?_ _)); refine blk_put (cs := #[.int .u8 0, .string (⟨#[]⟩ : ByteArray), .bool false, .int .u8 0, .int .i64 0, .int .i64 0]) ?_ 0 _ rfl; (with_reducible repeat (first | refine blk_drewN ?_ _ | refine blk_drew ?_ | refine blk_alloc ?_ _)); exact BK263.out⟩
               have n3_ : Aside0 (Below w.heap.size w ((((((w18.setCell ⟨gb263, 0, none⟩ (.int .u8 t256)).setCell ⟨gb263, 1, none⟩ (.string t257)).setCell ⟨gb263, 2, none⟩ (.bool t258)).setCell ⟨gb263, 3, none⟩ (.int .u8 t259)).setCell ⟨gb263, 4, none⟩ (.int .i64 t260)).setCell ⟨gb263, 5, none⟩ (.int .i64 t261))) := ⟨by repeat (first | (with_reducible first | exact HB.out | apply below_alloc | apply pw_below_drewN | apply below_drew1 | refine below_set ?_ GE252.out | refine below_set ?_ GE263.out) | exact HB.out)⟩
               (try clear HO_7)
               (try clear BK252)
               (try clear BK263)
               (try clear HB)
               generalize ((((((w18.setCell ⟨gb263, 0, none⟩ (.int .u8 t256)).setCell ⟨gb263, 1, none⟩ (.string t257)).setCell ⟨gb263, 2, none⟩ (.bool t258)).setCell ⟨gb263, 3, none⟩ (.int .u8 t259)).setCell ⟨gb263, 4, none⟩ (.int .i64 t260)).setCell ⟨gb263, 5, none⟩ (.int .i64 t261)) = w21 at n0_ n1_ n2_ n3_ ⊢
               have HO_7 := n0_
               have BK252 := n1_
               have BK263 := n2_
               have HB := n3_
               clear n0_ n1_ n2_ n3_
               have n0_ := Aside0.mk (Kd.R_drew HO_7.out)
               have n1_ := Aside0.mk (blk_drew BK252.out)
               have n2_ := Aside0.mk (blk_drew BK263.out)
               have n3_ := Aside0.mk (below_drew1 HB.out)
               clear HO_7
               clear BK252
               clear BK263
               clear HB
               have HO_7 := n0_
               have BK252 := n1_
               have BK263 := n2_
               have HB := n3_
               clear n0_ n1_ n2_ n3_
               have p264 : 0 ≤ (x8_1 : Int) := of_decide_eq_true (by first | (with_reducible assumption) | assumption)
               have q264 : x8_1 < (t253.length : Int) := of_decide_eq_true (by first | (with_reducible assumption) | assumption)
               obtain ⟨ad264, e264, hx264_0⟩ := Kd.at_int (Kd.R_reads' HO_7.out).2.2 x8_1 p264 q264
               cases e264
               replace p264 := eq_true p264
               replace q264 := eq_true q264
               refine start_ (n := 14) (S := fun w' => w'.cell? ⟨gb263, 0, none⟩ = some (.int .u8 t256) ∧ w'.cell? ⟨gb263, 1, none⟩ = some (.string t257) ∧ w'.cell? ⟨gb263, 2, none⟩ = some (.bool t258) ∧ w'.cell? ⟨gb263, 3, none⟩ = some (.int .u8 t259) ∧ w'.cell? ⟨gb263, 4, none⟩ = some (.int .i64 t260) ∧ w'.cell? ⟨gb263, 5, none⟩ = some (.int .i64 t261) ∧ w'.cell? (ad264.add (x8_1).toNat) = some (.int .i64 (rd t253 x8_1))) (ds := []) #[false, false, false, false, false, false, false, false, false, false, false, false, false, false] (by kernel_rfl) rfl rfl ⟨(blk_cell BK263.out 0).trans rfl, (blk_cell BK263.out 1).trans rfl, (blk_cell BK263.out 2).trans rfl, (blk_cell BK263.out 3).trans rfl, (blk_cell BK263.out 4).trans rfl, (blk_cell BK263.out 5).trans rfl, hx264_0⟩ (fun hHeld => ?_); refine with_tabW periluneref04_Decode.tab8 periluneref04_Decode.bits8 (fun HT_ HW_ => ?_)
               generalize w21.drew = w22 at HO_7 BK252 BK263 HB hx264_0 hHeld ⊢
               refine pvq_ 1 (some 32) rfl rfl ?_ (any_of HT_.out (by kernel_rfl))
               refine pvq_ 2 (some 33) rfl rfl ?_ (any_of HT_.out (by kernel_rfl))
               refine pvq_ 3 (some 34) rfl rfl ?_ (any_of HT_.out (by kernel_rfl))
               refine pvq_ 4 (some 35) rfl rfl ?_ (any_of HT_.out (by kernel_rfl))
               refine pvq_ 5 (some 36) rfl rfl ?_ (any_of HT_.out (by kernel_rfl))
               refine take_ (i := 0) (N := some 31) (v := ?_) (a' := ?_) #[true, true, true, true, true, true, false, false, false, false, false, false, false, false] rfl rfl (take_ofW HT_.out HW_.out (by kernel_rfl)) (fun _ _ _ h => h) (Or.inl ⟨by rfl, ?_⟩) hHeld ?_ ?_
               rotate_left
               · rintro w' ⟨s0, s1, s2, s3, s4, s5, s6⟩
                 go_simp
                 with_reducible rfl
               rotate_left
               · simp only [Act.put, List.setIfInBounds_toArray, List.set_cons_zero, List.set_cons_succ, i64_w, i32_w]
                 rfl
               refine take_ (i := 6) (N := some 37) (v := ?_) (a' := ?_) #[true, true, true, true, true, true, true, false, false, false, false, false, false, false] rfl rfl (take_ofW HT_.out HW_.out (by kernel_rfl)) (fun _ _ _ h => h) (Or.inl ⟨by rfl, ?_⟩) hHeld ?_ ?_
               rotate_left
               · rintro w' ⟨s0, s1, s2, s3, s4, s5, s6⟩
                 go_simp
                 with_reducible rfl
               rotate_left
               · simp only [Act.put, List.setIfInBounds_toArray, List.set_cons_zero, List.set_cons_succ, i64_w, i32_w]
                 rfl
               refine pvq_ 7 (some 38) rfl rfl ?_ (any_of HT_.out (by kernel_rfl))
               refine onq_ 8 (some 39) rfl rfl (fun K hK => ?_) (one_of HT_.out (by kernel_rfl))
               refine goes_ Tryz.func83 (by kernel_rfl) rfl #[.agg #[.int .u8 t256, .string t257, .bool t258, .int .u8 t259, .int .i64 t260, .int .i64 t261], .int .i64 (wrap64 ((wrap64 (a0)) - (rd t253 x8_1)))] (by rfl) rfl rfl (by (try simp only [List.map_toArray, List.map_cons, List.map_nil]); first | done | rfl | (simp only [List.length_drop, List.length_take]; rfl)) ?_
               with_reducible refine (periluneref04_Encode.calls k1 t256 t257 t258 t259 t260 t261 (wrap64 ((wrap64 (a0)) - (rd t253 x8_1))) t265 t266 _ A12.out).mono ?_
               rintro e w23 ⟨rfl, hb⟩
               have HS6_ := (hb.cell (World.block_lt_of_cell? _ _ (hHeld.2.2.2.2.2.2))).trans (hHeld.2.2.2.2.2.2)
               refine ⟨_, rfl, ?_⟩
               have n0_ := Aside0.mk (Kd.R_below (by (with_reducible repeat (first | apply Kd.R_alloc | apply Kd.R_drewN | apply Kd.R_drew)); exact HO_7.out) hb)
               have n1_ := Aside0.mk (blk_below (g := gb252) (o := .cells #[.int .u8 x253000_1, .string x253001_1, .bool x253002_1, .int .u8 x253003_1, .int .i64 x253004_1, .int .i64 x253005_1] 41 (0, 0)) (by (with_reducible repeat (first | refine blk_drewN ?_ _ | refine blk_drew ?_ | refine blk_alloc ?_ _)); exact BK252.out) hb)
               have n2_ := Aside0.mk (blk_below (g := gb263) (o := .cells #[.int .u8 t256, .string t257, .bool t258, .int .u8 t259, .int .i64 t260, .int .i64 t261] 41 (0, 0)) (by (with_reducible repeat (first | refine blk_drewN ?_ _ | refine blk_drew ?_ | refine blk_alloc ?_ _)); exact BK263.out) hb)
               have n3_ := Aside0.mk (below_step (by repeat (first | (with_reducible first | exact HB.out | apply below_alloc | apply pw_below_drewN | apply below_drew1 | refine below_set ?_ GE252.out | refine below_set ?_ GE263.out) | exact HB.out)) hb)
               clear HO_7
               clear BK252
               clear BK263
               clear HB
               have HO_7 := n0_
               have BK252 := n1_
               have BK263 := n2_
               have HB := n3_
               clear n0_ n1_ n2_ n3_
               (try clear hb)
               (try clear hb2)
               (try clear hk)
               (try clear hi)
               refine hK.out _ _ ⟨(blk_cell BK263.out 0).trans rfl, (blk_cell BK263.out 1).trans rfl, (blk_cell BK263.out 2).trans rfl, (blk_cell BK263.out 3).trans rfl, (blk_cell BK263.out 4).trans rfl, (blk_cell BK263.out 5).trans rfl, HS6_⟩ (fun hHeld => ?_)
               clear hK K
               refine nmq_ (some 39) ?_
               refine pvq_ 9 (some 30) rfl rfl ?_ (any_of HT_.out (by kernel_rfl))
               refine pvq_ 10 (some 40) rfl rfl ?_ (any_of HT_.out (by kernel_rfl))
               refine pvq_ 11 (some 41) rfl rfl ?_ (any_of HT_.out (by kernel_rfl))
               refine pvq_ 12 (some 11) rfl rfl ?_ (any_of HT_.out (by kernel_rfl))
               refine pvq_ 13 (some 12) rfl rfl ?_ (any_of HT_.out (by kernel_rfl))
               refine done_ (done_of HT_.out (by kernel_rfl)) ?_
               have hcz24_0 : w23.cell? ⟨gb263, 0, none⟩ = some (.int .u8 t256) := (blk_cell BK263.out 0).trans rfl
               have hcz24_1 : w23.cell? ⟨gb263, 1, none⟩ = some (.string t257) := (blk_cell BK263.out 1).trans rfl
               have hcz24_2 : w23.cell? ⟨gb263, 2, none⟩ = some (.bool t258) := (blk_cell BK263.out 2).trans rfl
               have hcz24_3 : w23.cell? ⟨gb263, 3, none⟩ = some (.int .u8 t259) := (blk_cell BK263.out 3).trans rfl
               have hcz24_4 : w23.cell? ⟨gb263, 4, none⟩ = some (.int .i64 t260) := (blk_cell BK263.out 4).trans rfl
               have hcz24_5 : w23.cell? ⟨gb263, 5, none⟩ = some (.int .i64 t261) := (blk_cell BK263.out 5).trans rfl
               have hfz24_0 := blk_frozen BK263.out 0
               have hfz24_1 := blk_frozen BK263.out 1
               have hfz24_2 := blk_frozen BK263.out 2
               have hfz24_3 := blk_frozen BK263.out 3
               have hfz24_4 := blk_frozen BK263.out 4
               have hfz24_5 := blk_frozen BK263.out 5
               try go_wp2
               have n0_ := Aside0.mk (Kd.R_drew HO_7.out)
               have n1_ := Aside0.mk (blk_drew BK252.out)
               have n2_ := Aside0.mk (blk_drew BK263.out)
               have n3_ := Aside0.mk (below_drew1 HB.out)
               clear HO_7
               clear BK252
               clear BK263
               clear HB
               have HO_7 := n0_
               have BK252 := n1_
               have BK263 := n2_
               have HB := n3_
               clear n0_ n1_ n2_ n3_
               have p267 : 0 ≤ (x8_1 : Int) := of_decide_eq_true (by first | (with_reducible assumption) | assumption)
               have q267 : x8_1 < (t253.length : Int) := of_decide_eq_true (by first | (with_reducible assumption) | assumption)
               obtain ⟨ad267, e267, hx267_0⟩ := Kd.at_int (Kd.R_reads' HO_7.out).2.2 x8_1 p267 q267
               obtain rfl : ad264 = ad267 := (by injection e267)
               replace p267 := eq_true p267
               replace q267 := eq_true q267
               refine start_ (n := 11) (S := fun w' => w'.cell? ⟨gb263, 0, none⟩ = some (.int .u8 t256) ∧ w'.cell? ⟨gb263, 1, none⟩ = some (.string t257) ∧ w'.cell? ⟨gb263, 2, none⟩ = some (.bool t258) ∧ w'.cell? ⟨gb263, 3, none⟩ = some (.int .u8 t259) ∧ w'.cell? ⟨gb263, 4, none⟩ = some (.int .i64 t260) ∧ w'.cell? ⟨gb263, 5, none⟩ = some (.int .i64 t261) ∧ w'.cell? (ad264.add (x8_1).toNat) = some (.int .i64 (rd t253 x8_1))) (ds := []) #[false, false, false, false, false, false, false, false, false, false, false] (by kernel_rfl) rfl rfl ⟨(blk_cell BK263.out 0).trans rfl, (blk_cell BK263.out 1).trans rfl, (blk_cell BK263.out 2).trans rfl, (blk_cell BK263.out 3).trans rfl, (blk_cell BK263.out 4).trans rfl, (blk_cell BK263.out 5).trans rfl, hx267_0⟩ (fun hHeld => ?_); refine with_tabW periluneref04_Decode.tab10 periluneref04_Decode.bits10 (fun HT_ HW_ => ?_)
               generalize w23.drew = w25 at HO_7 BK252 BK263 HB hx267_0 hHeld ⊢
               refine pvq_ 1 (some 56) rfl rfl ?_ (any_of HT_.out (by kernel_rfl))
               refine pvq_ 2 (some 57) rfl rfl ?_ (any_of HT_.out (by kernel_rfl))
               refine pvq_ 3 (some 58) rfl rfl ?_ (any_of HT_.out (by kernel_rfl))
               refine pvq_ 4 (some 59) rfl rfl ?_ (any_of HT_.out (by kernel_rfl))
               refine pvq_ 5 (some 60) rfl rfl ?_ (any_of HT_.out (by kernel_rfl))
               refine take_ (i := 0) (N := some 55) (v := ?_) (a' := ?_) #[true, true, true, true, true, true, false, false, false, false, false] rfl rfl (take_ofW HT_.out HW_.out (by kernel_rfl)) (fun _ _ _ h => h) (Or.inl ⟨by rfl, ?_⟩) hHeld ?_ ?_
               rotate_left
               · rintro w' ⟨s0, s1, s2, s3, s4, s5, s6⟩
                 go_simp
                 with_reducible rfl
               rotate_left
               · simp only [Act.put, List.setIfInBounds_toArray, List.set_cons_zero, List.set_cons_succ, i64_w, i32_w]
                 rfl
               refine take_ (i := 6) (N := some 61) (v := ?_) (a' := ?_) #[true, true, true, true, true, true, true, false, false, false, false] rfl rfl (take_ofW HT_.out HW_.out (by kernel_rfl)) (fun _ _ _ h => h) (Or.inl ⟨by rfl, ?_⟩) hHeld ?_ ?_
               rotate_left
               · rintro w' ⟨s0, s1, s2, s3, s4, s5, s6⟩
                 go_simp
                 with_reducible rfl
               rotate_left
               · simp only [Act.put, List.setIfInBounds_toArray, List.set_cons_zero, List.set_cons_succ, i64_w, i32_w]
                 rfl
               refine pvq_ 7 (some 62) rfl rfl ?_ (any_of HT_.out (by kernel_rfl))
               refine onq_ 8 none rfl rfl (fun K hK => ?_) (one_of HT_.out (by kernel_rfl))
               have hs26 : w25.cell? ⟨gb252, 0, none⟩ = some (.int .u8 x253000_1) := (blk_cell BK252.out 0).trans rfl
               have hfs26 := blk_frozen BK252.out 0
               have hns26_1 := NB263_252.out
               have hms26_1 := NB252_263.out
               have hs27 : w25.cell? ⟨gb252, 1, none⟩ = some (.string x253001_1) := (blk_cell BK252.out 1).trans rfl
               have hfs27 := blk_frozen BK252.out 1
               have hns27_1 := NB263_252.out
               have hms27_1 := NB252_263.out
               have hs28 : w25.cell? ⟨gb252, 2, none⟩ = some (.bool x253002_1) := (blk_cell BK252.out 2).trans rfl
               have hfs28 := blk_frozen BK252.out 2
               have hns28_1 := NB263_252.out
               have hms28_1 := NB252_263.out
               have hs29 : w25.cell? ⟨gb252, 3, none⟩ = some (.int .u8 x253003_1) := (blk_cell BK252.out 3).trans rfl
               have hfs29 := blk_frozen BK252.out 3
               have hns29_1 := NB263_252.out
               have hms29_1 := NB252_263.out
               have hs30 : w25.cell? ⟨gb252, 4, none⟩ = some (.int .i64 x253004_1) := (blk_cell BK252.out 4).trans rfl
               have hfs30 := blk_frozen BK252.out 4
               have hns30_1 := NB263_252.out
               have hms30_1 := NB252_263.out
               have hs31 : w25.cell? ⟨gb252, 5, none⟩ = some (.int .i64 x253005_1) := (blk_cell BK252.out 5).trans rfl
               have hfs31 := blk_frozen BK252.out 5
               have hns31_1 := NB263_252.out
               have hms31_1 := NB252_263.out
               refine skip_ (w1 := ?_) (by rfl) rfl ?_ ?_
               rotate_left
               · go_simp
                 rfl
               refine hK.out _ _ ⟨((cell_far (p := ⟨gb252, _, none⟩) NB263_252.out _).trans (((cell_far (p := ⟨gb252, _, none⟩) NB263_252.out _).trans (((cell_far (p := ⟨gb252, _, none⟩) NB263_252.out _).trans (((cell_far (p := ⟨gb252, _, none⟩) NB263_252.out _).trans (((cell_far (p := ⟨gb252, _, none⟩) NB263_252.out _).trans (((cell_far (p := ⟨gb252, _, none⟩) NB263_252.out _).trans (hHeld.1)))))))))))), ((cell_far (p := ⟨gb252, _, none⟩) NB263_252.out _).trans (((cell_far (p := ⟨gb252, _, none⟩) NB263_252.out _).trans (((cell_far (p := ⟨gb252, _, none⟩) NB263_252.out _).trans (((cell_far (p := ⟨gb252, _, none⟩) NB263_252.out _).trans (((cell_far (p := ⟨gb252, _, none⟩) NB263_252.out _).trans (((cell_far (p := ⟨gb252, _, none⟩) NB263_252.out _).trans (hHeld.2.1)))))))))))), ((cell_far (p := ⟨gb252, _, none⟩) NB263_252.out _).trans (((cell_far (p := ⟨gb252, _, none⟩) NB263_252.out _).trans (((cell_far (p := ⟨gb252, _, none⟩) NB263_252.out _).trans (((cell_far (p := ⟨gb252, _, none⟩) NB263_252.out _).trans (((cell_far (p := ⟨gb252, _, none⟩) NB263_252.out _).trans (((cell_far (p := ⟨gb252, _, none⟩) NB263_252.out _).trans (hHeld.2.2.1)))))))))))), ((cell_far (p := ⟨gb252, _, none⟩) NB263_252.out _).trans (((cell_far (p := ⟨gb252, _, none⟩) NB263_252.out _).trans (((cell_far (p := ⟨gb252, _, none⟩) NB263_252.out _).trans (((cell_far (p := ⟨gb252, _, none⟩) NB263_252.out _).trans (((cell_far (p := ⟨gb252, _, none⟩) NB263_252.out _).trans (((cell_far (p := ⟨gb252, _, none⟩) NB263_252.out _).trans (hHeld.2.2.2.1)))))))))))), ((cell_far (p := ⟨gb252, _, none⟩) NB263_252.out _).trans (((cell_far (p := ⟨gb252, _, none⟩) NB263_252.out _).trans (((cell_far (p := ⟨gb252, _, none⟩) NB263_252.out _).trans (((cell_far (p := ⟨gb252, _, none⟩) NB263_252.out _).trans (((cell_far (p := ⟨gb252, _, none⟩) NB263_252.out _).trans (((cell_far (p := ⟨gb252, _, none⟩) NB263_252.out _).trans (hHeld.2.2.2.2.1)))))))))))), ((cell_far (p := ⟨gb252, _, none⟩) NB263_252.out _).trans (((cell_far (p := ⟨gb252, _, none⟩) NB263_252.out _).trans (((cell_far (p := ⟨gb252, _, none⟩) NB263_252.out _).trans (((cell_far (p := ⟨gb252, _, none⟩) NB263_252.out _).trans (((cell_far (p := ⟨gb252, _, none⟩) NB263_252.out _).trans (((cell_far (p := ⟨gb252, _, none⟩) NB263_252.out _).trans (hHeld.2.2.2.2.2.1)))))))))))), ((cell_far (p := ⟨gb252, _, none⟩) (by first | exact Kd.own_blk (Kd.R_ne HO_7.out BK252.out (by decide)) | (rw [add_block]; exact Kd.own_blk (Kd.R_ne HO_7.out BK252.out (by decide))) | (show (Addr.add _ _).block ≠ _; rw [add_block]; exact Kd.own_blk (Kd.R_ne HO_7.out BK252.out (by decide))) | (dsimp only; exact Kd.own_blk (Kd.R_ne HO_7.out BK252.out (by decide)))) _).trans (((cell_far (p := ⟨gb252, _, none⟩) (by first | exact Kd.own_blk (Kd.R_ne HO_7.out BK252.out (by decide)) | (rw [add_block]; exact Kd.own_blk (Kd.R_ne HO_7.out BK252.out (by decide))) | (show (Addr.add _ _).block ≠ _; rw [add_block]; exact Kd.own_blk (Kd.R_ne HO_7.out BK252.out (by decide))) | (dsimp only; exact Kd.own_blk (Kd.R_ne HO_7.out BK252.out (by decide)))) _).trans (((cell_far (p := ⟨gb252, _, none⟩) (by first | exact Kd.own_blk (Kd.R_ne HO_7.out BK252.out (by decide)) | (rw [add_block]; exact Kd.own_blk (Kd.R_ne HO_7.out BK252.out (by decide))) | (show (Addr.add _ _).block ≠ _; rw [add_block]; exact Kd.own_blk (Kd.R_ne HO_7.out BK252.out (by decide))) | (dsimp only; exact Kd.own_blk (Kd.R_ne HO_7.out BK252.out (by decide)))) _).trans (((cell_far (p := ⟨gb252, _, none⟩) (by first | exact Kd.own_blk (Kd.R_ne HO_7.out BK252.out (by decide)) | (rw [add_block]; exact Kd.own_blk (Kd.R_ne HO_7.out BK252.out (by decide))) | (show (Addr.add _ _).block ≠ _; rw [add_block]; exact Kd.own_blk (Kd.R_ne HO_7.out BK252.out (by decide))) | (dsimp only; exact Kd.own_blk (Kd.R_ne HO_7.out BK252.out (by decide)))) _).trans (((cell_far (p := ⟨gb252, _, none⟩) (by first | exact Kd.own_blk (Kd.R_ne HO_7.out BK252.out (by decide)) | (rw [add_block]; exact Kd.own_blk (Kd.R_ne HO_7.out BK252.out (by decide))) | (show (Addr.add _ _).block ≠ _; rw [add_block]; exact Kd.own_blk (Kd.R_ne HO_7.out BK252.out (by decide))) | (dsimp only; exact Kd.own_blk (Kd.R_ne HO_7.out BK252.out (by decide)))) _).trans (((cell_far (p := ⟨gb252, _, none⟩) (by first | exact Kd.own_blk (Kd.R_ne HO_7.out BK252.out (by decide)) | (rw [add_block]; exact Kd.own_blk (Kd.R_ne HO_7.out BK252.out (by decide))) | (show (Addr.add _ _).block ≠ _; rw [add_block]; exact Kd.own_blk (Kd.R_ne HO_7.out BK252.out (by decide))) | (dsimp only; exact Kd.own_blk (Kd.R_ne HO_7.out BK252.out (by decide)))) _).trans (hHeld.2.2.2.2.2.2))))))))))))⟩ (fun hHeld => ?_)
               clear hK K
               refine pvq_ 9 (some 5) rfl rfl ?_ (any_of HT_.out (by kernel_rfl))
               refine pvq_ 10 (some 6) rfl rfl ?_ (any_of HT_.out (by kernel_rfl))
               refine done_ (done_of HT_.out (by kernel_rfl)) ?_
               try go_wp2
               refine bodyPost_ret (results_ctt rfl _ _ gb252 41 #[.int .u8 t256, .string t257, .bool t258, .int .u8 t259, .int .i64 t260, .int .i64 t261] (0, 0) _ rfl (by (with_reducible repeat (first | refine blk_drewN ?_ _ | refine blk_drew ?_ | refine blk_alloc ?_ _)); refine blk_put (cs := #[.int .u8 t256, .string t257, .bool t258, .int .u8 t259, .int .i64 t260, .int .i64 x253005_1]) ?_ 5 _ rfl; (with_reducible repeat (first | refine blk_drewN ?_ _ | refine blk_drew ?_ | refine blk_alloc ?_ _)); refine blk_put (cs := #[.int .u8 t256, .string t257, .bool t258, .int .u8 t259, .int .i64 x253004_1, .int .i64 x253005_1]) ?_ 4 _ rfl; (with_reducible repeat (first | refine blk_drewN ?_ _ | refine blk_drew ?_ | refine blk_alloc ?_ _)); refine blk_put (cs := #[.int .u8 t256, .string t257, .bool t258, .int .u8 x253003_1, .int .i64 x253004_1, .int .i64 x253005_1]) ?_ 3 _ rfl; (with_reducible repeat (first | refine blk_drewN ?_ _ | refine blk_drew ?_ | refine blk_alloc ?_ _)); refine blk_put (cs := #[.int .u8 t256, .string t257, .bool x253002_1, .int .u8 x253003_1, .int .i64 x253004_1, .int .i64 x253005_1]) ?_ 2 _ rfl; (with_reducible repeat (first | refine blk_drewN ?_ _ | refine blk_drew ?_ | refine blk_alloc ?_ _)); refine blk_put (cs := #[.int .u8 t256, .string x253001_1, .bool x253002_1, .int .u8 x253003_1, .int .i64 x253004_1, .int .i64 x253005_1]) ?_ 1 _ rfl; (with_reducible repeat (first | refine blk_drewN ?_ _ | refine blk_drew ?_ | refine blk_alloc ?_ _)); refine blk_put (cs := #[.int .u8 x253000_1, .string x253001_1, .bool x253002_1, .int .u8 x253003_1, .int .i64 x253004_1, .int .i64 x253005_1]) ?_ 0 _ rfl; (with_reducible repeat (first | refine blk_drewN ?_ _ | refine blk_drew ?_ | refine blk_alloc ?_ _)); exact BK252.out) Tryz.underlying41 rfl (by kernel_rfl)) rfl ?_
               exact ⟨by first | rfl | (simp [errW_none, errW_some] <;> rfl) | (simp [*, errW_none, errW_some] <;> rfl), by repeat (first | (with_reducible first | exact HB.out | apply below_alloc | apply pw_below_drewN | apply below_drew1 | refine below_set ?_ GE252.out | refine below_set ?_ GE263.out) | exact HB.out)⟩
             · rw [if_neg c15] at H
               have c15b0 : (t265 == a0) = false := beq_eq_false_iff_ne.mpr c15
               have c15b1 : (t265 != a0) = true := bne_iff_ne.mpr c15
               have H' := Aside0.mk H
               clear H
               obtain ⟨Ao32, co32, eo32⟩ := Kd.R_slice HO_7.out
               subst eo32
               try go_wp2_with (first | ((with_reducible refine gate_callee (f := 82) rfl ?_); refine goesL_ (some 27) rfl rfl Tryz.func82 (by kernel_rfl) rfl #[.int .u8 ((wrap64 (x8_1 + 1)) % 256)] rfl (by (try simp only [List.map_toArray, List.map_cons, List.map_nil]); first | done | rfl | (simp only [List.length_drop, List.length_take]; rfl)) ?_; (with_reducible refine (periluneref04_Of.calls k1 ((wrap64 (x8_1 + 1)) % 256) t256 t257 t258 t259 t260 t261 t262 _ A10.out).mono ?_); rintro e w33 ⟨rfl, hb⟩; refine ⟨_, rfl, ?_⟩; have n0_ := Aside0.mk (Kd.R_below (by (with_reducible repeat (first | apply Kd.R_alloc | apply Kd.R_drewN | apply Kd.R_drew)); exact HO_7.out) hb); have n1_ := Aside0.mk (blk_below (g := gb252) (o := .cells #[.int .u8 x253000_1, .string x253001_1, .bool x253002_1, .int .u8 x253003_1, .int .i64 x253004_1, .int .i64 x253005_1] 41 (0, 0)) (by (with_reducible repeat (first | refine blk_drewN ?_ _ | refine blk_drew ?_ | refine blk_alloc ?_ _)); exact BK252.out) hb); have n2_ := Aside0.mk (below_step (by repeat (first | (with_reducible first | exact HB.out | apply below_alloc | apply pw_below_drewN | apply below_drew1 | refine below_set ?_ GE252.out) | exact HB.out)) hb); clear HO_7; clear BK252; clear HB; have HO_7 := n0_; have BK252 := n1_; have HB := n2_; clear n0_ n1_ n2_; (try clear hb); (try clear hb2); (try clear hk); (try clear hi)) | ((with_reducible refine gate_dst (N := 9) rfl ?_); refine box_event ?hg (N := 9) ?hd (cs := #[.int .u8 0, .string (⟨#[]⟩ : ByteArray), .bool false, .int .u8 0, .int .i64 0, .int .i64 0]) (t := 41) ?hr ?_; (case hd => rfl); (case hg => rfl); (case hr => first | (go_simp; done) | (go_simp; rfl)); intro gb263 hg w34 hbox hb; have n0_ := Aside0.mk (Kd.R_below (by (with_reducible repeat (first | apply Kd.R_alloc | apply Kd.R_drewN | apply Kd.R_drew)); exact HO_7.out) hb); have n1_ := Aside0.mk (blk_below (g := gb252) (o := .cells #[.int .u8 x253000_1, .string x253001_1, .bool x253002_1, .int .u8 x253003_1, .int .i64 x253004_1, .int .i64 x253005_1] 41 (0, 0)) (by (with_reducible repeat (first | refine blk_drewN ?_ _ | refine blk_drew ?_ | refine blk_alloc ?_ _)); exact BK252.out) hb); have n2_ := Aside0.mk (below_step (by repeat (first | (with_reducible first | exact HB.out | apply below_alloc | apply pw_below_drewN | apply below_drew1 | refine below_set ?_ GE252.out) | exact HB.out)) hb); have n3_ := Aside0.mk (hbox); have n4_ := Aside0.mk ((by rw [hg]; exact (below_size (by repeat (first | (with_reducible first | exact HB.out | apply below_alloc | apply pw_below_drewN | apply below_drew1 | refine below_set ?_ GE252.out) | exact HB.out))) : w.heap.size ≤ gb263)); have n5_ := Aside0.mk ((by rw [hg]; exact (below_size (by repeat (first | (with_reducible first | exact HB.out | apply below_alloc | apply pw_below_drewN | apply below_drew1 | refine below_set ?_ GE252.out) | exact HB.out))) : w.heap.size ≤ gb263)); have n6_ := Aside0.mk ((by rw [hg]; exact Nat.ne_of_lt (blk_lt (g := gb252) (o := .cells #[.int .u8 x253000_1, .string x253001_1, .bool x253002_1, .int .u8 x253003_1, .int .i64 x253004_1, .int .i64 x253005_1] 41 (0, 0)) (by (with_reducible repeat (first | refine blk_drewN ?_ _ | refine blk_drew ?_ | refine blk_alloc ?_ _)); exact BK252.out)) : gb252 ≠ gb263)); have n7_ := Aside0.mk ((by rw [hg]; exact Nat.ne_of_gt (blk_lt (g := gb252) (o := .cells #[.int .u8 x253000_1, .string x253001_1, .bool x253002_1, .int .u8 x253003_1, .int .i64 x253004_1, .int .i64 x253005_1] 41 (0, 0)) (by (with_reducible repeat (first | refine blk_drewN ?_ _ | refine blk_drew ?_ | refine blk_alloc ?_ _)); exact BK252.out)) : gb263 ≠ gb252)); clear HO_7; clear BK252; clear HB; have HO_7 := n0_; have BK252 := n1_; have HB := n2_; have BK263 := n3_; have GW263 := n4_; have GE263 := n5_; have NB252_263 := n6_; have NB263_252 := n7_; clear n0_ n1_ n2_ n3_ n4_ n5_ n6_ n7_; clear hb hbox hg; have hnb35 := NB263_252.out; have hnc35 := NB252_263.out; have hcz36_0 : w34.cell? ⟨gb263, 0, none⟩ = some (.int .u8 0) := (blk_cell BK263.out 0).trans rfl; have hcz36_1 : w34.cell? ⟨gb263, 1, none⟩ = some (.string (⟨#[]⟩ : ByteArray)) := (blk_cell BK263.out 1).trans rfl; have hcz36_2 : w34.cell? ⟨gb263, 2, none⟩ = some (.bool false) := (blk_cell BK263.out 2).trans rfl; have hcz36_3 : w34.cell? ⟨gb263, 3, none⟩ = some (.int .u8 0) := (blk_cell BK263.out 3).trans rfl; have hcz36_4 : w34.cell? ⟨gb263, 4, none⟩ = some (.int .i64 0) := (blk_cell BK263.out 4).trans rfl; have hcz36_5 : w34.cell? ⟨gb263, 5, none⟩ = some (.int .i64 0) := (blk_cell BK263.out 5).trans rfl; have hfz36_0 := blk_frozen BK263.out 0; have hfz36_1 := blk_frozen BK263.out 1; have hfz36_2 := blk_frozen BK263.out 2; have hfz36_3 := blk_frozen BK263.out 3; have hfz36_4 := blk_frozen BK263.out 4; have hfz36_5 := blk_frozen BK263.out 5))
               have n0_ : Aside0 (Kd.R (Kd.int .i64) 3 ((((((w34.setCell ⟨gb263, 0, none⟩ (.int .u8 t256)).setCell ⟨gb263, 1, none⟩ (.string t257)).setCell ⟨gb263, 2, none⟩ (.bool t258)).setCell ⟨gb263, 3, none⟩ (.int .u8 t259)).setCell ⟨gb263, 4, none⟩ (.int .i64 t260)).setCell ⟨gb263, 5, none⟩ (.int .i64 t261)) w.heap.size (fun _ => True) (.slice Ao32 t253.length co32) t253) := ⟨by (with_reducible repeat (first | apply Kd.R_alloc | apply Kd.R_drewN | apply Kd.R_drew)); exact Kd.R_mono (Kd.R_far (p := ⟨gb263, 5, none⟩) (Kd.R_far (p := ⟨gb263, 4, none⟩) (Kd.R_far (p := ⟨gb263, 3, none⟩) (Kd.R_far (p := ⟨gb263, 2, none⟩) (Kd.R_far (p := ⟨gb263, 1, none⟩) (Kd.R_far (p := ⟨gb263, 0, none⟩) (Kd.R_types HO_7.out BK263.out (by decide)) (fun _ hk => hk.2) (.int .u8 t256)) (fun _ hk => hk.2) (.string t257)) (fun _ hk => hk.2) (.bool t258)) (fun _ hk => hk.2) (.int .u8 t259)) (fun _ hk => hk.2) (.int .i64 t260)) (fun _ hk => hk.2) (.int .i64 t261)) (fun _ hk => trivial)⟩
               have n1_ : Aside0 (((((((w34.setCell ⟨gb263, 0, none⟩ (.int .u8 t256)).setCell ⟨gb263, 1, none⟩ (.string t257)).setCell ⟨gb263, 2, none⟩ (.bool t258)).setCell ⟨gb263, 3, none⟩ (.int .u8 t259)).setCell ⟨gb263, 4, none⟩ (.int .i64 t260)).setCell ⟨gb263, 5, none⟩ (.int .i64 t261)).heap[gb252]? = some (.cells #[.int .u8 x253000_1, .string x253001_1, .bool x253002_1, .int .u8 x253003_1, .int .i64 x253004_1, .int .i64 x253005_1] 41 (0, 0))) := ⟨by (with_reducible repeat (first | refine blk_drewN ?_ _ | refine blk_drew ?_ | refine blk_alloc ?_ _)); refine blk_far ?_ NB252_263.out _; (with_reducible repeat (first | refine blk_drewN ?_ _ | refine blk_drew ?_ | refine blk_alloc ?_ _)); refine blk_far ?_ NB252_263.out _; (with_reducible repeat (first | refine blk_drewN ?_ _ | refine blk_drew ?_ | refine blk_alloc ?_ _)); refine blk_far ?_ NB252_263.out _; (with_reducible repeat (first | refine blk_drewN ?_ _ | refine blk_drew ?_ | refine blk_alloc ?_ _)); refine blk_far ?_ NB252_263.out _; (with_reducible repeat (first | refine blk_drewN ?_ _ | refine blk_drew ?_ | refine blk_alloc ?_ _)); refine blk_far ?_ NB252_263.out _; (with_reducible repeat (first | refine blk_drewN ?_ _ | refine blk_drew ?_ | refine blk_alloc ?_ _)); refine blk_far ?_ NB252_263.out _; (with_reducible repeat (first | refine blk_drewN ?_ _ | refine blk_drew ?_ | refine blk_alloc ?_ _)); exact BK252.out⟩
               have n2_ : Aside0 (((((((w34.setCell ⟨gb263, 0, none⟩ (.int .u8 t256)).setCell ⟨gb263, 1, none⟩ (.string t257)).setCell ⟨gb263, 2, none⟩ (.bool t258)).setCell ⟨gb263, 3, none⟩ (.int .u8 t259)).setCell ⟨gb263, 4, none⟩ (.int .i64 t260)).setCell ⟨gb263, 5, none⟩ (.int .i64 t261)).heap[gb263]? = some (.cells #[.int .u8 t256, .string t257, .bool t258, .int .u8 t259, .int .i64 t260, .int .i64 t261] 41 (0, 0))) := ⟨by (with_reducible repeat (first | refine blk_drewN ?_ _ | refine blk_drew ?_ | refine blk_alloc ?_ _)); refine blk_put (cs := #[.int .u8 t256, .string t257, .bool t258, .int .u8 t259, .int .i64 t260, .int .i64 0]) ?_ 5 _ rfl; (with_reducible repeat (first | refine blk_drewN ?_ _ | refine blk_drew ?_ | refine blk_alloc ?_ _)); refine blk_put (cs := #[.int .u8 t256, .string t257, .bool t258, .int .u8 t259, .int .i64 0, .int .i64 0]) ?_ 4 _ rfl; (with_reducible repeat (first | refine blk_drewN ?_ _ | refine blk_drew ?_ | refine blk_alloc ?_ _)); refine blk_put (cs := #[.int .u8 t256, .string t257, .bool t258, .int .u8 0, .int .i64 0, .int .i64 0]) ?_ 3 _ rfl; (with_reducible repeat (first | refine blk_drewN ?_ _ | refine blk_drew ?_ | refine blk_alloc ?_ _)); refine blk_put (cs := #[.int .u8 t256, .string t257, .bool false, .int .u8 0, .int .i64 0, .int .i64 0]) ?_ 2 _ rfl; (with_reducible repeat (first | refine blk_drewN ?_ _ | refine blk_drew ?_ | refine blk_alloc ?_ _)); refine blk_put (cs := #[.int .u8 t256, .string (⟨#[]⟩ : ByteArray), .bool false, .int .u8 0, .int .i64 0, .int .i64 0]) ?_ 1 _ rfl; (with_reducible repeat (first | refine blk_drewN ?_ _ | refine blk_drew ?_ | refine blk_alloc ?_ _)); refine blk_put (cs := #[.int .u8 0, .string (⟨#[]⟩ : ByteArray), .bool false, .int .u8 0, .int .i64 0, .int .i64 0]) ?_ 0 _ rfl; (with_reducible repeat (first | refine blk_drewN ?_ _ | refine blk_drew ?_ | refine blk_alloc ?_ _)); exact BK263.out⟩
               have n3_ : Aside0 (Below w.heap.size w ((((((w34.setCell ⟨gb263, 0, none⟩ (.int .u8 t256)).setCell ⟨gb263, 1, none⟩ (.string t257)).setCell ⟨gb263, 2, none⟩ (.bool t258)).setCell ⟨gb263, 3, none⟩ (.int .u8 t259)).setCell ⟨gb263, 4, none⟩ (.int .i64 t260)).setCell ⟨gb263, 5, none⟩ (.int .i64 t261))) := ⟨by repeat (first | (with_reducible first | exact HB.out | apply below_alloc | apply pw_below_drewN | apply below_drew1 | refine below_set ?_ GE252.out | refine below_set ?_ GE263.out) | exact HB.out)⟩
               (try clear HO_7)
               (try clear BK252)
               (try clear BK263)
               (try clear HB)
               generalize ((((((w34.setCell ⟨gb263, 0, none⟩ (.int .u8 t256)).setCell ⟨gb263, 1, none⟩ (.string t257)).setCell ⟨gb263, 2, none⟩ (.bool t258)).setCell ⟨gb263, 3, none⟩ (.int .u8 t259)).setCell ⟨gb263, 4, none⟩ (.int .i64 t260)).setCell ⟨gb263, 5, none⟩ (.int .i64 t261)) = w37 at n0_ n1_ n2_ n3_ ⊢
               have HO_7 := n0_
               have BK252 := n1_
               have BK263 := n2_
               have HB := n3_
               clear n0_ n1_ n2_ n3_
               have n0_ := Aside0.mk (Kd.R_drew HO_7.out)
               have n1_ := Aside0.mk (blk_drew BK252.out)
               have n2_ := Aside0.mk (blk_drew BK263.out)
               have n3_ := Aside0.mk (below_drew1 HB.out)
               clear HO_7
               clear BK252
               clear BK263
               clear HB
               have HO_7 := n0_
               have BK252 := n1_
               have BK263 := n2_
               have HB := n3_
               clear n0_ n1_ n2_ n3_
               have p264 : 0 ≤ (x8_1 : Int) := of_decide_eq_true (by first | (with_reducible assumption) | assumption)
               have q264 : x8_1 < (t253.length : Int) := of_decide_eq_true (by first | (with_reducible assumption) | assumption)
               obtain ⟨ad264, e264, hx264_0⟩ := Kd.at_int (Kd.R_reads' HO_7.out).2.2 x8_1 p264 q264
               cases e264
               replace p264 := eq_true p264
               replace q264 := eq_true q264
               refine start_ (n := 14) (S := fun w' => w'.cell? ⟨gb263, 0, none⟩ = some (.int .u8 t256) ∧ w'.cell? ⟨gb263, 1, none⟩ = some (.string t257) ∧ w'.cell? ⟨gb263, 2, none⟩ = some (.bool t258) ∧ w'.cell? ⟨gb263, 3, none⟩ = some (.int .u8 t259) ∧ w'.cell? ⟨gb263, 4, none⟩ = some (.int .i64 t260) ∧ w'.cell? ⟨gb263, 5, none⟩ = some (.int .i64 t261) ∧ w'.cell? (ad264.add (x8_1).toNat) = some (.int .i64 (rd t253 x8_1))) (ds := []) #[false, false, false, false, false, false, false, false, false, false, false, false, false, false] (by kernel_rfl) rfl rfl ⟨(blk_cell BK263.out 0).trans rfl, (blk_cell BK263.out 1).trans rfl, (blk_cell BK263.out 2).trans rfl, (blk_cell BK263.out 3).trans rfl, (blk_cell BK263.out 4).trans rfl, (blk_cell BK263.out 5).trans rfl, hx264_0⟩ (fun hHeld => ?_); refine with_tabW periluneref04_Decode.tab8 periluneref04_Decode.bits8 (fun HT_ HW_ => ?_)
               generalize w37.drew = w38 at HO_7 BK252 BK263 HB hx264_0 hHeld ⊢
               refine pvq_ 1 (some 32) rfl rfl ?_ (any_of HT_.out (by kernel_rfl))
               refine pvq_ 2 (some 33) rfl rfl ?_ (any_of HT_.out (by kernel_rfl))
               refine pvq_ 3 (some 34) rfl rfl ?_ (any_of HT_.out (by kernel_rfl))
               refine pvq_ 4 (some 35) rfl rfl ?_ (any_of HT_.out (by kernel_rfl))
               refine pvq_ 5 (some 36) rfl rfl ?_ (any_of HT_.out (by kernel_rfl))
               refine take_ (i := 0) (N := some 31) (v := ?_) (a' := ?_) #[true, true, true, true, true, true, false, false, false, false, false, false, false, false] rfl rfl (take_ofW HT_.out HW_.out (by kernel_rfl)) (fun _ _ _ h => h) (Or.inl ⟨by rfl, ?_⟩) hHeld ?_ ?_
               rotate_left
               · rintro w' ⟨s0, s1, s2, s3, s4, s5, s6⟩
                 go_simp
                 with_reducible rfl
               rotate_left
               · simp only [Act.put, List.setIfInBounds_toArray, List.set_cons_zero, List.set_cons_succ, i64_w, i32_w]
                 rfl
               refine take_ (i := 6) (N := some 37) (v := ?_) (a' := ?_) #[true, true, true, true, true, true, true, false, false, false, false, false, false, false] rfl rfl (take_ofW HT_.out HW_.out (by kernel_rfl)) (fun _ _ _ h => h) (Or.inl ⟨by rfl, ?_⟩) hHeld ?_ ?_
               rotate_left
               · rintro w' ⟨s0, s1, s2, s3, s4, s5, s6⟩
                 go_simp
                 with_reducible rfl
               rotate_left
               · simp only [Act.put, List.setIfInBounds_toArray, List.set_cons_zero, List.set_cons_succ, i64_w, i32_w]
                 rfl
               refine pvq_ 7 (some 38) rfl rfl ?_ (any_of HT_.out (by kernel_rfl))
               refine onq_ 8 (some 39) rfl rfl (fun K hK => ?_) (one_of HT_.out (by kernel_rfl))
               refine goes_ Tryz.func83 (by kernel_rfl) rfl #[.agg #[.int .u8 t256, .string t257, .bool t258, .int .u8 t259, .int .i64 t260, .int .i64 t261], .int .i64 (wrap64 ((wrap64 (a0)) - (rd t253 x8_1)))] (by rfl) rfl rfl (by (try simp only [List.map_toArray, List.map_cons, List.map_nil]); first | done | rfl | (simp only [List.length_drop, List.length_take]; rfl)) ?_
               with_reducible refine (periluneref04_Encode.calls k1 t256 t257 t258 t259 t260 t261 (wrap64 ((wrap64 (a0)) - (rd t253 x8_1))) t265 t266 _ A12.out).mono ?_
               rintro e w39 ⟨rfl, hb⟩
               have HS6_ := (hb.cell (World.block_lt_of_cell? _ _ (hHeld.2.2.2.2.2.2))).trans (hHeld.2.2.2.2.2.2)
               refine ⟨_, rfl, ?_⟩
               have n0_ := Aside0.mk (Kd.R_below (by (with_reducible repeat (first | apply Kd.R_alloc | apply Kd.R_drewN | apply Kd.R_drew)); exact HO_7.out) hb)
               have n1_ := Aside0.mk (blk_below (g := gb252) (o := .cells #[.int .u8 x253000_1, .string x253001_1, .bool x253002_1, .int .u8 x253003_1, .int .i64 x253004_1, .int .i64 x253005_1] 41 (0, 0)) (by (with_reducible repeat (first | refine blk_drewN ?_ _ | refine blk_drew ?_ | refine blk_alloc ?_ _)); exact BK252.out) hb)
               have n2_ := Aside0.mk (blk_below (g := gb263) (o := .cells #[.int .u8 t256, .string t257, .bool t258, .int .u8 t259, .int .i64 t260, .int .i64 t261] 41 (0, 0)) (by (with_reducible repeat (first | refine blk_drewN ?_ _ | refine blk_drew ?_ | refine blk_alloc ?_ _)); exact BK263.out) hb)
               have n3_ := Aside0.mk (below_step (by repeat (first | (with_reducible first | exact HB.out | apply below_alloc | apply pw_below_drewN | apply below_drew1 | refine below_set ?_ GE252.out | refine below_set ?_ GE263.out) | exact HB.out)) hb)
               clear HO_7
               clear BK252
               clear BK263
               clear HB
               have HO_7 := n0_
               have BK252 := n1_
               have BK263 := n2_
               have HB := n3_
               clear n0_ n1_ n2_ n3_
               (try clear hb)
               (try clear hb2)
               (try clear hk)
               (try clear hi)
               refine hK.out _ _ ⟨(blk_cell BK263.out 0).trans rfl, (blk_cell BK263.out 1).trans rfl, (blk_cell BK263.out 2).trans rfl, (blk_cell BK263.out 3).trans rfl, (blk_cell BK263.out 4).trans rfl, (blk_cell BK263.out 5).trans rfl, HS6_⟩ (fun hHeld => ?_)
               clear hK K
               refine nmq_ (some 39) ?_
               refine pvq_ 9 (some 30) rfl rfl ?_ (any_of HT_.out (by kernel_rfl))
               refine pvq_ 10 (some 40) rfl rfl ?_ (any_of HT_.out (by kernel_rfl))
               refine pvq_ 11 (some 41) rfl rfl ?_ (any_of HT_.out (by kernel_rfl))
               refine pvq_ 12 (some 11) rfl rfl ?_ (any_of HT_.out (by kernel_rfl))
               refine pvq_ 13 (some 12) rfl rfl ?_ (any_of HT_.out (by kernel_rfl))
               refine done_ (done_of HT_.out (by kernel_rfl)) ?_
               have hcz40_0 : w39.cell? ⟨gb263, 0, none⟩ = some (.int .u8 t256) := (blk_cell BK263.out 0).trans rfl
               have hcz40_1 : w39.cell? ⟨gb263, 1, none⟩ = some (.string t257) := (blk_cell BK263.out 1).trans rfl
               have hcz40_2 : w39.cell? ⟨gb263, 2, none⟩ = some (.bool t258) := (blk_cell BK263.out 2).trans rfl
               have hcz40_3 : w39.cell? ⟨gb263, 3, none⟩ = some (.int .u8 t259) := (blk_cell BK263.out 3).trans rfl
               have hcz40_4 : w39.cell? ⟨gb263, 4, none⟩ = some (.int .i64 t260) := (blk_cell BK263.out 4).trans rfl
               have hcz40_5 : w39.cell? ⟨gb263, 5, none⟩ = some (.int .i64 t261) := (blk_cell BK263.out 5).trans rfl
               have hfz40_0 := blk_frozen BK263.out 0
               have hfz40_1 := blk_frozen BK263.out 1
               have hfz40_2 := blk_frozen BK263.out 2
               have hfz40_3 := blk_frozen BK263.out 3
               have hfz40_4 := blk_frozen BK263.out 4
               have hfz40_5 := blk_frozen BK263.out 5
               try go_wp2
               go_roundg k1
               case measure => have := HK1.out; omega
               case rel => exact ⟨(wrap64 (x8_1 + 1)), (x253000_1), (x253001_1), (x253002_1), (x253003_1), (x253004_1), (x253005_1), (by first | rfl | (simp; done) | (simp [*]; done)), H', ⟨by have := HK1.out; omega⟩, ⟨by (with_reducible repeat (first | apply Kd.R_alloc | apply Kd.R_drewN | apply Kd.R_drew)); exact HO_7.out⟩, ⟨by (with_reducible repeat (first | refine blk_drewN ?_ _ | refine blk_drew ?_ | refine blk_alloc ?_ _)); exact BK252.out⟩, ⟨by repeat (first | (with_reducible first | exact HB.out | apply below_alloc | apply pw_below_drewN | apply below_drew1 | refine below_set ?_ GE252.out | refine below_set ?_ GE263.out) | exact HB.out)⟩⟩
           · rw [if_neg c14] at H
             have c14b0 : (t266 == 0) = false := beq_eq_false_iff_ne.mpr c14
             have c14b1 : (t266 != 0) = true := bne_iff_ne.mpr c14
             have H' := Aside0.mk H
             clear H
             obtain ⟨Ao41, co41, eo41⟩ := Kd.R_slice HO_7.out
             subst eo41
             try go_wp2_with (first | ((with_reducible refine gate_callee (f := 82) rfl ?_); refine goesL_ (some 27) rfl rfl Tryz.func82 (by kernel_rfl) rfl #[.int .u8 ((wrap64 (x8_1 + 1)) % 256)] rfl (by (try simp only [List.map_toArray, List.map_cons, List.map_nil]); first | done | rfl | (simp only [List.length_drop, List.length_take]; rfl)) ?_; (with_reducible refine (periluneref04_Of.calls k1 ((wrap64 (x8_1 + 1)) % 256) t256 t257 t258 t259 t260 t261 t262 _ A10.out).mono ?_); rintro e w42 ⟨rfl, hb⟩; refine ⟨_, rfl, ?_⟩; have n0_ := Aside0.mk (Kd.R_below (by (with_reducible repeat (first | apply Kd.R_alloc | apply Kd.R_drewN | apply Kd.R_drew)); exact HO_7.out) hb); have n1_ := Aside0.mk (blk_below (g := gb252) (o := .cells #[.int .u8 x253000_1, .string x253001_1, .bool x253002_1, .int .u8 x253003_1, .int .i64 x253004_1, .int .i64 x253005_1] 41 (0, 0)) (by (with_reducible repeat (first | refine blk_drewN ?_ _ | refine blk_drew ?_ | refine blk_alloc ?_ _)); exact BK252.out) hb); have n2_ := Aside0.mk (below_step (by repeat (first | (with_reducible first | exact HB.out | apply below_alloc | apply pw_below_drewN | apply below_drew1 | refine below_set ?_ GE252.out) | exact HB.out)) hb); clear HO_7; clear BK252; clear HB; have HO_7 := n0_; have BK252 := n1_; have HB := n2_; clear n0_ n1_ n2_; (try clear hb); (try clear hb2); (try clear hk); (try clear hi)) | ((with_reducible refine gate_dst (N := 9) rfl ?_); refine box_event ?hg (N := 9) ?hd (cs := #[.int .u8 0, .string (⟨#[]⟩ : ByteArray), .bool false, .int .u8 0, .int .i64 0, .int .i64 0]) (t := 41) ?hr ?_; (case hd => rfl); (case hg => rfl); (case hr => first | (go_simp; done) | (go_simp; rfl)); intro gb263 hg w43 hbox hb; have n0_ := Aside0.mk (Kd.R_below (by (with_reducible repeat (first | apply Kd.R_alloc | apply Kd.R_drewN | apply Kd.R_drew)); exact HO_7.out) hb); have n1_ := Aside0.mk (blk_below (g := gb252) (o := .cells #[.int .u8 x253000_1, .string x253001_1, .bool x253002_1, .int .u8 x253003_1, .int .i64 x253004_1, .int .i64 x253005_1] 41 (0, 0)) (by (with_reducible repeat (first | refine blk_drewN ?_ _ | refine blk_drew ?_ | refine blk_alloc ?_ _)); exact BK252.out) hb); have n2_ := Aside0.mk (below_step (by repeat (first | (with_reducible first | exact HB.out | apply below_alloc | apply pw_below_drewN | apply below_drew1 | refine below_set ?_ GE252.out) | exact HB.out)) hb); have n3_ := Aside0.mk (hbox); have n4_ := Aside0.mk ((by rw [hg]; exact (below_size (by repeat (first | (with_reducible first | exact HB.out | apply below_alloc | apply pw_below_drewN | apply below_drew1 | refine below_set ?_ GE252.out) | exact HB.out))) : w.heap.size ≤ gb263)); have n5_ := Aside0.mk ((by rw [hg]; exact (below_size (by repeat (first | (with_reducible first | exact HB.out | apply below_alloc | apply pw_below_drewN | apply below_drew1 | refine below_set ?_ GE252.out) | exact HB.out))) : w.heap.size ≤ gb263)); have n6_ := Aside0.mk ((by rw [hg]; exact Nat.ne_of_lt (blk_lt (g := gb252) (o := .cells #[.int .u8 x253000_1, .string x253001_1, .bool x253002_1, .int .u8 x253003_1, .int .i64 x253004_1, .int .i64 x253005_1] 41 (0, 0)) (by (with_reducible repeat (first | refine blk_drewN ?_ _ | refine blk_drew ?_ | refine blk_alloc ?_ _)); exact BK252.out)) : gb252 ≠ gb263)); have n7_ := Aside0.mk ((by rw [hg]; exact Nat.ne_of_gt (blk_lt (g := gb252) (o := .cells #[.int .u8 x253000_1, .string x253001_1, .bool x253002_1, .int .u8 x253003_1, .int .i64 x253004_1, .int .i64 x253005_1] 41 (0, 0)) (by (with_reducible repeat (first | refine blk_drewN ?_ _ | refine blk_drew ?_ | refine blk_alloc ?_ _)); exact BK252.out)) : gb263 ≠ gb252)); clear HO_7; clear BK252; clear HB; have HO_7 := n0_; have BK252 := n1_; have HB := n2_; have BK263 := n3_; have GW263 := n4_; have GE263 := n5_; have NB252_263 := n6_; have NB263_252 := n7_; clear n0_ n1_ n2_ n3_ n4_ n5_ n6_ n7_; clear hb hbox hg; have hnb44 := NB263_252.out; have hnc44 := NB252_263.out; have hcz45_0 : w43.cell? ⟨gb263, 0, none⟩ = some (.int .u8 0) := (blk_cell BK263.out 0).trans rfl; have hcz45_1 : w43.cell? ⟨gb263, 1, none⟩ = some (.string (⟨#[]⟩ : ByteArray)) := (blk_cell BK263.out 1).trans rfl; have hcz45_2 : w43.cell? ⟨gb263, 2, none⟩ = some (.bool false) := (blk_cell BK263.out 2).trans rfl; have hcz45_3 : w43.cell? ⟨gb263, 3, none⟩ = some (.int .u8 0) := (blk_cell BK263.out 3).trans rfl; have hcz45_4 : w43.cell? ⟨gb263, 4, none⟩ = some (.int .i64 0) := (blk_cell BK263.out 4).trans rfl; have hcz45_5 : w43.cell? ⟨gb263, 5, none⟩ = some (.int .i64 0) := (blk_cell BK263.out 5).trans rfl; have hfz45_0 := blk_frozen BK263.out 0; have hfz45_1 := blk_frozen BK263.out 1; have hfz45_2 := blk_frozen BK263.out 2; have hfz45_3 := blk_frozen BK263.out 3; have hfz45_4 := blk_frozen BK263.out 4; have hfz45_5 := blk_frozen BK263.out 5))
             have n0_ : Aside0 (Kd.R (Kd.int .i64) 3 ((((((w43.setCell ⟨gb263, 0, none⟩ (.int .u8 t256)).setCell ⟨gb263, 1, none⟩ (.string t257)).setCell ⟨gb263, 2, none⟩ (.bool t258)).setCell ⟨gb263, 3, none⟩ (.int .u8 t259)).setCell ⟨gb263, 4, none⟩ (.int .i64 t260)).setCell ⟨gb263, 5, none⟩ (.int .i64 t261)) w.heap.size (fun _ => True) (.slice Ao41 t253.length co41) t253) := ⟨by (with_reducible repeat (first | apply Kd.R_alloc | apply Kd.R_drewN | apply Kd.R_drew)); exact Kd.R_mono (Kd.R_far (p := ⟨gb263, 5, none⟩) (Kd.R_far (p := ⟨gb263, 4, none⟩) (Kd.R_far (p := ⟨gb263, 3, none⟩) (Kd.R_far (p := ⟨gb263, 2, none⟩) (Kd.R_far (p := ⟨gb263, 1, none⟩) (Kd.R_far (p := ⟨gb263, 0, none⟩) (Kd.R_types HO_7.out BK263.out (by decide)) (fun _ hk => hk.2) (.int .u8 t256)) (fun _ hk => hk.2) (.string t257)) (fun _ hk => hk.2) (.bool t258)) (fun _ hk => hk.2) (.int .u8 t259)) (fun _ hk => hk.2) (.int .i64 t260)) (fun _ hk => hk.2) (.int .i64 t261)) (fun _ hk => trivial)⟩
             have n1_ : Aside0 (((((((w43.setCell ⟨gb263, 0, none⟩ (.int .u8 t256)).setCell ⟨gb263, 1, none⟩ (.string t257)).setCell ⟨gb263, 2, none⟩ (.bool t258)).setCell ⟨gb263, 3, none⟩ (.int .u8 t259)).setCell ⟨gb263, 4, none⟩ (.int .i64 t260)).setCell ⟨gb263, 5, none⟩ (.int .i64 t261)).heap[gb252]? = some (.cells #[.int .u8 x253000_1, .string x253001_1, .bool x253002_1, .int .u8 x253003_1, .int .i64 x253004_1, .int .i64 x253005_1] 41 (0, 0))) := ⟨by (with_reducible repeat (first | refine blk_drewN ?_ _ | refine blk_drew ?_ | refine blk_alloc ?_ _)); refine blk_far ?_ NB252_263.out _; (with_reducible repeat (first | refine blk_drewN ?_ _ | refine blk_drew ?_ | refine blk_alloc ?_ _)); refine blk_far ?_ NB252_263.out _; (with_reducible repeat (first | refine blk_drewN ?_ _ | refine blk_drew ?_ | refine blk_alloc ?_ _)); refine blk_far ?_ NB252_263.out _; (with_reducible repeat (first | refine blk_drewN ?_ _ | refine blk_drew ?_ | refine blk_alloc ?_ _)); refine blk_far ?_ NB252_263.out _; (with_reducible repeat (first | refine blk_drewN ?_ _ | refine blk_drew ?_ | refine blk_alloc ?_ _)); refine blk_far ?_ NB252_263.out _; (with_reducible repeat (first | refine blk_drewN ?_ _ | refine blk_drew ?_ | refine blk_alloc ?_ _)); refine blk_far ?_ NB252_263.out _; (with_reducible repeat (first | refine blk_drewN ?_ _ | refine blk_drew ?_ | refine blk_alloc ?_ _)); exact BK252.out⟩
             have n2_ : Aside0 (((((((w43.setCell ⟨gb263, 0, none⟩ (.int .u8 t256)).setCell ⟨gb263, 1, none⟩ (.string t257)).setCell ⟨gb263, 2, none⟩ (.bool t258)).setCell ⟨gb263, 3, none⟩ (.int .u8 t259)).setCell ⟨gb263, 4, none⟩ (.int .i64 t260)).setCell ⟨gb263, 5, none⟩ (.int .i64 t261)).heap[gb263]? = some (.cells #[.int .u8 t256, .string t257, .bool t258, .int .u8 t259, .int .i64 t260, .int .i64 t261] 41 (0, 0))) := ⟨by (with_reducible repeat (first | refine blk_drewN ?_ _ | refine blk_drew ?_ | refine blk_alloc ?_ _)); refine blk_put (cs := #[.int .u8 t256, .string t257, .bool t258, .int .u8 t259, .int .i64 t260, .int .i64 0]) ?_ 5 _ rfl; (with_reducible repeat (first | refine blk_drewN ?_ _ | refine blk_drew ?_ | refine blk_alloc ?_ _)); refine blk_put (cs := #[.int .u8 t256, .string t257, .bool t258, .int .u8 t259, .int .i64 0, .int .i64 0]) ?_ 4 _ rfl; (with_reducible repeat (first | refine blk_drewN ?_ _ | refine blk_drew ?_ | refine blk_alloc ?_ _)); refine blk_put (cs := #[.int .u8 t256, .string t257, .bool t258, .int .u8 0, .int .i64 0, .int .i64 0]) ?_ 3 _ rfl; (with_reducible repeat (first | refine blk_drewN ?_ _ | refine blk_drew ?_ | refine blk_alloc ?_ _)); refine blk_put (cs := #[.int .u8 t256, .string t257, .bool false, .int .u8 0, .int .i64 0, .int .i64 0]) ?_ 2 _ rfl; (with_reducible repeat (first | refine blk_drewN ?_ _ | refine blk_drew ?_ | refine blk_alloc ?_ _)); refine blk_put (cs := #[.int .u8 t256, .string (⟨#[]⟩ : ByteArray), .bool false, .int .u8 0, .int .i64 0, .int .i64 0]) ?_ 1 _ rfl; (with_reducible repeat (first | refine blk_drewN ?_ _ | refine blk_drew ?_ | refine blk_alloc ?_ _)); refine blk_put (cs := #[.int .u8 0, .string (⟨#[]⟩ : ByteArray), .bool false, .int .u8 0, .int .i64 0, .int .i64 0]) ?_ 0 _ rfl; (with_reducible repeat (first | refine blk_drewN ?_ _ | refine blk_drew ?_ | refine blk_alloc ?_ _)); exact BK263.out⟩
             have n3_ : Aside0 (Below w.heap.size w ((((((w43.setCell ⟨gb263, 0, none⟩ (.int .u8 t256)).setCell ⟨gb263, 1, none⟩ (.string t257)).setCell ⟨gb263, 2, none⟩ (.bool t258)).setCell ⟨gb263, 3, none⟩ (.int .u8 t259)).setCell ⟨gb263, 4, none⟩ (.int .i64 t260)).setCell ⟨gb263, 5, none⟩ (.int .i64 t261))) := ⟨by repeat (first | (with_reducible first | exact HB.out | apply below_alloc | apply pw_below_drewN | apply below_drew1 | refine below_set ?_ GE252.out | refine below_set ?_ GE263.out) | exact HB.out)⟩
             (try clear HO_7)
             (try clear BK252)
             (try clear BK263)
             (try clear HB)
             generalize ((((((w43.setCell ⟨gb263, 0, none⟩ (.int .u8 t256)).setCell ⟨gb263, 1, none⟩ (.string t257)).setCell ⟨gb263, 2, none⟩ (.bool t258)).setCell ⟨gb263, 3, none⟩ (.int .u8 t259)).setCell ⟨gb263, 4, none⟩ (.int .i64 t260)).setCell ⟨gb263, 5, none⟩ (.int .i64 t261)) = w46 at n0_ n1_ n2_ n3_ ⊢
             have HO_7 := n0_
             have BK252 := n1_
             have BK263 := n2_
             have HB := n3_
             clear n0_ n1_ n2_ n3_
             have n0_ := Aside0.mk (Kd.R_drew HO_7.out)
             have n1_ := Aside0.mk (blk_drew BK252.out)
             have n2_ := Aside0.mk (blk_drew BK263.out)
             have n3_ := Aside0.mk (below_drew1 HB.out)
             clear HO_7
             clear BK252
             clear BK263
             clear HB
             have HO_7 := n0_
             have BK252 := n1_
             have BK263 := n2_
             have HB := n3_
             clear n0_ n1_ n2_ n3_
             have p264 : 0 ≤ (x8_1 : Int) := of_decide_eq_true (by first | (with_reducible assumption) | assumption)
             have q264 : x8_1 < (t253.length : Int) := of_decide_eq_true (by first | (with_reducible assumption) | assumption)
             obtain ⟨ad264, e264, hx264_0⟩ := Kd.at_int (Kd.R_reads' HO_7.out).2.2 x8_1 p264 q264
             cases e264
             replace p264 := eq_true p264
             replace q264 := eq_true q264
             refine start_ (n := 14) (S := fun w' => w'.cell? ⟨gb263, 0, none⟩ = some (.int .u8 t256) ∧ w'.cell? ⟨gb263, 1, none⟩ = some (.string t257) ∧ w'.cell? ⟨gb263, 2, none⟩ = some (.bool t258) ∧ w'.cell? ⟨gb263, 3, none⟩ = some (.int .u8 t259) ∧ w'.cell? ⟨gb263, 4, none⟩ = some (.int .i64 t260) ∧ w'.cell? ⟨gb263, 5, none⟩ = some (.int .i64 t261) ∧ w'.cell? (ad264.add (x8_1).toNat) = some (.int .i64 (rd t253 x8_1))) (ds := []) #[false, false, false, false, false, false, false, false, false, false, false, false, false, false] (by kernel_rfl) rfl rfl ⟨(blk_cell BK263.out 0).trans rfl, (blk_cell BK263.out 1).trans rfl, (blk_cell BK263.out 2).trans rfl, (blk_cell BK263.out 3).trans rfl, (blk_cell BK263.out 4).trans rfl, (blk_cell BK263.out 5).trans rfl, hx264_0⟩ (fun hHeld => ?_); refine with_tabW periluneref04_Decode.tab8 periluneref04_Decode.bits8 (fun HT_ HW_ => ?_)
             generalize w46.drew = w47 at HO_7 BK252 BK263 HB hx264_0 hHeld ⊢
             refine pvq_ 1 (some 32) rfl rfl ?_ (any_of HT_.out (by kernel_rfl))
             refine pvq_ 2 (some 33) rfl rfl ?_ (any_of HT_.out (by kernel_rfl))
             refine pvq_ 3 (some 34) rfl rfl ?_ (any_of HT_.out (by kernel_rfl))
             refine pvq_ 4 (some 35) rfl rfl ?_ (any_of HT_.out (by kernel_rfl))
             refine pvq_ 5 (some 36) rfl rfl ?_ (any_of HT_.out (by kernel_rfl))
             refine take_ (i := 0) (N := some 31) (v := ?_) (a' := ?_) #[true, true, true, true, true, true, false, false, false, false, false, false, false, false] rfl rfl (take_ofW HT_.out HW_.out (by kernel_rfl)) (fun _ _ _ h => h) (Or.inl ⟨by rfl, ?_⟩) hHeld ?_ ?_
             rotate_left
             · rintro w' ⟨s0, s1, s2, s3, s4, s5, s6⟩
               go_simp
               with_reducible rfl
             rotate_left
             · simp only [Act.put, List.setIfInBounds_toArray, List.set_cons_zero, List.set_cons_succ, i64_w, i32_w]
               rfl
             refine take_ (i := 6) (N := some 37) (v := ?_) (a' := ?_) #[true, true, true, true, true, true, true, false, false, false, false, false, false, false] rfl rfl (take_ofW HT_.out HW_.out (by kernel_rfl)) (fun _ _ _ h => h) (Or.inl ⟨by rfl, ?_⟩) hHeld ?_ ?_
             rotate_left
             · rintro w' ⟨s0, s1, s2, s3, s4, s5, s6⟩
               go_simp
               with_reducible rfl
             rotate_left
             · simp only [Act.put, List.setIfInBounds_toArray, List.set_cons_zero, List.set_cons_succ, i64_w, i32_w]
               rfl
             refine pvq_ 7 (some 38) rfl rfl ?_ (any_of HT_.out (by kernel_rfl))
             refine onq_ 8 (some 39) rfl rfl (fun K hK => ?_) (one_of HT_.out (by kernel_rfl))
             refine goes_ Tryz.func83 (by kernel_rfl) rfl #[.agg #[.int .u8 t256, .string t257, .bool t258, .int .u8 t259, .int .i64 t260, .int .i64 t261], .int .i64 (wrap64 ((wrap64 (a0)) - (rd t253 x8_1)))] (by rfl) rfl rfl (by (try simp only [List.map_toArray, List.map_cons, List.map_nil]); first | done | rfl | (simp only [List.length_drop, List.length_take]; rfl)) ?_
             with_reducible refine (periluneref04_Encode.calls k1 t256 t257 t258 t259 t260 t261 (wrap64 ((wrap64 (a0)) - (rd t253 x8_1))) t265 t266 _ A12.out).mono ?_
             rintro e w48 ⟨rfl, hb⟩
             have HS6_ := (hb.cell (World.block_lt_of_cell? _ _ (hHeld.2.2.2.2.2.2))).trans (hHeld.2.2.2.2.2.2)
             refine ⟨_, rfl, ?_⟩
             have n0_ := Aside0.mk (Kd.R_below (by (with_reducible repeat (first | apply Kd.R_alloc | apply Kd.R_drewN | apply Kd.R_drew)); exact HO_7.out) hb)
             have n1_ := Aside0.mk (blk_below (g := gb252) (o := .cells #[.int .u8 x253000_1, .string x253001_1, .bool x253002_1, .int .u8 x253003_1, .int .i64 x253004_1, .int .i64 x253005_1] 41 (0, 0)) (by (with_reducible repeat (first | refine blk_drewN ?_ _ | refine blk_drew ?_ | refine blk_alloc ?_ _)); exact BK252.out) hb)
             have n2_ := Aside0.mk (blk_below (g := gb263) (o := .cells #[.int .u8 t256, .string t257, .bool t258, .int .u8 t259, .int .i64 t260, .int .i64 t261] 41 (0, 0)) (by (with_reducible repeat (first | refine blk_drewN ?_ _ | refine blk_drew ?_ | refine blk_alloc ?_ _)); exact BK263.out) hb)
             have n3_ := Aside0.mk (below_step (by repeat (first | (with_reducible first | exact HB.out | apply below_alloc | apply pw_below_drewN | apply below_drew1 | refine below_set ?_ GE252.out | refine below_set ?_ GE263.out) | exact HB.out)) hb)
             clear HO_7
             clear BK252
             clear BK263
             clear HB
             have HO_7 := n0_
             have BK252 := n1_
             have BK263 := n2_
             have HB := n3_
             clear n0_ n1_ n2_ n3_
             (try clear hb)
             (try clear hb2)
             (try clear hk)
             (try clear hi)
             refine hK.out _ _ ⟨(blk_cell BK263.out 0).trans rfl, (blk_cell BK263.out 1).trans rfl, (blk_cell BK263.out 2).trans rfl, (blk_cell BK263.out 3).trans rfl, (blk_cell BK263.out 4).trans rfl, (blk_cell BK263.out 5).trans rfl, HS6_⟩ (fun hHeld => ?_)
             clear hK K
             refine nmq_ (some 39) ?_
             refine pvq_ 9 (some 30) rfl rfl ?_ (any_of HT_.out (by kernel_rfl))
             refine pvq_ 10 (some 40) rfl rfl ?_ (any_of HT_.out (by kernel_rfl))
             refine pvq_ 11 (some 41) rfl rfl ?_ (any_of HT_.out (by kernel_rfl))
             refine pvq_ 12 (some 11) rfl rfl ?_ (any_of HT_.out (by kernel_rfl))
             refine pvq_ 13 (some 12) rfl rfl ?_ (any_of HT_.out (by kernel_rfl))
             refine done_ (done_of HT_.out (by kernel_rfl)) ?_
             have hcz49_0 : w48.cell? ⟨gb263, 0, none⟩ = some (.int .u8 t256) := (blk_cell BK263.out 0).trans rfl
             have hcz49_1 : w48.cell? ⟨gb263, 1, none⟩ = some (.string t257) := (blk_cell BK263.out 1).trans rfl
             have hcz49_2 : w48.cell? ⟨gb263, 2, none⟩ = some (.bool t258) := (blk_cell BK263.out 2).trans rfl
             have hcz49_3 : w48.cell? ⟨gb263, 3, none⟩ = some (.int .u8 t259) := (blk_cell BK263.out 3).trans rfl
             have hcz49_4 : w48.cell? ⟨gb263, 4, none⟩ = some (.int .i64 t260) := (blk_cell BK263.out 4).trans rfl
             have hcz49_5 : w48.cell? ⟨gb263, 5, none⟩ = some (.int .i64 t261) := (blk_cell BK263.out 5).trans rfl
             have hfz49_0 := blk_frozen BK263.out 0
             have hfz49_1 := blk_frozen BK263.out 1
             have hfz49_2 := blk_frozen BK263.out 2
             have hfz49_3 := blk_frozen BK263.out 3
             have hfz49_4 := blk_frozen BK263.out 4
             have hfz49_5 := blk_frozen BK263.out 5
             try go_wp2
             go_roundg k1
             case measure => have := HK1.out; omega
             case rel => exact ⟨(wrap64 (x8_1 + 1)), (x253000_1), (x253001_1), (x253002_1), (x253003_1), (x253004_1), (x253005_1), (by first | rfl | (simp; done) | (simp [*]; done)), H', ⟨by have := HK1.out; omega⟩, ⟨by (with_reducible repeat (first | apply Kd.R_alloc | apply Kd.R_drewN | apply Kd.R_drew)); exact HO_7.out⟩, ⟨by (with_reducible repeat (first | refine blk_drewN ?_ _ | refine blk_drew ?_ | refine blk_alloc ?_ _)); exact BK252.out⟩, ⟨by repeat (first | (with_reducible first | exact HB.out | apply below_alloc | apply pw_below_drewN | apply below_drew1 | refine below_set ?_ GE252.out | refine below_set ?_ GE263.out) | exact HB.out)⟩⟩
         · rw [if_neg c13] at H
           have c13b0 : (t258 == a1) = false := by simpa using c13
           (try (have c13b1 : decide (t258 = a1) = false := by simpa using c13))
           (try (have c13b2 : (t258 == a1) = false := by simpa using c13))
           (try (have c13b3 : ¬ (t258 = a1) := by simpa using c13))
           clear c13
           have H' := Aside0.mk H
           clear H
           obtain ⟨Ao50, co50, eo50⟩ := Kd.R_slice HO_7.out
           subst eo50
           try go_wp2_with (first | ((with_reducible refine gate_callee (f := 82) rfl ?_); refine goesL_ (some 27) rfl rfl Tryz.func82 (by kernel_rfl) rfl #[.int .u8 ((wrap64 (x8_1 + 1)) % 256)] rfl (by (try simp only [List.map_toArray, List.map_cons, List.map_nil]); first | done | rfl | (simp only [List.length_drop, List.length_take]; rfl)) ?_; (with_reducible refine (periluneref04_Of.calls k1 ((wrap64 (x8_1 + 1)) % 256) t256 t257 t258 t259 t260 t261 t262 _ A10.out).mono ?_); rintro e w51 ⟨rfl, hb⟩; refine ⟨_, rfl, ?_⟩; have n0_ := Aside0.mk (Kd.R_below (by (with_reducible repeat (first | apply Kd.R_alloc | apply Kd.R_drewN | apply Kd.R_drew)); exact HO_7.out) hb); have n1_ := Aside0.mk (blk_below (g := gb252) (o := .cells #[.int .u8 x253000_1, .string x253001_1, .bool x253002_1, .int .u8 x253003_1, .int .i64 x253004_1, .int .i64 x253005_1] 41 (0, 0)) (by (with_reducible repeat (first | refine blk_drewN ?_ _ | refine blk_drew ?_ | refine blk_alloc ?_ _)); exact BK252.out) hb); have n2_ := Aside0.mk (below_step (by repeat (first | (with_reducible first | exact HB.out | apply below_alloc | apply pw_below_drewN | apply below_drew1 | refine below_set ?_ GE252.out) | exact HB.out)) hb); clear HO_7; clear BK252; clear HB; have HO_7 := n0_; have BK252 := n1_; have HB := n2_; clear n0_ n1_ n2_; (try clear hb); (try clear hb2); (try clear hk); (try clear hi)) | ((with_reducible refine gate_dst (N := 9) rfl ?_); refine box_event ?hg (N := 9) ?hd (cs := #[.int .u8 0, .string (⟨#[]⟩ : ByteArray), .bool false, .int .u8 0, .int .i64 0, .int .i64 0]) (t := 41) ?hr ?_; (case hd => rfl); (case hg => rfl); (case hr => first | (go_simp; done) | (go_simp; rfl)); intro gb263 hg w52 hbox hb; have n0_ := Aside0.mk (Kd.R_below (by (with_reducible repeat (first | apply Kd.R_alloc | apply Kd.R_drewN | apply Kd.R_drew)); exact HO_7.out) hb); have n1_ := Aside0.mk (blk_below (g := gb252) (o := .cells #[.int .u8 x253000_1, .string x253001_1, .bool x253002_1, .int .u8 x253003_1, .int .i64 x253004_1, .int .i64 x253005_1] 41 (0, 0)) (by (with_reducible repeat (first | refine blk_drewN ?_ _ | refine blk_drew ?_ | refine blk_alloc ?_ _)); exact BK252.out) hb); have n2_ := Aside0.mk (below_step (by repeat (first | (with_reducible first | exact HB.out | apply below_alloc | apply pw_below_drewN | apply below_drew1 | refine below_set ?_ GE252.out) | exact HB.out)) hb); have n3_ := Aside0.mk (hbox); have n4_ := Aside0.mk ((by rw [hg]; exact (below_size (by repeat (first | (with_reducible first | exact HB.out | apply below_alloc | apply pw_below_drewN | apply below_drew1 | refine below_set ?_ GE252.out) | exact HB.out))) : w.heap.size ≤ gb263)); have n5_ := Aside0.mk ((by rw [hg]; exact (below_size (by repeat (first | (with_reducible first | exact HB.out | apply below_alloc | apply pw_below_drewN | apply below_drew1 | refine below_set ?_ GE252.out) | exact HB.out))) : w.heap.size ≤ gb263)); have n6_ := Aside0.mk ((by rw [hg]; exact Nat.ne_of_lt (blk_lt (g := gb252) (o := .cells #[.int .u8 x253000_1, .string x253001_1, .bool x253002_1, .int .u8 x253003_1, .int .i64 x253004_1, .int .i64 x253005_1] 41 (0, 0)) (by (with_reducible repeat (first | refine blk_drewN ?_ _ | refine blk_drew ?_ | refine blk_alloc ?_ _)); exact BK252.out)) : gb252 ≠ gb263)); have n7_ := Aside0.mk ((by rw [hg]; exact Nat.ne_of_gt (blk_lt (g := gb252) (o := .cells #[.int .u8 x253000_1, .string x253001_1, .bool x253002_1, .int .u8 x253003_1, .int .i64 x253004_1, .int .i64 x253005_1] 41 (0, 0)) (by (with_reducible repeat (first | refine blk_drewN ?_ _ | refine blk_drew ?_ | refine blk_alloc ?_ _)); exact BK252.out)) : gb263 ≠ gb252)); clear HO_7; clear BK252; clear HB; have HO_7 := n0_; have BK252 := n1_; have HB := n2_; have BK263 := n3_; have GW263 := n4_; have GE263 := n5_; have NB252_263 := n6_; have NB263_252 := n7_; clear n0_ n1_ n2_ n3_ n4_ n5_ n6_ n7_; clear hb hbox hg; have hnb53 := NB263_252.out; have hnc53 := NB252_263.out; have hcz54_0 : w52.cell? ⟨gb263, 0, none⟩ = some (.int .u8 0) := (blk_cell BK263.out 0).trans rfl; have hcz54_1 : w52.cell? ⟨gb263, 1, none⟩ = some (.string (⟨#[]⟩ : ByteArray)) := (blk_cell BK263.out 1).trans rfl; have hcz54_2 : w52.cell? ⟨gb263, 2, none⟩ = some (.bool false) := (blk_cell BK263.out 2).trans rfl; have hcz54_3 : w52.cell? ⟨gb263, 3, none⟩ = some (.int .u8 0) := (blk_cell BK263.out 3).trans rfl; have hcz54_4 : w52.cell? ⟨gb263, 4, none⟩ = some (.int .i64 0) := (blk_cell BK263.out 4).trans rfl; have hcz54_5 : w52.cell? ⟨gb263, 5, none⟩ = some (.int .i64 0) := (blk_cell BK263.out 5).trans rfl; have hfz54_0 := blk_frozen BK263.out 0; have hfz54_1 := blk_frozen BK263.out 1; have hfz54_2 := blk_frozen BK263.out 2; have hfz54_3 := blk_frozen BK263.out 3; have hfz54_4 := blk_frozen BK263.out 4; have hfz54_5 := blk_frozen BK263.out 5))
           have n0_ : Aside0 (Kd.R (Kd.int .i64) 3 ((((((w52.setCell ⟨gb263, 0, none⟩ (.int .u8 t256)).setCell ⟨gb263, 1, none⟩ (.string t257)).setCell ⟨gb263, 2, none⟩ (.bool t258)).setCell ⟨gb263, 3, none⟩ (.int .u8 t259)).setCell ⟨gb263, 4, none⟩ (.int .i64 t260)).setCell ⟨gb263, 5, none⟩ (.int .i64 t261)) w.heap.size (fun _ => True) (.slice Ao50 t253.length co50) t253) := ⟨by (with_reducible repeat (first | apply Kd.R_alloc | apply Kd.R_drewN | apply Kd.R_drew)); exact Kd.R_mono (Kd.R_far (p := ⟨gb263, 5, none⟩) (Kd.R_far (p := ⟨gb263, 4, none⟩) (Kd.R_far (p := ⟨gb263, 3, none⟩) (Kd.R_far (p := ⟨gb263, 2, none⟩) (Kd.R_far (p := ⟨gb263, 1, none⟩) (Kd.R_far (p := ⟨gb263, 0, none⟩) (Kd.R_types HO_7.out BK263.out (by decide)) (fun _ hk => hk.2) (.int .u8 t256)) (fun _ hk => hk.2) (.string t257)) (fun _ hk => hk.2) (.bool t258)) (fun _ hk => hk.2) (.int .u8 t259)) (fun _ hk => hk.2) (.int .i64 t260)) (fun _ hk => hk.2) (.int .i64 t261)) (fun _ hk => trivial)⟩
           have n1_ : Aside0 (((((((w52.setCell ⟨gb263, 0, none⟩ (.int .u8 t256)).setCell ⟨gb263, 1, none⟩ (.string t257)).setCell ⟨gb263, 2, none⟩ (.bool t258)).setCell ⟨gb263, 3, none⟩ (.int .u8 t259)).setCell ⟨gb263, 4, none⟩ (.int .i64 t260)).setCell ⟨gb263, 5, none⟩ (.int .i64 t261)).heap[gb252]? = some (.cells #[.int .u8 x253000_1, .string x253001_1, .bool x253002_1, .int .u8 x253003_1, .int .i64 x253004_1, .int .i64 x253005_1] 41 (0, 0))) := ⟨by (with_reducible repeat (first | refine blk_drewN ?_ _ | refine blk_drew ?_ | refine blk_alloc ?_ _)); refine blk_far ?_ NB252_263.out _; (with_reducible repeat (first | refine blk_drewN ?_ _ | refine blk_drew ?_ | refine blk_alloc ?_ _)); refine blk_far ?_ NB252_263.out _; (with_reducible repeat (first | refine blk_drewN ?_ _ | refine blk_drew ?_ | refine blk_alloc ?_ _)); refine blk_far ?_ NB252_263.out _; (with_reducible repeat (first | refine blk_drewN ?_ _ | refine blk_drew ?_ | refine blk_alloc ?_ _)); refine blk_far ?_ NB252_263.out _; (with_reducible repeat (first | refine blk_drewN ?_ _ | refine blk_drew ?_ | refine blk_alloc ?_ _)); refine blk_far ?_ NB252_263.out _; (with_reducible repeat (first | refine blk_drewN ?_ _ | refine blk_drew ?_ | refine blk_alloc ?_ _)); refine blk_far ?_ NB252_263.out _; (with_reducible repeat (first | refine blk_drewN ?_ _ | refine blk_drew ?_ | refine blk_alloc ?_ _)); exact BK252.out⟩
           have n2_ : Aside0 (((((((w52.setCell ⟨gb263, 0, none⟩ (.int .u8 t256)).setCell ⟨gb263, 1, none⟩ (.string t257)).setCell ⟨gb263, 2, none⟩ (.bool t258)).setCell ⟨gb263, 3, none⟩ (.int .u8 t259)).setCell ⟨gb263, 4, none⟩ (.int .i64 t260)).setCell ⟨gb263, 5, none⟩ (.int .i64 t261)).heap[gb263]? = some (.cells #[.int .u8 t256, .string t257, .bool t258, .int .u8 t259, .int .i64 t260, .int .i64 t261] 41 (0, 0))) := ⟨by (with_reducible repeat (first | refine blk_drewN ?_ _ | refine blk_drew ?_ | refine blk_alloc ?_ _)); refine blk_put (cs := #[.int .u8 t256, .string t257, .bool t258, .int .u8 t259, .int .i64 t260, .int .i64 0]) ?_ 5 _ rfl; (with_reducible repeat (first | refine blk_drewN ?_ _ | refine blk_drew ?_ | refine blk_alloc ?_ _)); refine blk_put (cs := #[.int .u8 t256, .string t257, .bool t258, .int .u8 t259, .int .i64 0, .int .i64 0]) ?_ 4 _ rfl; (with_reducible repeat (first | refine blk_drewN ?_ _ | refine blk_drew ?_ | refine blk_alloc ?_ _)); refine blk_put (cs := #[.int .u8 t256, .string t257, .bool t258, .int .u8 0, .int .i64 0, .int .i64 0]) ?_ 3 _ rfl; (with_reducible repeat (first | refine blk_drewN ?_ _ | refine blk_drew ?_ | refine blk_alloc ?_ _)); refine blk_put (cs := #[.int .u8 t256, .string t257, .bool false, .int .u8 0, .int .i64 0, .int .i64 0]) ?_ 2 _ rfl; (with_reducible repeat (first | refine blk_drewN ?_ _ | refine blk_drew ?_ | refine blk_alloc ?_ _)); refine blk_put (cs := #[.int .u8 t256, .string (⟨#[]⟩ : ByteArray), .bool false, .int .u8 0, .int .i64 0, .int .i64 0]) ?_ 1 _ rfl; (with_reducible repeat (first | refine blk_drewN ?_ _ | refine blk_drew ?_ | refine blk_alloc ?_ _)); refine blk_put (cs := #[.int .u8 0, .string (⟨#[]⟩ : ByteArray), .bool false, .int .u8 0, .int .i64 0, .int .i64 0]) ?_ 0 _ rfl; (with_reducible repeat (first | refine blk_drewN ?_ _ | refine blk_drew ?_ | refine blk_alloc ?_ _)); exact BK263.out⟩
           have n3_ : Aside0 (Below w.heap.size w ((((((w52.setCell ⟨gb263, 0, none⟩ (.int .u8 t256)).setCell ⟨gb263, 1, none⟩ (.string t257)).setCell ⟨gb263, 2, none⟩ (.bool t258)).setCell ⟨gb263, 3, none⟩ (.int .u8 t259)).setCell ⟨gb263, 4, none⟩ (.int .i64 t260)).setCell ⟨gb263, 5, none⟩ (.int .i64 t261))) := ⟨by repeat (first | (with_reducible first | exact HB.out | apply below_alloc | apply pw_below_drewN | apply below_drew1 | refine below_set ?_ GE252.out | refine below_set ?_ GE263.out) | exact HB.out)⟩
           (try clear HO_7)
           (try clear BK252)
           (try clear BK263)
           (try clear HB)
           generalize ((((((w52.setCell ⟨gb263, 0, none⟩ (.int .u8 t256)).setCell ⟨gb263, 1, none⟩ (.string t257)).setCell ⟨gb263, 2, none⟩ (.bool t258)).setCell ⟨gb263, 3, none⟩ (.int .u8 t259)).setCell ⟨gb263, 4, none⟩ (.int .i64 t260)).setCell ⟨gb263, 5, none⟩ (.int .i64 t261)) = w55 at n0_ n1_ n2_ n3_ ⊢
           have HO_7 := n0_
           have BK252 := n1_
           have BK263 := n2_
           have HB := n3_
           clear n0_ n1_ n2_ n3_
           have n0_ := Aside0.mk (Kd.R_drew HO_7.out)
           have n1_ := Aside0.mk (blk_drew BK252.out)
           have n2_ := Aside0.mk (blk_drew BK263.out)
           have n3_ := Aside0.mk (below_drew1 HB.out)
           clear HO_7
           clear BK252
           clear BK263
           clear HB
           have HO_7 := n0_
           have BK252 := n1_
           have BK263 := n2_
           have HB := n3_
           clear n0_ n1_ n2_ n3_
           have p264 : 0 ≤ (x8_1 : Int) := of_decide_eq_true (by first | (with_reducible assumption) | assumption)
           have q264 : x8_1 < (t253.length : Int) := of_decide_eq_true (by first | (with_reducible assumption) | assumption)
           obtain ⟨ad264, e264, hx264_0⟩ := Kd.at_int (Kd.R_reads' HO_7.out).2.2 x8_1 p264 q264
           cases e264
           replace p264 := eq_true p264
           replace q264 := eq_true q264
           refine start_ (n := 14) (S := fun w' => w'.cell? ⟨gb263, 0, none⟩ = some (.int .u8 t256) ∧ w'.cell? ⟨gb263, 1, none⟩ = some (.string t257) ∧ w'.cell? ⟨gb263, 2, none⟩ = some (.bool t258) ∧ w'.cell? ⟨gb263, 3, none⟩ = some (.int .u8 t259) ∧ w'.cell? ⟨gb263, 4, none⟩ = some (.int .i64 t260) ∧ w'.cell? ⟨gb263, 5, none⟩ = some (.int .i64 t261) ∧ w'.cell? (ad264.add (x8_1).toNat) = some (.int .i64 (rd t253 x8_1))) (ds := []) #[false, false, false, false, false, false, false, false, false, false, false, false, false, false] (by kernel_rfl) rfl rfl ⟨(blk_cell BK263.out 0).trans rfl, (blk_cell BK263.out 1).trans rfl, (blk_cell BK263.out 2).trans rfl, (blk_cell BK263.out 3).trans rfl, (blk_cell BK263.out 4).trans rfl, (blk_cell BK263.out 5).trans rfl, hx264_0⟩ (fun hHeld => ?_); refine with_tabW periluneref04_Decode.tab8 periluneref04_Decode.bits8 (fun HT_ HW_ => ?_)
           generalize w55.drew = w56 at HO_7 BK252 BK263 HB hx264_0 hHeld ⊢
           refine pvq_ 1 (some 32) rfl rfl ?_ (any_of HT_.out (by kernel_rfl))
           refine pvq_ 2 (some 33) rfl rfl ?_ (any_of HT_.out (by kernel_rfl))
           refine pvq_ 3 (some 34) rfl rfl ?_ (any_of HT_.out (by kernel_rfl))
           refine pvq_ 4 (some 35) rfl rfl ?_ (any_of HT_.out (by kernel_rfl))
           refine pvq_ 5 (some 36) rfl rfl ?_ (any_of HT_.out (by kernel_rfl))
           refine take_ (i := 0) (N := some 31) (v := ?_) (a' := ?_) #[true, true, true, true, true, true, false, false, false, false, false, false, false, false] rfl rfl (take_ofW HT_.out HW_.out (by kernel_rfl)) (fun _ _ _ h => h) (Or.inl ⟨by rfl, ?_⟩) hHeld ?_ ?_
           rotate_left
           · rintro w' ⟨s0, s1, s2, s3, s4, s5, s6⟩
             go_simp
             with_reducible rfl
           rotate_left
           · simp only [Act.put, List.setIfInBounds_toArray, List.set_cons_zero, List.set_cons_succ, i64_w, i32_w]
             rfl
           refine take_ (i := 6) (N := some 37) (v := ?_) (a' := ?_) #[true, true, true, true, true, true, true, false, false, false, false, false, false, false] rfl rfl (take_ofW HT_.out HW_.out (by kernel_rfl)) (fun _ _ _ h => h) (Or.inl ⟨by rfl, ?_⟩) hHeld ?_ ?_
           rotate_left
           · rintro w' ⟨s0, s1, s2, s3, s4, s5, s6⟩
             go_simp
             with_reducible rfl
           rotate_left
           · simp only [Act.put, List.setIfInBounds_toArray, List.set_cons_zero, List.set_cons_succ, i64_w, i32_w]
             rfl
           refine pvq_ 7 (some 38) rfl rfl ?_ (any_of HT_.out (by kernel_rfl))
           refine onq_ 8 (some 39) rfl rfl (fun K hK => ?_) (one_of HT_.out (by kernel_rfl))
           refine goes_ Tryz.func83 (by kernel_rfl) rfl #[.agg #[.int .u8 t256, .string t257, .bool t258, .int .u8 t259, .int .i64 t260, .int .i64 t261], .int .i64 (wrap64 ((wrap64 (a0)) - (rd t253 x8_1)))] (by rfl) rfl rfl (by (try simp only [List.map_toArray, List.map_cons, List.map_nil]); first | done | rfl | (simp only [List.length_drop, List.length_take]; rfl)) ?_
           with_reducible refine (periluneref04_Encode.calls k1 t256 t257 t258 t259 t260 t261 (wrap64 ((wrap64 (a0)) - (rd t253 x8_1))) t265 t266 _ A12.out).mono ?_
           rintro e w57 ⟨rfl, hb⟩
           have HS6_ := (hb.cell (World.block_lt_of_cell? _ _ (hHeld.2.2.2.2.2.2))).trans (hHeld.2.2.2.2.2.2)
           refine ⟨_, rfl, ?_⟩
           have n0_ := Aside0.mk (Kd.R_below (by (with_reducible repeat (first | apply Kd.R_alloc | apply Kd.R_drewN | apply Kd.R_drew)); exact HO_7.out) hb)
           have n1_ := Aside0.mk (blk_below (g := gb252) (o := .cells #[.int .u8 x253000_1, .string x253001_1, .bool x253002_1, .int .u8 x253003_1, .int .i64 x253004_1, .int .i64 x253005_1] 41 (0, 0)) (by (with_reducible repeat (first | refine blk_drewN ?_ _ | refine blk_drew ?_ | refine blk_alloc ?_ _)); exact BK252.out) hb)
           have n2_ := Aside0.mk (blk_below (g := gb263) (o := .cells #[.int .u8 t256, .string t257, .bool t258, .int .u8 t259, .int .i64 t260, .int .i64 t261] 41 (0, 0)) (by (with_reducible repeat (first | refine blk_drewN ?_ _ | refine blk_drew ?_ | refine blk_alloc ?_ _)); exact BK263.out) hb)
           have n3_ := Aside0.mk (below_step (by repeat (first | (with_reducible first | exact HB.out | apply below_alloc | apply pw_below_drewN | apply below_drew1 | refine below_set ?_ GE252.out | refine below_set ?_ GE263.out) | exact HB.out)) hb)
           clear HO_7
           clear BK252
           clear BK263
           clear HB
           have HO_7 := n0_
           have BK252 := n1_
           have BK263 := n2_
           have HB := n3_
           clear n0_ n1_ n2_ n3_
           (try clear hb)
           (try clear hb2)
           (try clear hk)
           (try clear hi)
           refine hK.out _ _ ⟨(blk_cell BK263.out 0).trans rfl, (blk_cell BK263.out 1).trans rfl, (blk_cell BK263.out 2).trans rfl, (blk_cell BK263.out 3).trans rfl, (blk_cell BK263.out 4).trans rfl, (blk_cell BK263.out 5).trans rfl, HS6_⟩ (fun hHeld => ?_)
           clear hK K
           refine nmq_ (some 39) ?_
           refine pvq_ 9 (some 30) rfl rfl ?_ (any_of HT_.out (by kernel_rfl))
           refine pvq_ 10 (some 40) rfl rfl ?_ (any_of HT_.out (by kernel_rfl))
           refine pvq_ 11 (some 41) rfl rfl ?_ (any_of HT_.out (by kernel_rfl))
           refine pvq_ 12 (some 11) rfl rfl ?_ (any_of HT_.out (by kernel_rfl))
           refine pvq_ 13 (some 12) rfl rfl ?_ (any_of HT_.out (by kernel_rfl))
           refine done_ (done_of HT_.out (by kernel_rfl)) ?_
           have hcz58_0 : w57.cell? ⟨gb263, 0, none⟩ = some (.int .u8 t256) := (blk_cell BK263.out 0).trans rfl
           have hcz58_1 : w57.cell? ⟨gb263, 1, none⟩ = some (.string t257) := (blk_cell BK263.out 1).trans rfl
           have hcz58_2 : w57.cell? ⟨gb263, 2, none⟩ = some (.bool t258) := (blk_cell BK263.out 2).trans rfl
           have hcz58_3 : w57.cell? ⟨gb263, 3, none⟩ = some (.int .u8 t259) := (blk_cell BK263.out 3).trans rfl
           have hcz58_4 : w57.cell? ⟨gb263, 4, none⟩ = some (.int .i64 t260) := (blk_cell BK263.out 4).trans rfl
           have hcz58_5 : w57.cell? ⟨gb263, 5, none⟩ = some (.int .i64 t261) := (blk_cell BK263.out 5).trans rfl
           have hfz58_0 := blk_frozen BK263.out 0
           have hfz58_1 := blk_frozen BK263.out 1
           have hfz58_2 := blk_frozen BK263.out 2
           have hfz58_3 := blk_frozen BK263.out 3
           have hfz58_4 := blk_frozen BK263.out 4
           have hfz58_5 := blk_frozen BK263.out 5
           try go_wp2
           go_roundg k1
           case measure => have := HK1.out; omega
           case rel => exact ⟨(wrap64 (x8_1 + 1)), (x253000_1), (x253001_1), (x253002_1), (x253003_1), (x253004_1), (x253005_1), (by first | rfl | (simp; done) | (simp [*]; done)), H', ⟨by have := HK1.out; omega⟩, ⟨by (with_reducible repeat (first | apply Kd.R_alloc | apply Kd.R_drewN | apply Kd.R_drew)); exact HO_7.out⟩, ⟨by (with_reducible repeat (first | refine blk_drewN ?_ _ | refine blk_drew ?_ | refine blk_alloc ?_ _)); exact BK252.out⟩, ⟨by repeat (first | (with_reducible first | exact HB.out | apply below_alloc | apply pw_below_drewN | apply below_drew1 | refine below_set ?_ GE252.out | refine below_set ?_ GE263.out) | exact HB.out)⟩⟩
       · rw [if_neg c11] at H
         exact absurd H (by simp)
     · rw [if_neg c9] at H
       have c9b0 : decide (x8_1 < (t253.length : Int)) = false := decide_eq_false c9
       clear c9
       simp only [Option.some.injEq, Prod.mk.injEq] at H
       obtain ⟨rfl, rfl, rfl, rfl, rfl, rfl, rfl, rfl⟩ := H
       obtain ⟨Ao59, co59, eo59⟩ := Kd.R_slice HO_7.out
       subst eo59
       have hcz60_0 : wr.cell? ⟨gb252, 0, none⟩ = some (.int .u8 x253000_1) := (blk_cell BK252.out 0).trans rfl
       have hcz60_1 : wr.cell? ⟨gb252, 1, none⟩ = some (.string x253001_1) := (blk_cell BK252.out 1).trans rfl
       have hcz60_2 : wr.cell? ⟨gb252, 2, none⟩ = some (.bool x253002_1) := (blk_cell BK252.out 2).trans rfl
       have hcz60_3 : wr.cell? ⟨gb252, 3, none⟩ = some (.int .u8 x253003_1) := (blk_cell BK252.out 3).trans rfl
       have hcz60_4 : wr.cell? ⟨gb252, 4, none⟩ = some (.int .i64 x253004_1) := (blk_cell BK252.out 4).trans rfl
       have hcz60_5 : wr.cell? ⟨gb252, 5, none⟩ = some (.int .i64 x253005_1) := (blk_cell BK252.out 5).trans rfl
       have hfz60_0 := blk_frozen BK252.out 0
       have hfz60_1 := blk_frozen BK252.out 1
       have hfz60_2 := blk_frozen BK252.out 2
       have hfz60_3 := blk_frozen BK252.out 3
       have hfz60_4 := blk_frozen BK252.out 4
       have hfz60_5 := blk_frozen BK252.out 5
       go_wp2
       refine bodyPost_ret (results_ctt rfl _ _ gb252 41 #[.int .u8 0, .string (⟨#[]⟩ : ByteArray), .bool false, .int .u8 0, .int .i64 0, .int .i64 0] (0, 0) _ rfl (by (with_reducible repeat (first | refine blk_drewN ?_ _ | refine blk_drew ?_ | refine blk_alloc ?_ _)); refine blk_put (cs := #[.int .u8 0, .string (⟨#[]⟩ : ByteArray), .bool false, .int .u8 0, .int .i64 0, .int .i64 x253005_1]) ?_ 5 _ rfl; (with_reducible repeat (first | refine blk_drewN ?_ _ | refine blk_drew ?_ | refine blk_alloc ?_ _)); refine blk_put (cs := #[.int .u8 0, .string (⟨#[]⟩ : ByteArray), .bool false, .int .u8 0, .int .i64 x253004_1, .int .i64 x253005_1]) ?_ 4 _ rfl; (with_reducible repeat (first | refine blk_drewN ?_ _ | refine blk_drew ?_ | refine blk_alloc ?_ _)); refine blk_put (cs := #[.int .u8 0, .string (⟨#[]⟩ : ByteArray), .bool false, .int .u8 x253003_1, .int .i64 x253004_1, .int .i64 x253005_1]) ?_ 3 _ rfl; (with_reducible repeat (first | refine blk_drewN ?_ _ | refine blk_drew ?_ | refine blk_alloc ?_ _)); refine blk_put (cs := #[.int .u8 0, .string (⟨#[]⟩ : ByteArray), .bool x253002_1, .int .u8 x253003_1, .int .i64 x253004_1, .int .i64 x253005_1]) ?_ 2 _ rfl; (with_reducible repeat (first | refine blk_drewN ?_ _ | refine blk_drew ?_ | refine blk_alloc ?_ _)); refine blk_put (cs := #[.int .u8 0, .string x253001_1, .bool x253002_1, .int .u8 x253003_1, .int .i64 x253004_1, .int .i64 x253005_1]) ?_ 1 _ rfl; (with_reducible repeat (first | refine blk_drewN ?_ _ | refine blk_drew ?_ | refine blk_alloc ?_ _)); refine blk_put (cs := #[.int .u8 x253000_1, .string x253001_1, .bool x253002_1, .int .u8 x253003_1, .int .i64 x253004_1, .int .i64 x253005_1]) ?_ 0 _ rfl; (with_reducible repeat (first | refine blk_drewN ?_ _ | refine blk_drew ?_ | refine blk_alloc ?_ _)); exact BK252.out) Tryz.underlying41 rfl (by kernel_rfl)) rfl ?_
       exact ⟨by first | rfl | (simp [errW_none, errW_some] <;> rfl) | (simp [*, errW_none, errW_some] <;> rfl), by repeat (first | (with_reducible first | exact HB.out | apply below_alloc | apply pw_below_drewN | apply below_drew1 | refine below_set ?_ GE252.out) | exact HB.out)⟩
end Go.Proofs.YthfobpkdloejfaaGreat.PAll
end
