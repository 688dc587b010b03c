/- Chapter 5: a part of its proof (cut by program out of F14, F15); no condition. -/
import Derived.Test.YthfobpkdloejfaaGreatLa2
import Derived.Test.YthfobpkdloejfaaGreatLa11
import Derived.Test.YthfobpkdloejfaaGreatLa13
set_option linter.unusedVariables false
set_option linter.unusedSimpArgs false
set_option linter.unusedSectionVars false
set_option maxRecDepth 100000
set_option maxHeartbeats 8000000
section
namespace Go.Proofs.YthfobpkdloejfaaGreat.PAll
open Go.Proofs.YthfobpkdloejfaaGreat
open Go.RowKit Go.Proofs.YthfobpkdloejfaaGreatW.PrintWords Go.Proofs.YthfobpkdloejfaaGreatW.PrintLast Go.Proofs.YthfobpkdloejfaaGreatW.PrintMore
attribute [local go_sem high] eqA64
def periluneref04_Of.j0 : Nat → Int → Bool → Option (Int × ByteArray × Bool × Int × Int × Int × Int)
 | 0, _, _ => none
 | k + 1, x0, x11 => if x11 = true then (some (0, (⟨#[]⟩ : ByteArray), false, 0, 0, 0, 7)) else ((periluneref04_kinds.f).bind fun t222 => (if 0 ≤ (wrap64 ((wrap64 (x0)) - 1)) then (if (wrap64 ((wrap64 (x0)) - 1)) < (t222.length : Int) then ((periluneref04_Names.f).bind fun t226 => (if (wrap64 ((wrap64 (x0)) - 1)) < (t226.length : Int) then ((periluneref04_bits.f k (rd t222 (wrap64 ((wrap64 (x0)) - 1)))).bind fun t230 => ((periluneref04_cycles.f).bind fun t231 => (if (wrap64 ((wrap64 (x0)) - 1)) < (t231.length : Int) then (some (x0, rdOf ByteArray.empty t226 (wrap64 ((wrap64 (x0)) - 1)), decide ((wrap64 ((wrap64 (x0)) - 1)) ≥ 19), rd t222 (wrap64 ((wrap64 (x0)) - 1)), t230, rd t231 (wrap64 ((wrap64 (x0)) - 1)), 0)) else (none)))) else (none))) else (none)) else (none)))
def periluneref04_Of.f (k : Nat) (a0 : Int) : Option (Int × ByteArray × Bool × Int × Int × Int × Int) := if a0 < 1 then (periluneref04_Of.j0 k a0 true) else (periluneref04_Of.j0 k a0 (decide (a0 > 39)))
def periluneref04_Of.T5 : Bool × List (List Nat × List Nat) := (true, [([], []), ([], []), ([], []), ([1, 2], [1, 2]), ([3], [3]), ([], []), ([5], [5]), ([], []), ([], []), ([8, 1], [8]), ([9], []), ([], []), ([10, 11], [10, 11]), ([12], [12]), ([0, 4, 6, 7, 9, 13], [0, 4, 6, 7, 9, 13]), ([14, 10, 0, 1, 2, 3, 4, 5, 6, 7, 8, 9, 10, 11, 12, 13, 14], [14]), ([15, 0, 1, 2, 3, 4, 5, 6, 7, 8, 9, 10, 11, 12, 13, 14, 15], [])])
def periluneref04_Of.B5 : List Nat := [0, 0, 0, 6, 14, 0, 32, 0, 0, 258, 770, 0, 3842, 7938, 16383, 32767, 65535]
theorem periluneref04_Of.tab5 : rtab .any (opsOf Tryz.f82 5) = periluneref04_Of.T5 := by kernel_rfl
theorem periluneref04_Of.bits5 : waitsOk periluneref04_Of.T5.2 periluneref04_Of.B5 = true := by kernel_rfl
theorem periluneref04_Of.calls (k : Nat) (a0 : Int) (r1 : Int) (r2 : ByteArray) (r3 : Bool) (r4 : Int) (r5 : Int) (r6 : Int) (r7 : Int) (w : World) (h : periluneref04_Of.f k a0 = some (r1, r2, r3, r4, r5, r6, r7)) :
 Calls Tryz.prog 82 #[.int .u8 a0] w fun e w' => e = .returned (.tuple #[.agg #[.int .u8 r1, .string r2, .bool r3, .int .u8 r4, .int .i64 r5, .int .i64 r6], .int .i64 r7]) ∧ Below w.heap.size w w' := by
 have hu41 := Tryz.underlying41
 have HB := Aside0.mk (Below.refl w.heap.size w)
 have H : (if a0 < 1 then (periluneref04_Of.j0 k a0 true) else (periluneref04_Of.j0 k a0 (decide (a0 > 39)))) = some (r1, r2, r3, r4, r5, r6, r7) := h
 clear h
 have HC2 := Aside0.mk H
 clear H
 go_enter Tryz.func82, Tryz.ntmps82
 go_upto_region 1 with (first | ((with_reducible refine gate_dst (N := 2) rfl ?_); refine box_event ?hg (N := 2) ?hd (cs := #[.int .u8 0, .string (⟨#[]⟩ : ByteArray), .bool false, .int .u8 0, .int .i64 0, .int .i64 0]) (t := 41) ?hr ?_; (case hd => rfl); (case hg => rfl); (case hr => first | (go_simp; done) | (go_simp; rfl)); intro gb221 hg w3 hbox hb; have n0_ := Aside0.mk (below_step (by repeat (first | (with_reducible first | exact HB.out | apply below_alloc | apply pw_below_drewN | apply below_drew1) | exact HB.out)) hb); have n1_ := Aside0.mk (hbox); have n2_ := Aside0.mk ((by rw [hg]; exact (below_size (by repeat (first | (with_reducible first | exact HB.out | apply below_alloc | apply pw_below_drewN | apply below_drew1) | exact HB.out))) : w.heap.size ≤ gb221)); have n3_ := Aside0.mk ((by rw [hg]; exact (below_size (by repeat (first | (with_reducible first | exact HB.out | apply below_alloc | apply pw_below_drewN | apply below_drew1) | exact HB.out))) : w.heap.size ≤ gb221)); clear HB; have HB := n0_; have BK221 := n1_; have GW221 := n2_; have GE221 := n3_; clear n0_ n1_ n2_ n3_; clear hb hbox hg))
 (try simp only [Act.put, List.setIfInBounds_toArray, List.set_cons_zero, List.set_cons_succ])
 go_cut [11] (fun v11 wc => ∃ (kq : Nat) (x11_1 : Bool), v11 = .bool x11_1 ∧ Aside0 (periluneref04_Of.j0 kq a0 x11_1 = some (r1, r2, r3, r4, r5, r6, r7)) ∧ Aside0 (kq ≤ k) ∧ Aside0 (wc.heap[gb221]? = some (.cells #[.int .u8 0, .string (⟨#[]⟩ : ByteArray), .bool false, .int .u8 0, .int .i64 0, .int .i64 0] 41 (0, 0))) ∧ Aside0 (Below w.heap.size w wc))
 case first =>
  have H := HC2.out
  clear HC2
  by_cases c4 : a0 < 1
  · rw [if_pos c4] at H
    have c4b0 : decide (a0 < 1) = true := decide_eq_true c4
    clear c4
    (first | rw [c4b0] | (simp only [i64_w, i32_w]; rw [c4b0]) | skip)
    have H' := Aside0.mk H
    clear H
    go_wp2
    go_meet
    case rel => exact ⟨_, (true), (by first | rfl | (simp; done) | (simp [*]; done)), H', ⟨by first | omega | exact Nat.le_refl _⟩, ⟨by (with_reducible repeat (first | refine blk_drewN ?_ _ | refine blk_drew ?_ | refine blk_alloc ?_ _)); exact BK221.out⟩, ⟨by repeat (first | (with_reducible first | exact HB.out | apply below_alloc | apply pw_below_drewN | apply below_drew1 | refine below_set ?_ GE221.out) | exact HB.out)⟩⟩
  · rw [if_neg c4] at H
    have c4b0 : decide (a0 < 1) = false := decide_eq_false c4
    clear c4
    (first | rw [c4b0] | (simp only [i64_w, i32_w]; rw [c4b0]) | skip)
    have H' := Aside0.mk H
    clear H
    go_wp2
    go_meet
    case rel => exact ⟨_, (decide (a0 > 39)), (by first | rfl | (simp; done) | (simp [*]; done)), H', ⟨by first | omega | exact Nat.le_refl _⟩, ⟨by (with_reducible repeat (first | refine blk_drewN ?_ _ | refine blk_drew ?_ | refine blk_alloc ?_ _)); exact BK221.out⟩, ⟨by repeat (first | (with_reducible first | exact HB.out | apply below_alloc | apply pw_below_drewN | apply below_drew1 | refine below_set ?_ GE221.out) | exact HB.out)⟩⟩
 case rest =>
  clear HC2
  try clear p2
  try clear c4
  try clear c4b0
  obtain ⟨kq, x11_1, rfl, HA, HJ1, BK221, HB⟩ := hcut
  cases kq with
  | zero => exact absurd HA.out (by simp [periluneref04_Of.j0])
  | succ kj1 =>
   have H := HA.out
   clear HA
   simp only [periluneref04_Of.j0] at H
   by_cases c5 : x11_1 = true
   · subst c5
     have H1 : (some (0, (⟨#[]⟩ : ByteArray), false, 0, 0, 0, 7)) = some (r1, r2, r3, r4, r5, r6, r7) := by rw [if_pos rfl] at H; exact H
     clear H
     have H := H1
     clear H1
     simp only [Option.some.injEq, Prod.mk.injEq] at H
     obtain ⟨rfl, rfl, rfl, rfl, rfl, rfl, rfl⟩ := H
     have hcz6_0 : wc.cell? ⟨gb221, 0, none⟩ = some (.int .u8 0) := (blk_cell BK221.out 0).trans rfl
     have hcz6_1 : wc.cell? ⟨gb221, 1, none⟩ = some (.string (⟨#[]⟩ : ByteArray)) := (blk_cell BK221.out 1).trans rfl
     have hcz6_2 : wc.cell? ⟨gb221, 2, none⟩ = some (.bool false) := (blk_cell BK221.out 2).trans rfl
     have hcz6_3 : wc.cell? ⟨gb221, 3, none⟩ = some (.int .u8 0) := (blk_cell BK221.out 3).trans rfl
     have hcz6_4 : wc.cell? ⟨gb221, 4, none⟩ = some (.int .i64 0) := (blk_cell BK221.out 4).trans rfl
     have hcz6_5 : wc.cell? ⟨gb221, 5, none⟩ = some (.int .i64 0) := (blk_cell BK221.out 5).trans rfl
     have hfz6_0 := blk_frozen BK221.out 0
     have hfz6_1 := blk_frozen BK221.out 1
     have hfz6_2 := blk_frozen BK221.out 2
     have hfz6_3 := blk_frozen BK221.out 3
     have hfz6_4 := blk_frozen BK221.out 4
     have hfz6_5 := blk_frozen BK221.out 5
     go_wp2
     refine bodyPost_ret (results_ct rfl _ _ gb221 41 #[.int .u8 0, .string (⟨#[]⟩ : ByteArray), .bool false, .int .u8 0, .int .i64 0, .int .i64 0] (0, 0) _ rfl (by (with_reducible repeat (first | refine blk_drewN ?_ _ | refine blk_drew ?_ | refine blk_alloc ?_ _)); refine blk_put (cs := #[.int .u8 0, .string (⟨#[]⟩ : ByteArray), .bool false, .int .u8 0, .int .i64 0, .int .i64 0]) ?_ 5 _ rfl; (with_reducible repeat (first | refine blk_drewN ?_ _ | refine blk_drew ?_ | refine blk_alloc ?_ _)); refine blk_put (cs := #[.int .u8 0, .string (⟨#[]⟩ : ByteArray), .bool false, .int .u8 0, .int .i64 0, .int .i64 0]) ?_ 4 _ rfl; (with_reducible repeat (first | refine blk_drewN ?_ _ | refine blk_drew ?_ | refine blk_alloc ?_ _)); refine blk_put (cs := #[.int .u8 0, .string (⟨#[]⟩ : ByteArray), .bool false, .int .u8 0, .int .i64 0, .int .i64 0]) ?_ 3 _ rfl; (with_reducible repeat (first | refine blk_drewN ?_ _ | refine blk_drew ?_ | refine blk_alloc ?_ _)); refine blk_put (cs := #[.int .u8 0, .string (⟨#[]⟩ : ByteArray), .bool false, .int .u8 0, .int .i64 0, .int .i64 0]) ?_ 2 _ rfl; (with_reducible repeat (first | refine blk_drewN ?_ _ | refine blk_drew ?_ | refine blk_alloc ?_ _)); refine blk_put (cs := #[.int .u8 0, .string (⟨#[]⟩ : ByteArray), .bool false, .int .u8 0, .int .i64 0, .int .i64 0]) ?_ 1 _ rfl; (with_reducible repeat (first | refine blk_drewN ?_ _ | refine blk_drew ?_ | refine blk_alloc ?_ _)); refine blk_put (cs := #[.int .u8 0, .string (⟨#[]⟩ : ByteArray), .bool false, .int .u8 0, .int .i64 0, .int .i64 0]) ?_ 0 _ rfl; (with_reducible repeat (first | refine blk_drewN ?_ _ | refine blk_drew ?_ | refine blk_alloc ?_ _)); exact BK221.out) Tryz.underlying41 rfl (by kernel_rfl)) rfl ?_
     exact ⟨by first | rfl | (simp [errW_none, errW_some] <;> rfl) | (simp [*, errW_none, errW_some] <;> rfl), by repeat (first | (with_reducible first | exact HB.out | apply below_alloc | apply pw_below_drewN | apply below_drew1 | refine below_set ?_ GE221.out) | exact HB.out)⟩
   · replace c5 := Bool.eq_false_iff.mpr c5
     subst c5
     have H1 : ((periluneref04_kinds.f).bind fun t222 => (if 0 ≤ (wrap64 ((wrap64 (a0)) - 1)) then (if (wrap64 ((wrap64 (a0)) - 1)) < (t222.length : Int) then ((periluneref04_Names.f).bind fun t226 => (if (wrap64 ((wrap64 (a0)) - 1)) < (t226.length : Int) then ((periluneref04_bits.f kj1 (rd t222 (wrap64 ((wrap64 (a0)) - 1)))).bind fun t230 => ((periluneref04_cycles.f).bind fun t231 => (if (wrap64 ((wrap64 (a0)) - 1)) < (t231.length : Int) then (some (a0, rdOf ByteArray.empty t226 (wrap64 ((wrap64 (a0)) - 1)), decide ((wrap64 ((wrap64 (a0)) - 1)) ≥ 19), rd t222 (wrap64 ((wrap64 (a0)) - 1)), t230, rd t231 (wrap64 ((wrap64 (a0)) - 1)), 0)) else (none)))) else (none))) else (none)) else (none))) = some (r1, r2, r3, r4, r5, r6, r7) := by rw [if_neg (show ¬ (false = true) by decide)] at H; exact H
     clear H
     have H := H1
     clear H1
     replace H := Option.bind_eq_some_iff.mp H
     obtain ⟨t222, A70, H⟩ := H
     replace H : (if 0 ≤ (wrap64 ((wrap64 (a0)) - 1)) then (if (wrap64 ((wrap64 (a0)) - 1)) < (t222.length : Int) then ((periluneref04_Names.f).bind fun t226 => (if (wrap64 ((wrap64 (a0)) - 1)) < (t226.length : Int) then ((periluneref04_bits.f kj1 (rd t222 (wrap64 ((wrap64 (a0)) - 1)))).bind fun t230 => ((periluneref04_cycles.f).bind fun t231 => (if (wrap64 ((wrap64 (a0)) - 1)) < (t231.length : Int) then (some (a0, rdOf ByteArray.empty t226 (wrap64 ((wrap64 (a0)) - 1)), decide ((wrap64 ((wrap64 (a0)) - 1)) ≥ 19), rd t222 (wrap64 ((wrap64 (a0)) - 1)), t230, rd t231 (wrap64 ((wrap64 (a0)) - 1)), 0)) else (none)))) else (none))) else (none)) else (none)) = some (r1, r2, r3, r4, r5, r6, r7) := H
     have A7 := Aside0.mk A70
     clear A70
     obtain ⟨ji8, hji8⟩ : ∃ j_ : Int, (wrap64 ((wrap64 (a0)) - 1)) = j_ := ⟨_, rfl⟩
     replace H : (if 0 ≤ (ji8) then (if (ji8) < (t222.length : Int) then ((periluneref04_Names.f).bind fun t226 => (if (ji8) < (t226.length : Int) then ((periluneref04_bits.f kj1 (rd t222 (ji8))).bind fun t230 => ((periluneref04_cycles.f).bind fun t231 => (if (ji8) < (t231.length : Int) then (some (a0, rdOf ByteArray.empty t226 (ji8), decide ((ji8) ≥ 19), rd t222 (ji8), t230, rd t231 (ji8), 0)) else (none)))) else (none))) else (none)) else (none)) = some (r1, r2, r3, r4, r5, r6, r7) := by first | (rw [hji8] at H; exact H) | (simp only [hji8] at H ⊢; exact H)
     (try rw [hji8] at A7)
     have hji8w : (IntKind.i64.wrap ((wrap64 (a0)) - 1)) = ji8 := (i64_w _).trans hji8
     by_cases c9 : 0 ≤ (ji8)
     · rw [if_pos c9] at H
       have c9b0 : decide (0 ≤ (ji8)) = true := decide_eq_true c9
       clear c9
       by_cases c10 : (ji8) < (t222.length : Int)
       · rw [if_pos c10] at H
         have c10b0 : decide ((ji8) < (t222.length : Int)) = true := decide_eq_true c10
         clear c10
         replace H := Option.bind_eq_some_iff.mp H
         obtain ⟨t226, A110, H⟩ := H
         replace H : (if (ji8) < (t226.length : Int) then ((periluneref04_bits.f kj1 (rd t222 (ji8))).bind fun t230 => ((periluneref04_cycles.f).bind fun t231 => (if (ji8) < (t231.length : Int) then (some (a0, rdOf ByteArray.empty t226 (ji8), decide ((ji8) ≥ 19), rd t222 (ji8), t230, rd t231 (ji8), 0)) else (none)))) else (none)) = some (r1, r2, r3, r4, r5, r6, r7) := H
         have A11 := Aside0.mk A110
         clear A110
         by_cases c12 : (ji8) < (t226.length : Int)
         · rw [if_pos c12] at H
           have c12b0 : decide ((ji8) < (t226.length : Int)) = true := decide_eq_true c12
           clear c12
           replace H := Option.bind_eq_some_iff.mp H
           obtain ⟨t230, A130, H⟩ := H
           replace H : ((periluneref04_cycles.f).bind fun t231 => (if (ji8) < (t231.length : Int) then (some (a0, rdOf ByteArray.empty t226 (ji8), decide ((ji8) ≥ 19), rd t222 (ji8), t230, rd t231 (ji8), 0)) else (none))) = some (r1, r2, r3, r4, r5, r6, r7) := H
           have A13 := Aside0.mk A130
           clear A130
           replace H := Option.bind_eq_some_iff.mp H
           obtain ⟨t231, A140, H⟩ := H
           replace H : (if (ji8) < (t231.length : Int) then (some (a0, rdOf ByteArray.empty t226 (ji8), decide ((ji8) ≥ 19), rd t222 (ji8), t230, rd t231 (ji8), 0)) else (none)) = some (r1, r2, r3, r4, r5, r6, r7) := H
           have A14 := Aside0.mk A140
           clear A140
           by_cases c15 : (ji8) < (t231.length : Int)
           · rw [if_pos c15] at H
             have c15b0 : decide ((ji8) < (t231.length : Int)) = true := decide_eq_true c15
             clear c15
             simp only [Option.some.injEq, Prod.mk.injEq] at H
             obtain ⟨rfl, rfl, rfl, rfl, rfl, rfl, rfl⟩ := H
             try go_wp2_with (first | ((with_reducible refine gate_callee (f := 160) rfl ?_); refine goesL_ (some 16) rfl rfl Tryz.func160 (by kernel_rfl) rfl #[] rfl (by (try simp only [List.map_toArray, List.map_cons, List.map_nil]); first | done | rfl | (simp only [List.length_drop, List.length_take]; rfl)) ?_; (with_reducible refine (periluneref04_kinds.calls  t222 _ A7.out).mono ?_); rintro e w16 ⟨v223, rfl, ho0, hb⟩; refine ⟨_, rfl, ?_⟩; have n0_ := Aside0.mk (Kd.R_lower ho0 (below_size (by repeat (first | (with_reducible first | exact HB.out | apply below_alloc | apply pw_below_drewN | apply below_drew1 | refine below_set ?_ GE221.out) | exact HB.out)))); have n1_ := Aside0.mk (blk_below (g := gb221) (o := .cells #[.int .u8 0, .string (⟨#[]⟩ : ByteArray), .bool false, .int .u8 0, .int .i64 0, .int .i64 0] 41 (0, 0)) (by (with_reducible repeat (first | refine blk_drewN ?_ _ | refine blk_drew ?_ | refine blk_alloc ?_ _)); exact BK221.out) hb); have n2_ := Aside0.mk (below_step (by repeat (first | (with_reducible first | exact HB.out | apply below_alloc | apply pw_below_drewN | apply below_drew1 | refine below_set ?_ GE221.out) | exact HB.out)) hb); clear BK221; clear HB; have HO224 := n0_; have BK221 := n1_; have HB := n2_; clear n0_ n1_ n2_; (try clear hb); (try clear hb2); (try clear hk); (try clear hi); (try clear ho0); obtain ⟨Ao17, co17, eo17⟩ := Kd.R_slice HO224.out; subst eo17; have p225 : 0 ≤ ((ji8) : Int) := of_decide_eq_true (by first | (with_reducible assumption) | assumption); have q225 : (ji8) < (t222.length : Int) := of_decide_eq_true (by first | (with_reducible assumption) | assumption); obtain ⟨ad225, e225, hx225_0⟩ := Kd.at_int (Kd.R_reads' HO224.out).2.2 (ji8) p225 q225; cases e225; replace p225 := eq_true p225; replace q225 := eq_true q225))
             have n0_ := Aside0.mk (Kd.R_drew HO224.out)
             have n1_ := Aside0.mk (blk_drew BK221.out)
             have n2_ := Aside0.mk (below_drew1 HB.out)
             clear HO224
             clear BK221
             clear HB
             have HO224 := n0_
             have BK221 := n1_
             have HB := n2_
             clear n0_ n1_ n2_
             refine start_ (n := 17) (S := fun w' => True) (ds := []) #[false, false, false, false, false, false, false, false, false, false, false, false, false, false, false, false, false] (by kernel_rfl) rfl rfl trivial (fun hHeld => ?_); refine with_tabW periluneref04_Of.tab5 periluneref04_Of.bits5 (fun HT_ HW_ => ?_)
             generalize w16.drew = w18 at HO224 BK221 HB hHeld ⊢
             refine pvq_ 0 (some 20) rfl rfl ?_ (any_of HT_.out (by kernel_rfl))
             refine pvq_ 2 (some 22) rfl rfl ?_ (any_of HT_.out (by kernel_rfl))
             refine pvq_ 5 (some 25) rfl rfl ?_ (any_of HT_.out (by kernel_rfl))
             refine pvq_ 6 (some 26) rfl rfl ?_ (any_of HT_.out (by kernel_rfl))
             refine pvq_ 7 (some 27) rfl rfl ?_ (any_of HT_.out (by kernel_rfl))
             refine pvq_ 8 (some 28) rfl rfl ?_ (any_of HT_.out (by kernel_rfl))
             refine pvq_ 11 (some 31) rfl rfl ?_ (any_of HT_.out (by kernel_rfl))
             refine onq_ 1 (some 21) rfl rfl (fun K hK => ?_) (one_of HT_.out (by kernel_rfl))
             refine goes_ Tryz.func161 (by kernel_rfl) rfl #[] (by rfl) rfl rfl (by (try simp only [List.map_toArray, List.map_cons, List.map_nil]); first | done | rfl | (simp only [List.length_drop, List.length_take]; rfl)) ?_
             with_reducible refine (periluneref04_Names.calls  t226 _ A11.out).mono ?_
             rintro e w19 ⟨v227, rfl, ho0, hb⟩
             refine ⟨_, rfl, ?_⟩
             have n0_ := Aside0.mk (Kd.R_below (by (with_reducible repeat (first | apply Kd.R_alloc | apply Kd.R_drewN | apply Kd.R_drew)); exact HO224.out) hb)
             have n1_ := Aside0.mk (Kd.R_lower ho0 (below_size (by repeat (first | (with_reducible first | exact HB.out | apply below_alloc | apply pw_below_drewN | apply below_drew1 | refine below_set ?_ GE221.out) | exact HB.out))))
             have n2_ := Aside0.mk (blk_below (g := gb221) (o := .cells #[.int .u8 0, .string (⟨#[]⟩ : ByteArray), .bool false, .int .u8 0, .int .i64 0, .int .i64 0] 41 (0, 0)) (by (with_reducible repeat (first | refine blk_drewN ?_ _ | refine blk_drew ?_ | refine blk_alloc ?_ _)); exact BK221.out) hb)
             have n3_ := Aside0.mk (below_step (by repeat (first | (with_reducible first | exact HB.out | apply below_alloc | apply pw_below_drewN | apply below_drew1 | refine below_set ?_ GE221.out) | exact HB.out)) hb)
             clear HO224
             clear BK221
             clear HB
             have HO224 := n0_
             have HO228 := n1_
             have BK221 := n2_
             have HB := n3_
             clear n0_ n1_ n2_ n3_
             (try clear hb)
             (try clear hb2)
             (try clear hk)
             (try clear hi)
             (try clear ho0)
             obtain ⟨Ao20, co20, eo20⟩ := Kd.R_slice HO228.out
             (first | subst eo20 | (injection eo20 with f1_ f2_ f3_; have f4_ := f1_.symm; have f5_ := f3_.symm; clear f1_ f2_ f3_; subst f4_; subst f5_))
             have p229 : 0 ≤ ((ji8) : Int) := of_decide_eq_true (by first | (with_reducible assumption) | assumption)
             have q229 : (ji8) < (t226.length : Int) := of_decide_eq_true (by first | (with_reducible assumption) | assumption)
             obtain ⟨ad229, e229, hx229_0⟩ := Kd.at_string (Kd.R_reads' HO228.out).2.2 (ji8) p229 q229
             cases e229
             replace p229 := eq_true p229
             replace q229 := eq_true q229
             refine hK.out _ _ trivial (fun hHeld => ?_)
             refine Swap.swap_ (S2 := fun w' => w'.cell? (ad229.add ((ji8)).toNat) = some (.string (rdOf ByteArray.empty t226 (ji8)))) (fun _ h => trivial) _ _ _ _ hx229_0 ?_
             replace hHeld := hx229_0
             clear hK K
             refine nmq_ (some 21) ?_
             refine pvq_ 3 (some 23) rfl rfl ?_ (any_of HT_.out (by kernel_rfl))
             refine take_ (i := 4) (N := some 24) (v := ?_) (a' := ?_) #[true, true, true, true, true, true, true, true, true, false, false, true, false, false, false, false, false] rfl rfl (take_ofW HT_.out HW_.out (by kernel_rfl)) (fun _ _ _ h => h) (Or.inl ⟨by rfl, ?_⟩) hHeld ?_ ?_
             rotate_left
             · intro w' s0
               go_simp
               with_reducible rfl
             rotate_left
             · simp only [Act.put, List.setIfInBounds_toArray, List.set_cons_zero, List.set_cons_succ, i64_w, i32_w]
               rfl
             refine onq_ 9 (some 29) rfl rfl (fun K hK => ?_) (one_of HT_.out (by kernel_rfl))
             refine goes_ Tryz.func162 (by kernel_rfl) rfl #[.int .u8 (rd t222 (ji8))] (by rfl) rfl rfl (by (try simp only [List.map_toArray, List.map_cons, List.map_nil]); first | done | (simp only [hji8]; rfl) | rfl | (simp only [List.length_drop, List.length_take]; rfl)) ?_
             with_reducible refine (periluneref04_bits.calls kj1 (rd t222 (ji8)) t230 _ A13.out).mono ?_
             rintro e w' ⟨rfl, ⟨nd, rfl⟩⟩
             refine ⟨_, rfl, ?_⟩
             refine hK.out _ _ hHeld (fun hHeld => ?_)
             clear hK K
             refine nmq_ (some 29) ?_
             refine onq_ 10 (some 30) rfl rfl (fun K hK => ?_) (one_of HT_.out (by kernel_rfl))
             refine goes_ Tryz.func163 (by kernel_rfl) rfl #[] (by rfl) rfl rfl (by (try simp only [List.map_toArray, List.map_cons, List.map_nil]); first | done | rfl | (simp only [List.length_drop, List.length_take]; rfl)) ?_
             with_reducible refine (periluneref04_cycles.calls  t231 _ A14.out).mono ?_
             rintro e w21 ⟨v232, rfl, ho0, hb⟩
             have HS0_ := (hb.cell (World.block_lt_of_cell? _ _ (hHeld))).trans (hHeld)
             refine ⟨_, rfl, ?_⟩
             have n0_ := Aside0.mk (Kd.R_below (by (with_reducible repeat (first | apply Kd.R_alloc | apply Kd.R_drewN | apply Kd.R_drew)); exact HO224.out) hb)
             have n1_ := Aside0.mk (Kd.R_below (by (with_reducible repeat (first | apply Kd.R_alloc | apply Kd.R_drewN | apply Kd.R_drew)); exact HO228.out) hb)
             have n2_ := Aside0.mk (Kd.R_lower ho0 (below_size (by repeat (first | (with_reducible first | exact HB.out | apply below_alloc | apply pw_below_drewN | apply below_drew1 | refine below_set ?_ GE221.out) | exact HB.out))))
             have n3_ := Aside0.mk (blk_below (g := gb221) (o := .cells #[.int .u8 0, .string (⟨#[]⟩ : ByteArray), .bool false, .int .u8 0, .int .i64 0, .int .i64 0] 41 (0, 0)) (by (with_reducible repeat (first | refine blk_drewN ?_ _ | refine blk_drew ?_ | refine blk_alloc ?_ _)); exact BK221.out) hb)
             have n4_ := Aside0.mk (below_step (by repeat (first | (with_reducible first | exact HB.out | apply below_alloc | apply pw_below_drewN | apply below_drew1 | refine below_set ?_ GE221.out) | exact HB.out)) hb)
             clear HO224
             clear HO228
             clear BK221
             clear HB
             have HO224 := n0_
             have HO228 := n1_
             have HO233 := n2_
             have BK221 := n3_
             have HB := n4_
             clear n0_ n1_ n2_ n3_ n4_
             (try clear hb)
             (try clear hb2)
             (try clear hk)
             (try clear hi)
             (try clear ho0)
             obtain ⟨Ao22, co22, eo22⟩ := Kd.R_slice HO233.out
             (first | subst eo22 | (injection eo22 with f1_ f2_ f3_; have f4_ := f1_.symm; have f5_ := f3_.symm; clear f1_ f2_ f3_; subst f4_; subst f5_))
             have p234 : 0 ≤ ((ji8) : Int) := of_decide_eq_true (by first | (with_reducible assumption) | assumption)
             have q234 : (ji8) < (t231.length : Int) := of_decide_eq_true (by first | (with_reducible assumption) | assumption)
             obtain ⟨ad234, e234, hx234_0⟩ := Kd.at_int (Kd.R_reads' HO233.out).2.2 (ji8) p234 q234
             cases e234
             replace p234 := eq_true p234
             replace q234 := eq_true q234
             refine hK.out _ _ HS0_ (fun hHeld => ?_)
             refine Swap.swap_ (S2 := fun w' => w'.cell? (ad229.add ((ji8)).toNat) = some (.string (rdOf ByteArray.empty t226 (ji8))) ∧ w'.cell? (ad234.add ((ji8)).toNat) = some (.int .i64 (rd t231 (ji8)))) (fun _ h => h.1) _ _ _ _ ⟨hHeld, hx234_0⟩ ?_
             replace hHeld := And.intro hHeld (hx234_0)
             clear hK K
             refine nmq_ (some 30) ?_
             refine pvq_ 12 (some 32) rfl rfl ?_ (any_of HT_.out (by kernel_rfl))
             refine take_ (i := 13) (N := some 33) (v := ?_) (a' := ?_) #[true, true, true, true, true, true, true, true, true, true, true, true, true, true, false, false, false] rfl rfl (take_ofW HT_.out HW_.out (by kernel_rfl)) (fun _ _ _ h => h) (Or.inl ⟨by rfl, ?_⟩) hHeld ?_ ?_
             rotate_left
             · rintro w' ⟨s0, s1⟩
               go_simp
               with_reducible rfl
             rotate_left
             · simp only [Act.put, List.setIfInBounds_toArray, List.set_cons_zero, List.set_cons_succ, i64_w, i32_w]
               rfl
             refine pvq_ 14 (some 34) rfl rfl ?_ (any_of HT_.out (by kernel_rfl))
             refine onq_ 15 none rfl rfl (fun K hK => ?_) (one_of HT_.out (by kernel_rfl))
             have hs23 : w21.cell? ⟨gb221, 0, none⟩ = some (.int .u8 0) := (blk_cell BK221.out 0).trans rfl
             have hfs23 := blk_frozen BK221.out 0
             have hs24 : w21.cell? ⟨gb221, 1, none⟩ = some (.string (⟨#[]⟩ : ByteArray)) := (blk_cell BK221.out 1).trans rfl
             have hfs24 := blk_frozen BK221.out 1
             have hs25 : w21.cell? ⟨gb221, 2, none⟩ = some (.bool false) := (blk_cell BK221.out 2).trans rfl
             have hfs25 := blk_frozen BK221.out 2
             have hs26 : w21.cell? ⟨gb221, 3, none⟩ = some (.int .u8 0) := (blk_cell BK221.out 3).trans rfl
             have hfs26 := blk_frozen BK221.out 3
             have hs27 : w21.cell? ⟨gb221, 4, none⟩ = some (.int .i64 0) := (blk_cell BK221.out 4).trans rfl
             have hfs27 := blk_frozen BK221.out 4
             have hs28 : w21.cell? ⟨gb221, 5, none⟩ = some (.int .i64 0) := (blk_cell BK221.out 5).trans rfl
             have hfs28 := blk_frozen BK221.out 5
             refine skip_ (w1 := ?_) (by rfl) rfl ?_ ?_
             rotate_left
             · go_simp
               rfl
             refine hK.out _ _ ⟨((cell_far (p := ⟨gb221, _, none⟩) (by first | exact Kd.own_blk (Kd.R_ne HO228.out BK221.out (by decide)) | (rw [add_block]; exact Kd.own_blk (Kd.R_ne HO228.out BK221.out (by decide))) | (show (Addr.add _ _).block ≠ _; rw [add_block]; exact Kd.own_blk (Kd.R_ne HO228.out BK221.out (by decide))) | (dsimp only; exact Kd.own_blk (Kd.R_ne HO228.out BK221.out (by decide)))) _).trans (((cell_far (p := ⟨gb221, _, none⟩) (by first | exact Kd.own_blk (Kd.R_ne HO228.out BK221.out (by decide)) | (rw [add_block]; exact Kd.own_blk (Kd.R_ne HO228.out BK221.out (by decide))) | (show (Addr.add _ _).block ≠ _; rw [add_block]; exact Kd.own_blk (Kd.R_ne HO228.out BK221.out (by decide))) | (dsimp only; exact Kd.own_blk (Kd.R_ne HO228.out BK221.out (by decide)))) _).trans (((cell_far (p := ⟨gb221, _, none⟩) (by first | exact Kd.own_blk (Kd.R_ne HO228.out BK221.out (by decide)) | (rw [add_block]; exact Kd.own_blk (Kd.R_ne HO228.out BK221.out (by decide))) | (show (Addr.add _ _).block ≠ _; rw [add_block]; exact Kd.own_blk (Kd.R_ne HO228.out BK221.out (by decide))) | (dsimp only; exact Kd.own_blk (Kd.R_ne HO228.out BK221.out (by decide)))) _).trans (((cell_far (p := ⟨gb221, _, none⟩) (by first | exact Kd.own_blk (Kd.R_ne HO228.out BK221.out (by decide)) | (rw [add_block]; exact Kd.own_blk (Kd.R_ne HO228.out BK221.out (by decide))) | (show (Addr.add _ _).block ≠ _; rw [add_block]; exact Kd.own_blk (Kd.R_ne HO228.out BK221.out (by decide))) | (dsimp only; exact Kd.own_blk (Kd.R_ne HO228.out BK221.out (by decide)))) _).trans (((cell_far (p := ⟨gb221, _, none⟩) (by first | exact Kd.own_blk (Kd.R_ne HO228.out BK221.out (by decide)) | (rw [add_block]; exact Kd.own_blk (Kd.R_ne HO228.out BK221.out (by decide))) | (show (Addr.add _ _).block ≠ _; rw [add_block]; exact Kd.own_blk (Kd.R_ne HO228.out BK221.out (by decide))) | (dsimp only; exact Kd.own_blk (Kd.R_ne HO228.out BK221.out (by decide)))) _).trans (((cell_far (p := ⟨gb221, _, none⟩) (by first | exact Kd.own_blk (Kd.R_ne HO228.out BK221.out (by decide)) | (rw [add_block]; exact Kd.own_blk (Kd.R_ne HO228.out BK221.out (by decide))) | (show (Addr.add _ _).block ≠ _; rw [add_block]; exact Kd.own_blk (Kd.R_ne HO228.out BK221.out (by decide))) | (dsimp only; exact Kd.own_blk (Kd.R_ne HO228.out BK221.out (by decide)))) _).trans (hHeld.1)))))))))))), ((cell_far (p := ⟨gb221, _, none⟩) (by first | exact Kd.own_blk (Kd.R_ne HO233.out BK221.out (by decide)) | (rw [add_block]; exact Kd.own_blk (Kd.R_ne HO233.out BK221.out (by decide))) | (show (Addr.add _ _).block ≠ _; rw [add_block]; exact Kd.own_blk (Kd.R_ne HO233.out BK221.out (by decide))) | (dsimp only; exact Kd.own_blk (Kd.R_ne HO233.out BK221.out (by decide)))) _).trans (((cell_far (p := ⟨gb221, _, none⟩) (by first | exact Kd.own_blk (Kd.R_ne HO233.out BK221.out (by decide)) | (rw [add_block]; exact Kd.own_blk (Kd.R_ne HO233.out BK221.out (by decide))) | (show (Addr.add _ _).block ≠ _; rw [add_block]; exact Kd.own_blk (Kd.R_ne HO233.out BK221.out (by decide))) | (dsimp only; exact Kd.own_blk (Kd.R_ne HO233.out BK221.out (by decide)))) _).trans (((cell_far (p := ⟨gb221, _, none⟩) (by first | exact Kd.own_blk (Kd.R_ne HO233.out BK221.out (by decide)) | (rw [add_block]; exact Kd.own_blk (Kd.R_ne HO233.out BK221.out (by decide))) | (show (Addr.add _ _).block ≠ _; rw [add_block]; exact Kd.own_blk (Kd.R_ne HO233.out BK221.out (by decide))) | (dsimp only; exact Kd.own_blk (Kd.R_ne HO233.out BK221.out (by decide)))) _).trans (((cell_far (p := ⟨gb221, _, none⟩) (by first | exact Kd.own_blk (Kd.R_ne HO233.out BK221.out (by decide)) | (rw [add_block]; exact Kd.own_blk (Kd.R_ne HO233.out BK221.out (by decide))) | (show (Addr.add _ _).block ≠ _; rw [add_block]; exact Kd.own_blk (Kd.R_ne HO233.out BK221.out (by decide))) | (dsimp only; exact Kd.own_blk (Kd.R_ne HO233.out BK221.out (by decide)))) _).trans (((cell_far (p := ⟨gb221, _, none⟩) (by first | exact Kd.own_blk (Kd.R_ne HO233.out BK221.out (by decide)) | (rw [add_block]; exact Kd.own_blk (Kd.R_ne HO233.out BK221.out (by decide))) | (show (Addr.add _ _).block ≠ _; rw [add_block]; exact Kd.own_blk (Kd.R_ne HO233.out BK221.out (by decide))) | (dsimp only; exact Kd.own_blk (Kd.R_ne HO233.out BK221.out (by decide)))) _).trans (((cell_far (p := ⟨gb221, _, none⟩) (by first | exact Kd.own_blk (Kd.R_ne HO233.out BK221.out (by decide)) | (rw [add_block]; exact Kd.own_blk (Kd.R_ne HO233.out BK221.out (by decide))) | (show (Addr.add _ _).block ≠ _; rw [add_block]; exact Kd.own_blk (Kd.R_ne HO233.out BK221.out (by decide))) | (dsimp only; exact Kd.own_blk (Kd.R_ne HO233.out BK221.out (by decide)))) _).trans (hHeld.2))))))))))))⟩ (fun hHeld => ?_)
             clear hK K
             refine pvq_ 16 (some 3) rfl rfl ?_ (any_of HT_.out (by kernel_rfl))
             refine done_ (done_of HT_.out (by kernel_rfl)) ?_
             try go_wp2
             refine bodyPost_ret (results_ct rfl _ _ gb221 41 #[.int .u8 a0, .string (rdOf ByteArray.empty t226 (ji8)), .bool (decide ((ji8) ≥ 19)), .int .u8 (rd t222 (ji8)), .int .i64 t230, .int .i64 (rd t231 (ji8))] (0, 0) _ rfl (by (with_reducible repeat (first | refine blk_drewN ?_ _ | refine blk_drew ?_ | refine blk_alloc ?_ _)); refine blk_put (cs := #[.int .u8 a0, .string (rdOf ByteArray.empty t226 (ji8)), .bool (decide ((ji8) ≥ 19)), .int .u8 (rd t222 (ji8)), .int .i64 t230, .int .i64 0]) ?_ 5 _ rfl; (with_reducible repeat (first | refine blk_drewN ?_ _ | refine blk_drew ?_ | refine blk_alloc ?_ _)); refine blk_put (cs := #[.int .u8 a0, .string (rdOf ByteArray.empty t226 (ji8)), .bool (decide ((ji8) ≥ 19)), .int .u8 (rd t222 (ji8)), .int .i64 0, .int .i64 0]) ?_ 4 _ rfl; (with_reducible repeat (first | refine blk_drewN ?_ _ | refine blk_drew ?_ | refine blk_alloc ?_ _)); refine blk_put (cs := #[.int .u8 a0, .string (rdOf ByteArray.empty t226 (ji8)), .bool (decide ((ji8) ≥ 19)), .int .u8 0, .int .i64 0, .int .i64 0]) ?_ 3 _ rfl; (with_reducible repeat (first | refine blk_drewN ?_ _ | refine blk_drew ?_ | refine blk_alloc ?_ _)); refine blk_put (cs := #[.int .u8 a0, .string (rdOf ByteArray.empty t226 (ji8)), .bool false, .int .u8 0, .int .i64 0, .int .i64 0]) ?_ 2 _ rfl; (with_reducible repeat (first | refine blk_drewN ?_ _ | refine blk_drew ?_ | refine blk_alloc ?_ _)); refine blk_put (cs := #[.int .u8 a0, .string (⟨#[]⟩ : ByteArray), .bool false, .int .u8 0, .int .i64 0, .int .i64 0]) ?_ 1 _ rfl; (with_reducible repeat (first | refine blk_drewN ?_ _ | refine blk_drew ?_ | refine blk_alloc ?_ _)); refine blk_put (cs := #[.int .u8 0, .string (⟨#[]⟩ : ByteArray), .bool false, .int .u8 0, .int .i64 0, .int .i64 0]) ?_ 0 _ rfl; (with_reducible repeat (first | refine blk_drewN ?_ _ | refine blk_drew ?_ | refine blk_alloc ?_ _)); exact BK221.out) Tryz.underlying41 rfl (by kernel_rfl)) rfl ?_
             exact ⟨by first | rfl | (simp [errW_none, errW_some] <;> rfl) | (simp only [← hji8]; first | rfl | (simp [errW_none, errW_some] <;> rfl)) | (simp [*, errW_none, errW_some] <;> rfl), by repeat (first | (with_reducible first | exact HB.out | apply below_alloc | apply pw_below_drewN | apply below_drew1 | refine below_set ?_ GE221.out) | exact HB.out)⟩
           · rw [if_neg c15] at H
             exact absurd H (by simp)
         · rw [if_neg c12] at H
           exact absurd H (by simp)
       · rw [if_neg c10] at H
         exact absurd H (by simp)
     · rw [if_neg c9] at H
       exact absurd H (by simp)
end Go.Proofs.YthfobpkdloejfaaGreat.PAll
end
section
namespace Go.Proofs.YthfobpkdloejfaaGreat.PAll
open Go.RowKit Go.Proofs.YthfobpkdloejfaaGreatW.PrintWords Go.Proofs.YthfobpkdloejfaaGreatW.PrintLast Go.Proofs.YthfobpkdloejfaaGreatW.PrintMore
attribute [local go_sem high] eqA64
def periluneref04_Range.f (a0_0 : Int) (a0_1 : ByteArray) (a0_2 : Bool) (a0_3 : Int) (a0_4 : Int) (a0_5 : Int) : Option (Int × Int) := if a0_3 = 1 then (some (0, 1023)) else (if a0_3 = 2 then (some (1024, 4095)) else (if a0_3 = 3 then (some (0, 4095)) else (if a0_3 = 4 then (some (0, 511)) else (some (0, 0)))))
theorem periluneref04_Range.calls (a0_0 : Int) (a0_1 : ByteArray) (a0_2 : Bool) (a0_3 : Int) (a0_4 : Int) (a0_5 : Int) (r1 : Int) (r2 : Int) (w : World) (h : periluneref04_Range.f a0_0 a0_1 a0_2 a0_3 a0_4 a0_5 = some (r1, r2)) :
 Calls Tryz.prog 164 #[.agg #[.int .u8 a0_0, .string a0_1, .bool a0_2, .int .u8 a0_3, .int .i64 a0_4, .int .i64 a0_5]] w fun e w' => e = .returned (.tuple #[.int .i64 r1, .int .i64 r2]) ∧ Below w.heap.size w w' := by
 have hu41 := Tryz.underlying41
 have HB := Aside0.mk (Below.refl w.heap.size w)
 have H : (if a0_3 = 1 then (some (0, 1023)) else (if a0_3 = 2 then (some (1024, 4095)) else (if a0_3 = 3 then (some (0, 4095)) else (if a0_3 = 4 then (some (0, 511)) else (some (0, 0)))))) = some (r1, r2) := h
 clear h
 by_cases c2 : a0_3 = 1
 · rw [if_pos c2] at H
   have c2b0 : (a0_3 == 1) = true := beq_iff_eq.mpr c2
   have c2b1 : (a0_3 != 1) = false := bne_eq_false_iff_eq.mpr c2
   clear c2
   simp only [Option.some.injEq, Prod.mk.injEq] at H
   obtain ⟨rfl, rfl⟩ := H
   go_enter Tryz.func164, Tryz.ntmps164
   go_wp2_with (first | ((with_reducible refine gate_dst (N := 1) rfl ?_); refine box_event ?hg (N := 1) ?hd (cs := #[.int .u8 a0_0, .string a0_1, .bool a0_2, .int .u8 a0_3, .int .i64 a0_4, .int .i64 a0_5]) (t := 41) ?hr ?_; (case hd => rfl); (case hg => rfl); (case hr => first | (go_simp; done) | (go_simp; rfl)); intro gb235 hg w3 hbox hb; have n0_ := Aside0.mk (below_step (by repeat (first | (with_reducible first | exact HB.out | apply below_alloc | apply pw_below_drewN | apply below_drew1) | exact HB.out)) hb); have n1_ := Aside0.mk (hbox); have n2_ := Aside0.mk ((by rw [hg]; exact (below_size (by repeat (first | (with_reducible first | exact HB.out | apply below_alloc | apply pw_below_drewN | apply below_drew1) | exact HB.out))) : w.heap.size ≤ gb235)); have n3_ := Aside0.mk ((by rw [hg]; exact (below_size (by repeat (first | (with_reducible first | exact HB.out | apply below_alloc | apply pw_below_drewN | apply below_drew1) | exact HB.out))) : w.heap.size ≤ gb235)); clear HB; have HB := n0_; have BK235 := n1_; have GW235 := n2_; have GE235 := n3_; clear n0_ n1_ n2_ n3_; clear hb hbox hg; have hcz4_0 : w3.cell? ⟨gb235, 0, none⟩ = some (.int .u8 a0_0) := (blk_cell BK235.out 0).trans rfl; have hcz4_1 : w3.cell? ⟨gb235, 1, none⟩ = some (.string a0_1) := (blk_cell BK235.out 1).trans rfl; have hcz4_2 : w3.cell? ⟨gb235, 2, none⟩ = some (.bool a0_2) := (blk_cell BK235.out 2).trans rfl; have hcz4_3 : w3.cell? ⟨gb235, 3, none⟩ = some (.int .u8 a0_3) := (blk_cell BK235.out 3).trans rfl; have hcz4_4 : w3.cell? ⟨gb235, 4, none⟩ = some (.int .i64 a0_4) := (blk_cell BK235.out 4).trans rfl; have hcz4_5 : w3.cell? ⟨gb235, 5, none⟩ = some (.int .i64 a0_5) := (blk_cell BK235.out 5).trans rfl; have hfz4_0 := blk_frozen BK235.out 0; have hfz4_1 := blk_frozen BK235.out 1; have hfz4_2 := blk_frozen BK235.out 2; have hfz4_3 := blk_frozen BK235.out 3; have hfz4_4 := blk_frozen BK235.out 4; have hfz4_5 := blk_frozen BK235.out 5))
   go_ret2
   exact ⟨by first | rfl | (simp [errW_none, errW_some] <;> rfl) | (simp [*, errW_none, errW_some] <;> rfl), by repeat (first | (with_reducible first | exact HB.out | apply below_alloc | apply pw_below_drewN | apply below_drew1 | refine below_set ?_ GE235.out) | exact HB.out)⟩
 · rw [if_neg c2] at H
   have c2b0 : (a0_3 == 1) = false := beq_eq_false_iff_ne.mpr c2
   have c2b1 : (a0_3 != 1) = true := bne_iff_ne.mpr c2
   by_cases c5 : a0_3 = 2
   · rw [if_pos c5] at H
     have c5b0 : (a0_3 == 2) = true := beq_iff_eq.mpr c5
     have c5b1 : (a0_3 != 2) = false := bne_eq_false_iff_eq.mpr c5
     clear c5
     simp only [Option.some.injEq, Prod.mk.injEq] at H
     obtain ⟨rfl, rfl⟩ := H
     go_enter Tryz.func164, Tryz.ntmps164
     go_wp2_with (first | ((with_reducible refine gate_dst (N := 1) rfl ?_); refine box_event ?hg (N := 1) ?hd (cs := #[.int .u8 a0_0, .string a0_1, .bool a0_2, .int .u8 a0_3, .int .i64 a0_4, .int .i64 a0_5]) (t := 41) ?hr ?_; (case hd => rfl); (case hg => rfl); (case hr => first | (go_simp; done) | (go_simp; rfl)); intro gb235 hg w6 hbox hb; have n0_ := Aside0.mk (below_step (by repeat (first | (with_reducible first | exact HB.out | apply below_alloc | apply pw_below_drewN | apply below_drew1) | exact HB.out)) hb); have n1_ := Aside0.mk (hbox); have n2_ := Aside0.mk ((by rw [hg]; exact (below_size (by repeat (first | (with_reducible first | exact HB.out | apply below_alloc | apply pw_below_drewN | apply below_drew1) | exact HB.out))) : w.heap.size ≤ gb235)); have n3_ := Aside0.mk ((by rw [hg]; exact (below_size (by repeat (first | (with_reducible first | exact HB.out | apply below_alloc | apply pw_below_drewN | apply below_drew1) | exact HB.out))) : w.heap.size ≤ gb235)); clear HB; have HB := n0_; have BK235 := n1_; have GW235 := n2_; have GE235 := n3_; clear n0_ n1_ n2_ n3_; clear hb hbox hg; have hcz7_0 : w6.cell? ⟨gb235, 0, none⟩ = some (.int .u8 a0_0) := (blk_cell BK235.out 0).trans rfl; have hcz7_1 : w6.cell? ⟨gb235, 1, none⟩ = some (.string a0_1) := (blk_cell BK235.out 1).trans rfl; have hcz7_2 : w6.cell? ⟨gb235, 2, none⟩ = some (.bool a0_2) := (blk_cell BK235.out 2).trans rfl; have hcz7_3 : w6.cell? ⟨gb235, 3, none⟩ = some (.int .u8 a0_3) := (blk_cell BK235.out 3).trans rfl; have hcz7_4 : w6.cell? ⟨gb235, 4, none⟩ = some (.int .i64 a0_4) := (blk_cell BK235.out 4).trans rfl; have hcz7_5 : w6.cell? ⟨gb235, 5, none⟩ = some (.int .i64 a0_5) := (blk_cell BK235.out 5).trans rfl; have hfz7_0 := blk_frozen BK235.out 0; have hfz7_1 := blk_frozen BK235.out 1; have hfz7_2 := blk_frozen BK235.out 2; have hfz7_3 := blk_frozen BK235.out 3; have hfz7_4 := blk_frozen BK235.out 4; have hfz7_5 := blk_frozen BK235.out 5))
     go_ret2
     exact ⟨by first | rfl | (simp [errW_none, errW_some] <;> rfl) | (simp [*, errW_none, errW_some] <;> rfl), by repeat (first | (with_reducible first | exact HB.out | apply below_alloc | apply pw_below_drewN | apply below_drew1 | refine below_set ?_ GE235.out) | exact HB.out)⟩
   · rw [if_neg c5] at H
     have c5b0 : (a0_3 == 2) = false := beq_eq_false_iff_ne.mpr c5
     have c5b1 : (a0_3 != 2) = true := bne_iff_ne.mpr c5
     by_cases c8 : a0_3 = 3
     · rw [if_pos c8] at H
       have c8b0 : (a0_3 == 3) = true := beq_iff_eq.mpr c8
       have c8b1 : (a0_3 != 3) = false := bne_eq_false_iff_eq.mpr c8
       clear c8
       simp only [Option.some.injEq, Prod.mk.injEq] at H
       obtain ⟨rfl, rfl⟩ := H
       go_enter Tryz.func164, Tryz.ntmps164
       go_wp2_with (first | ((with_reducible refine gate_dst (N := 1) rfl ?_); refine box_event ?hg (N := 1) ?hd (cs := #[.int .u8 a0_0, .string a0_1, .bool a0_2, .int .u8 a0_3, .int .i64 a0_4, .int .i64 a0_5]) (t := 41) ?hr ?_; (case hd => rfl); (case hg => rfl); (case hr => first | (go_simp; done) | (go_simp; rfl)); intro gb235 hg w9 hbox hb; have n0_ := Aside0.mk (below_step (by repeat (first | (with_reducible first | exact HB.out | apply below_alloc | apply pw_below_drewN | apply below_drew1) | exact HB.out)) hb); have n1_ := Aside0.mk (hbox); have n2_ := Aside0.mk ((by rw [hg]; exact (below_size (by repeat (first | (with_reducible first | exact HB.out | apply below_alloc | apply pw_below_drewN | apply below_drew1) | exact HB.out))) : w.heap.size ≤ gb235)); have n3_ := Aside0.mk ((by rw [hg]; exact (below_size (by repeat (first | (with_reducible first | exact HB.out | apply below_alloc | apply pw_below_drewN | apply below_drew1) | exact HB.out))) : w.heap.size ≤ gb235)); clear HB; have HB := n0_; have BK235 := n1_; have GW235 := n2_; have GE235 := n3_; clear n0_ n1_ n2_ n3_; clear hb hbox hg; have hcz10_0 : w9.cell? ⟨gb235, 0, none⟩ = some (.int .u8 a0_0) := (blk_cell BK235.out 0).trans rfl; have hcz10_1 : w9.cell? ⟨gb235, 1, none⟩ = some (.string a0_1) := (blk_cell BK235.out 1).trans rfl; have hcz10_2 : w9.cell? ⟨gb235, 2, none⟩ = some (.bool a0_2) := (blk_cell BK235.out 2).trans rfl; have hcz10_3 : w9.cell? ⟨gb235, 3, none⟩ = some (.int .u8 a0_3) := (blk_cell BK235.out 3).trans rfl; have hcz10_4 : w9.cell? ⟨gb235, 4, none⟩ = some (.int .i64 a0_4) := (blk_cell BK235.out 4).trans rfl; have hcz10_5 : w9.cell? ⟨gb235, 5, none⟩ = some (.int .i64 a0_5) := (blk_cell BK235.out 5).trans rfl; have hfz10_0 := blk_frozen BK235.out 0; have hfz10_1 := blk_frozen BK235.out 1; have hfz10_2 := blk_frozen BK235.out 2; have hfz10_3 := blk_frozen BK235.out 3; have hfz10_4 := blk_frozen BK235.out 4; have hfz10_5 := blk_frozen BK235.out 5))
       go_ret2
       exact ⟨by first | rfl | (simp [errW_none, errW_some] <;> rfl) | (simp [*, errW_none, errW_some] <;> rfl), by repeat (first | (with_reducible first | exact HB.out | apply below_alloc | apply pw_below_drewN | apply below_drew1 | refine below_set ?_ GE235.out) | exact HB.out)⟩
     · rw [if_neg c8] at H
       have c8b0 : (a0_3 == 3) = false := beq_eq_false_iff_ne.mpr c8
       have c8b1 : (a0_3 != 3) = true := bne_iff_ne.mpr c8
       by_cases c11 : a0_3 = 4
       · rw [if_pos c11] at H
         have c11b0 : (a0_3 == 4) = true := beq_iff_eq.mpr c11
         have c11b1 : (a0_3 != 4) = false := bne_eq_false_iff_eq.mpr c11
         clear c11
         simp only [Option.some.injEq, Prod.mk.injEq] at H
         obtain ⟨rfl, rfl⟩ := H
         go_enter Tryz.func164, Tryz.ntmps164
         go_wp2_with (first | ((with_reducible refine gate_dst (N := 1) rfl ?_); refine box_event ?hg (N := 1) ?hd (cs := #[.int .u8 a0_0, .string a0_1, .bool a0_2, .int .u8 a0_3, .int .i64 a0_4, .int .i64 a0_5]) (t := 41) ?hr ?_; (case hd => rfl); (case hg => rfl); (case hr => first | (go_simp; done) | (go_simp; rfl)); intro gb235 hg w12 hbox hb; have n0_ := Aside0.mk (below_step (by repeat (first | (with_reducible first | exact HB.out | apply below_alloc | apply pw_below_drewN | apply below_drew1) | exact HB.out)) hb); have n1_ := Aside0.mk (hbox); have n2_ := Aside0.mk ((by rw [hg]; exact (below_size (by repeat (first | (with_reducible first | exact HB.out | apply below_alloc | apply pw_below_drewN | apply below_drew1) | exact HB.out))) : w.heap.size ≤ gb235)); have n3_ := Aside0.mk ((by rw [hg]; exact (below_size (by repeat (first | (with_reducible first | exact HB.out | apply below_alloc | apply pw_below_drewN | apply below_drew1) | exact HB.out))) : w.heap.size ≤ gb235)); clear HB; have HB := n0_; have BK235 := n1_; have GW235 := n2_; have GE235 := n3_; clear n0_ n1_ n2_ n3_; clear hb hbox hg; have hcz13_0 : w12.cell? ⟨gb235, 0, none⟩ = some (.int .u8 a0_0) := (blk_cell BK235.out 0).trans rfl; have hcz13_1 : w12.cell? ⟨gb235, 1, none⟩ = some (.string a0_1) := (blk_cell BK235.out 1).trans rfl; have hcz13_2 : w12.cell? ⟨gb235, 2, none⟩ = some (.bool a0_2) := (blk_cell BK235.out 2).trans rfl; have hcz13_3 : w12.cell? ⟨gb235, 3, none⟩ = some (.int .u8 a0_3) := (blk_cell BK235.out 3).trans rfl; have hcz13_4 : w12.cell? ⟨gb235, 4, none⟩ = some (.int .i64 a0_4) := (blk_cell BK235.out 4).trans rfl; have hcz13_5 : w12.cell? ⟨gb235, 5, none⟩ = some (.int .i64 a0_5) := (blk_cell BK235.out 5).trans rfl; have hfz13_0 := blk_frozen BK235.out 0; have hfz13_1 := blk_frozen BK235.out 1; have hfz13_2 := blk_frozen BK235.out 2; have hfz13_3 := blk_frozen BK235.out 3; have hfz13_4 := blk_frozen BK235.out 4; have hfz13_5 := blk_frozen BK235.out 5))
         go_ret2
         exact ⟨by first | rfl | (simp [errW_none, errW_some] <;> rfl) | (simp [*, errW_none, errW_some] <;> rfl), by repeat (first | (with_reducible first | exact HB.out | apply below_alloc | apply pw_below_drewN | apply below_drew1 | refine below_set ?_ GE235.out) | exact HB.out)⟩
       · rw [if_neg c11] at H
         have c11b0 : (a0_3 == 4) = false := beq_eq_false_iff_ne.mpr c11
         have c11b1 : (a0_3 != 4) = true := bne_iff_ne.mpr c11
         simp only [Option.some.injEq, Prod.mk.injEq] at H
         obtain ⟨rfl, rfl⟩ := H
         go_enter Tryz.func164, Tryz.ntmps164
         go_wp2_with (first | ((with_reducible refine gate_dst (N := 1) rfl ?_); refine box_event ?hg (N := 1) ?hd (cs := #[.int .u8 a0_0, .string a0_1, .bool a0_2, .int .u8 a0_3, .int .i64 a0_4, .int .i64 a0_5]) (t := 41) ?hr ?_; (case hd => rfl); (case hg => rfl); (case hr => first | (go_simp; done) | (go_simp; rfl)); intro gb235 hg w14 hbox hb; have n0_ := Aside0.mk (below_step (by repeat (first | (with_reducible first | exact HB.out | apply below_alloc | apply pw_below_drewN | apply below_drew1) | exact HB.out)) hb); have n1_ := Aside0.mk (hbox); have n2_ := Aside0.mk ((by rw [hg]; exact (below_size (by repeat (first | (with_reducible first | exact HB.out | apply below_alloc | apply pw_below_drewN | apply below_drew1) | exact HB.out))) : w.heap.size ≤ gb235)); have n3_ := Aside0.mk ((by rw [hg]; exact (below_size (by repeat (first | (with_reducible first | exact HB.out | apply below_alloc | apply pw_below_drewN | apply below_drew1) | exact HB.out))) : w.heap.size ≤ gb235)); clear HB; have HB := n0_; have BK235 := n1_; have GW235 := n2_; have GE235 := n3_; clear n0_ n1_ n2_ n3_; clear hb hbox hg; have hcz15_0 : w14.cell? ⟨gb235, 0, none⟩ = some (.int .u8 a0_0) := (blk_cell BK235.out 0).trans rfl; have hcz15_1 : w14.cell? ⟨gb235, 1, none⟩ = some (.string a0_1) := (blk_cell BK235.out 1).trans rfl; have hcz15_2 : w14.cell? ⟨gb235, 2, none⟩ = some (.bool a0_2) := (blk_cell BK235.out 2).trans rfl; have hcz15_3 : w14.cell? ⟨gb235, 3, none⟩ = some (.int .u8 a0_3) := (blk_cell BK235.out 3).trans rfl; have hcz15_4 : w14.cell? ⟨gb235, 4, none⟩ = some (.int .i64 a0_4) := (blk_cell BK235.out 4).trans rfl; have hcz15_5 : w14.cell? ⟨gb235, 5, none⟩ = some (.int .i64 a0_5) := (blk_cell BK235.out 5).trans rfl; have hfz15_0 := blk_frozen BK235.out 0; have hfz15_1 := blk_frozen BK235.out 1; have hfz15_2 := blk_frozen BK235.out 2; have hfz15_3 := blk_frozen BK235.out 3; have hfz15_4 := blk_frozen BK235.out 4; have hfz15_5 := blk_frozen BK235.out 5))
         go_ret2
         exact ⟨by first | rfl | (simp [errW_none, errW_some] <;> rfl) | (simp [*, errW_none, errW_some] <;> rfl), by repeat (first | (with_reducible first | exact HB.out | apply below_alloc | apply pw_below_drewN | apply below_drew1 | refine below_set ?_ GE235.out) | exact HB.out)⟩
def periluneref04_reserved.f (a0 : ByteArray) (a1 : Int) : Option (Bool) := if a0.toList = ([84, 67] : List UInt8) then (if a1 = 3 then (some true) else (if a1 = 4 then (some true) else (if a1 = 6 then (some true) else (if a0.toList = ([73, 78, 68, 69, 88] : List UInt8) then (some (a1 == 15)) else (some false))))) else (if a0.toList = ([73, 78, 68, 69, 88] : List UInt8) then (some (a1 == 15)) else (some false))
theorem periluneref04_reserved.calls (a0 : ByteArray) (a1 : Int) (r : Bool) (w : World) (h : periluneref04_reserved.f a0 a1 = some r) :
 Calls Tryz.prog 165 #[.string a0, .int .i64 a1] w fun e w' => e = .returned (.bool r) ∧ Drawn0 w w' := by
 have H : (if a0.toList = ([84, 67] : List UInt8) then (if a1 = 3 then (some true) else (if a1 = 4 then (some true) else (if a1 = 6 then (some true) else (if a0.toList = ([73, 78, 68, 69, 88] : List UInt8) then (some (a1 == 15)) else (some false))))) else (if a0.toList = ([73, 78, 68, 69, 88] : List UInt8) then (some (a1 == 15)) else (some false))) = some r := h
 clear h
 by_cases c3 : a0.toList = ([84, 67] : List UInt8)
 · rw [if_pos c3] at H
   have c3b0 : (a0.toList == ([84, 67] : List UInt8)) = true := beq_iff_eq.mpr c3
   have c3b1 : (a0.toList != ([84, 67] : List UInt8)) = false := bne_eq_false_iff_eq.mpr c3
   clear c3
   by_cases c4 : a1 = 3
   · rw [if_pos c4] at H
     have c4b0 : (a1 == 3) = true := beq_iff_eq.mpr c4
     have c4b1 : (a1 != 3) = false := bne_eq_false_iff_eq.mpr c4
     clear c4
     obtain rfl := Option.some.inj H
     go_enter Tryz.func165, Tryz.ntmps165
     go_wp2
     go_ret
     exact ⟨by first | rfl | (simp; done) | (simp [*]; done), by repeat (first | exact Drawn0.refl _ | apply Drawn0.step)⟩
   · rw [if_neg c4] at H
     have c4b0 : (a1 == 3) = false := beq_eq_false_iff_ne.mpr c4
     have c4b1 : (a1 != 3) = true := bne_iff_ne.mpr c4
     by_cases c5 : a1 = 4
     · rw [if_pos c5] at H
       have c5b0 : (a1 == 4) = true := beq_iff_eq.mpr c5
       have c5b1 : (a1 != 4) = false := bne_eq_false_iff_eq.mpr c5
       clear c5
       obtain rfl := Option.some.inj H
       go_enter Tryz.func165, Tryz.ntmps165
       go_wp2
       go_ret
       exact ⟨by first | rfl | (simp; done) | (simp [*]; done), by repeat (first | exact Drawn0.refl _ | apply Drawn0.step)⟩
     · rw [if_neg c5] at H
       have c5b0 : (a1 == 4) = false := beq_eq_false_iff_ne.mpr c5
       have c5b1 : (a1 != 4) = true := bne_iff_ne.mpr c5
       by_cases c6 : a1 = 6
       · rw [if_pos c6] at H
         have c6b0 : (a1 == 6) = true := beq_iff_eq.mpr c6
         have c6b1 : (a1 != 6) = false := bne_eq_false_iff_eq.mpr c6
         clear c6
         obtain rfl := Option.some.inj H
         go_enter Tryz.func165, Tryz.ntmps165
         go_wp2
         go_ret
         exact ⟨by first | rfl | (simp; done) | (simp [*]; done), by repeat (first | exact Drawn0.refl _ | apply Drawn0.step)⟩
       · rw [if_neg c6] at H
         have c6b0 : (a1 == 6) = false := beq_eq_false_iff_ne.mpr c6
         have c6b1 : (a1 != 6) = true := bne_iff_ne.mpr c6
         by_cases c7 : a0.toList = ([73, 78, 68, 69, 88] : List UInt8)
         · rw [if_pos c7] at H
           have c7b0 : (a0.toList == ([73, 78, 68, 69, 88] : List UInt8)) = true := beq_iff_eq.mpr c7
           have c7b1 : (a0.toList != ([73, 78, 68, 69, 88] : List UInt8)) = false := bne_eq_false_iff_eq.mpr c7
           clear c7
           obtain rfl := Option.some.inj H
           go_enter Tryz.func165, Tryz.ntmps165
           go_wp2
           go_ret
           exact ⟨by first | rfl | (simp; done) | (simp [*]; done), by repeat (first | exact Drawn0.refl _ | apply Drawn0.step)⟩
         · rw [if_neg c7] at H
           have c7b0 : (a0.toList == ([73, 78, 68, 69, 88] : List UInt8)) = false := beq_eq_false_iff_ne.mpr c7
           have c7b1 : (a0.toList != ([73, 78, 68, 69, 88] : List UInt8)) = true := bne_iff_ne.mpr c7
           obtain rfl := Option.some.inj H
           go_enter Tryz.func165, Tryz.ntmps165
           go_wp2
           go_ret
           exact ⟨by first | rfl | (simp; done) | (simp [*]; done), by repeat (first | exact Drawn0.refl _ | apply Drawn0.step)⟩
 · rw [if_neg c3] at H
   have c3b0 : (a0.toList == ([84, 67] : List UInt8)) = false := beq_eq_false_iff_ne.mpr c3
   have c3b1 : (a0.toList != ([84, 67] : List UInt8)) = true := bne_iff_ne.mpr c3
   by_cases c8 : a0.toList = ([73, 78, 68, 69, 88] : List UInt8)
   · rw [if_pos c8] at H
     have c8b0 : (a0.toList == ([73, 78, 68, 69, 88] : List UInt8)) = true := beq_iff_eq.mpr c8
     have c8b1 : (a0.toList != ([73, 78, 68, 69, 88] : List UInt8)) = false := bne_eq_false_iff_eq.mpr c8
     clear c8
     obtain rfl := Option.some.inj H
     go_enter Tryz.func165, Tryz.ntmps165
     go_wp2
     go_ret
     exact ⟨by first | rfl | (simp; done) | (simp [*]; done), by repeat (first | exact Drawn0.refl _ | apply Drawn0.step)⟩
   · rw [if_neg c8] at H
     have c8b0 : (a0.toList == ([73, 78, 68, 69, 88] : List UInt8)) = false := beq_eq_false_iff_ne.mpr c8
     have c8b1 : (a0.toList != ([73, 78, 68, 69, 88] : List UInt8)) = true := bne_iff_ne.mpr c8
     obtain rfl := Option.some.inj H
     go_enter Tryz.func165, Tryz.ntmps165
     go_wp2
     go_ret
     exact ⟨by first | rfl | (simp; done) | (simp [*]; done), by repeat (first | exact Drawn0.refl _ | apply Drawn0.step)⟩
end Go.Proofs.YthfobpkdloejfaaGreat.PAll
end
