/- Chapter 5: a part of its proof (cut by program out of F28, F29, F30, F31); no condition. -/
import Derived.Test.YthfobpkdloejfaaGreatIr11
import Derived.Test.YthfobpkdloejfaaGreatIr12
set_option linter.unusedVariables false
set_option linter.unusedSimpArgs false
set_option linter.unusedSectionVars false
set_option maxRecDepth 100000
set_option maxHeartbeats 8000000
section
namespace Go.Proofs.YthfobpkdloejfaaGreat.PAll
open Go.RowKit Go.Proofs.YthfobpkdloejfaaGreatW.PrintWords Go.Proofs.YthfobpkdloejfaaGreatW.PrintLast Go.Proofs.YthfobpkdloejfaaGreatW.PrintMore
attribute [local go_sem high] eqA61
attribute [local go_sem high] eqA64
def interrupt_Allowed.f (k : Nat) (a0_0 : Int) (a0_1 : Int) (a0_2 : Int) (a0_3 : Int) (a0_4 : Int) (a0_5 : Int) (a0_6 : Int) (a0_7 : Bool) (a0_8 : Int) (a0_9 : Bool) (a0_10 : Int) (a0_11 : Bool) (a0_12 : Bool) : Option (Bool) := (onescomp_Overflow.f a0_0).bind fun t420 => ((interrupt_none.f k (([a0_11, a0_12, a0_7, a0_9, (a0_8 != 0), (t420 != 0)] : List Bool))).bind fun t424 => (some t424))
def interrupt_Allowed.T1 : Bool × List (List Nat × List Nat) := (true, [([], []), ([0], [0]), ([], []), ([2], [2]), ([], []), ([4], [4]), ([], []), ([6], [6]), ([], []), ([8], [8]), ([9], [9]), ([], []), ([11], [11]), ([12], [12]), ([13], [13]), ([1, 3, 5, 7, 10, 14], [1, 3, 5, 7, 10, 14]), ([15, 13], [15]), ([16, 16, 0, 1, 2, 3, 4, 5, 6, 7, 8, 9, 10, 11, 12, 13, 14, 15, 16], [16])])
def interrupt_Allowed.B1 : List Nat := [0, 1, 0, 4, 0, 16, 0, 64, 0, 256, 768, 0, 2048, 6144, 14336, 32767, 65535, 131071]
theorem interrupt_Allowed.tab1 : rtab .any (opsOf Tryz.f152 1) = interrupt_Allowed.T1 := by kernel_rfl
theorem interrupt_Allowed.bits1 : waitsOk interrupt_Allowed.T1.2 interrupt_Allowed.B1 = true := by kernel_rfl
theorem interrupt_Allowed.calls (k : Nat) (a0_0 : Int) (a0_1 : Int) (a0_2 : Int) (a0_3 : Int) (a0_4 : Int) (a0_5 : Int) (a0_6 : Int) (a0_7 : Bool) (a0_8 : Int) (a0_9 : Bool) (a0_10 : Int) (a0_11 : Bool) (a0_12 : Bool) (r : Bool) (w : World) (h : interrupt_Allowed.f k a0_0 a0_1 a0_2 a0_3 a0_4 a0_5 a0_6 a0_7 a0_8 a0_9 a0_10 a0_11 a0_12 = some r) :
 Calls Tryz.prog 152 #[.agg #[.int .u16 a0_0, .int .u16 a0_1, .int .u16 a0_2, .int .i64 a0_3, .int .i64 a0_4, .int .i64 a0_5, .int .i64 a0_6, .bool a0_7, .int .u16 a0_8, .bool a0_9, .int .u16 a0_10, .bool a0_11, .bool a0_12]] w fun e w' => e = .returned (.bool r) ∧ Below w.heap.size w w' := by
 have hu26 := Tryz.underlying26
 have HB := Aside0.mk (Below.refl w.heap.size w)
 have H : ((onescomp_Overflow.f a0_0).bind fun t420 => ((interrupt_none.f k (([a0_11, a0_12, a0_7, a0_9, (a0_8 != 0), (t420 != 0)] : List Bool))).bind fun t424 => (some t424))) = some r := h
 clear h
 replace H := Option.bind_eq_some_iff.mp H
 obtain ⟨t420, A20, H⟩ := H
 replace H : ((interrupt_none.f k (([a0_11, a0_12, a0_7, a0_9, (a0_8 != 0), (t420 != 0)] : List Bool))).bind fun t424 => (some t424)) = some r := H
 have A2 := Aside0.mk A20
 clear A20
 obtain ⟨y421, hy421⟩ : ∃ y_ : List Bool, y_ = (([a0_11, a0_12, a0_7, a0_9, (a0_8 != 0), (t420 != 0)] : List Bool)) := ⟨_, rfl⟩
 replace H : ((interrupt_none.f k y421).bind fun t424 => (some t424)) = some r := by first | (rw [hy421]; with_reducible exact H) | (have H2_ := (Option.bind_some _ _).symm.trans H; rw [hy421]; with_reducible exact H2_) | (have H2_ := (Option.bind_some _ _).symm.trans H; with_reducible exact H2_) | with_reducible exact H | (rw [hy421]; exact H) | exact H
 have Ny421 := Aside0.mk hy421
 clear hy421
 replace H := Option.bind_eq_some_iff.mp H
 obtain ⟨t424, A30, H⟩ := H
 replace H : (some t424) = some r := H
 have A3 := Aside0.mk A30
 clear A30
 obtain rfl := Option.some.inj H
 go_enter Tryz.func152, Tryz.ntmps152
 try go_wp2_with (first | ((with_reducible refine gate_dst (N := 1) rfl ?_); refine box_event ?hg (N := 1) ?hd (cs := #[.int .u16 a0_0, .int .u16 a0_1, .int .u16 a0_2, .int .i64 a0_3, .int .i64 a0_4, .int .i64 a0_5, .int .i64 a0_6, .bool a0_7, .int .u16 a0_8, .bool a0_9, .int .u16 a0_10, .bool a0_11, .bool a0_12]) (t := 26) ?hr ?_; (case hd => rfl); (case hg => rfl); (case hr => first | (go_simp; done) | (go_simp; rfl)); intro gb419 hg w4 hbox hb; have n0_ := Aside0.mk (below_step (by repeat (first | (with_reducible first | exact HB.out | apply below_alloc | apply pw_below_drewN | apply below_drew1) | exact HB.out)) hb); have n1_ := Aside0.mk (hbox); have n2_ := Aside0.mk ((by rw [hg]; exact (below_size (by repeat (first | (with_reducible first | exact HB.out | apply below_alloc | apply pw_below_drewN | apply below_drew1) | exact HB.out))) : w.heap.size ≤ gb419)); have n3_ := Aside0.mk ((by rw [hg]; exact (below_size (by repeat (first | (with_reducible first | exact HB.out | apply below_alloc | apply pw_below_drewN | apply below_drew1) | exact HB.out))) : w.heap.size ≤ gb419)); clear HB; have HB := n0_; have BK419 := n1_; have GW419 := n2_; have GE419 := n3_; clear n0_ n1_ n2_ n3_; clear hb hbox hg))
 have n0_ := Aside0.mk (blk_drew BK419.out)
 have n1_ := Aside0.mk (below_drew1 HB.out)
 clear BK419
 clear HB
 have BK419 := n0_
 have HB := n1_
 clear n0_ n1_
 refine start_ (n := 18) (S := fun w' => w'.cell? ⟨gb419, 0, none⟩ = some (.int .u16 a0_0) ∧ w'.cell? ⟨gb419, 1, none⟩ = some (.int .u16 a0_1) ∧ w'.cell? ⟨gb419, 2, none⟩ = some (.int .u16 a0_2) ∧ w'.cell? ⟨gb419, 3, none⟩ = some (.int .i64 a0_3) ∧ w'.cell? ⟨gb419, 4, none⟩ = some (.int .i64 a0_4) ∧ w'.cell? ⟨gb419, 5, none⟩ = some (.int .i64 a0_5) ∧ w'.cell? ⟨gb419, 6, none⟩ = some (.int .i64 a0_6) ∧ w'.cell? ⟨gb419, 7, none⟩ = some (.bool a0_7) ∧ w'.cell? ⟨gb419, 8, none⟩ = some (.int .u16 a0_8) ∧ w'.cell? ⟨gb419, 9, none⟩ = some (.bool a0_9) ∧ w'.cell? ⟨gb419, 10, none⟩ = some (.int .u16 a0_10) ∧ w'.cell? ⟨gb419, 11, none⟩ = some (.bool a0_11) ∧ w'.cell? ⟨gb419, 12, none⟩ = some (.bool a0_12)) (ds := []) #[false, false, false, false, false, false, false, false, false, false, false, false, false, false, false, false, false, false] (by kernel_rfl) rfl rfl ⟨(blk_cell BK419.out 0).trans rfl, (blk_cell BK419.out 1).trans rfl, (blk_cell BK419.out 2).trans rfl, (blk_cell BK419.out 3).trans rfl, (blk_cell BK419.out 4).trans rfl, (blk_cell BK419.out 5).trans rfl, (blk_cell BK419.out 6).trans rfl, (blk_cell BK419.out 7).trans rfl, (blk_cell BK419.out 8).trans rfl, (blk_cell BK419.out 9).trans rfl, (blk_cell BK419.out 10).trans rfl, (blk_cell BK419.out 11).trans rfl, (blk_cell BK419.out 12).trans rfl⟩ (fun hHeld => ?_); refine with_tabW interrupt_Allowed.tab1 interrupt_Allowed.bits1 (fun HT_ HW_ => ?_)
 generalize w4.drew = w5 at BK419 HB hHeld ⊢
 refine pvq_ 0 (some 3) rfl rfl ?_ (any_of HT_.out (by kernel_rfl))
 refine pvq_ 2 (some 5) rfl rfl ?_ (any_of HT_.out (by kernel_rfl))
 refine pvq_ 4 (some 7) rfl rfl ?_ (any_of HT_.out (by kernel_rfl))
 refine pvq_ 6 (some 9) rfl rfl ?_ (any_of HT_.out (by kernel_rfl))
 refine pvq_ 8 (some 11) rfl rfl ?_ (any_of HT_.out (by kernel_rfl))
 refine pvq_ 11 (some 14) rfl rfl ?_ (any_of HT_.out (by kernel_rfl))
 refine take_ (i := 1) (N := some 4) (v := ?_) (a' := ?_) #[true, true, true, false, true, false, true, false, true, false, false, true, false, false, false, false, false, false] rfl rfl (take_ofW HT_.out HW_.out (by kernel_rfl)) (fun _ _ _ h => h) (Or.inl ⟨by rfl, ?_⟩) hHeld ?_ ?_
 rotate_left
 · rintro w' ⟨s0, s1, s2, s3, s4, s5, s6, s7, s8, s9, s10, s11, s12⟩
   go_simp
   with_reducible rfl
 rotate_left
 · simp only [Act.put, List.setIfInBounds_toArray, List.set_cons_zero, List.set_cons_succ, i64_w, i32_w]
   rfl
 refine take_ (i := 3) (N := some 6) (v := ?_) (a' := ?_) #[true, true, true, true, true, false, true, false, true, false, false, true, false, false, false, false, false, false] rfl rfl (take_ofW HT_.out HW_.out (by kernel_rfl)) (fun _ _ _ h => h) (Or.inl ⟨by rfl, ?_⟩) hHeld ?_ ?_
 rotate_left
 · rintro w' ⟨s0, s1, s2, s3, s4, s5, s6, s7, s8, s9, s10, s11, s12⟩
   go_simp
   with_reducible rfl
 rotate_left
 · simp only [Act.put, List.setIfInBounds_toArray, List.set_cons_zero, List.set_cons_succ, i64_w, i32_w]
   rfl
 refine take_ (i := 5) (N := some 8) (v := ?_) (a' := ?_) #[true, true, true, true, true, true, true, false, true, false, false, true, false, false, false, false, false, false] rfl rfl (take_ofW HT_.out HW_.out (by kernel_rfl)) (fun _ _ _ h => h) (Or.inl ⟨by rfl, ?_⟩) hHeld ?_ ?_
 rotate_left
 · rintro w' ⟨s0, s1, s2, s3, s4, s5, s6, s7, s8, s9, s10, s11, s12⟩
   go_simp
   with_reducible rfl
 rotate_left
 · simp only [Act.put, List.setIfInBounds_toArray, List.set_cons_zero, List.set_cons_succ, i64_w, i32_w]
   rfl
 refine take_ (i := 7) (N := some 10) (v := ?_) (a' := ?_) #[true, true, true, true, true, true, true, true, true, false, false, true, false, false, false, false, false, false] rfl rfl (take_ofW HT_.out HW_.out (by kernel_rfl)) (fun _ _ _ h => h) (Or.inl ⟨by rfl, ?_⟩) hHeld ?_ ?_
 rotate_left
 · rintro w' ⟨s0, s1, s2, s3, s4, s5, s6, s7, s8, s9, s10, s11, s12⟩
   go_simp
   with_reducible rfl
 rotate_left
 · simp only [Act.put, List.setIfInBounds_toArray, List.set_cons_zero, List.set_cons_succ, i64_w, i32_w]
   rfl
 refine take_ (i := 9) (N := some 12) (v := ?_) (a' := ?_) #[true, true, true, true, true, true, true, true, true, true, false, true, false, false, false, false, false, false] rfl rfl (take_ofW HT_.out HW_.out (by kernel_rfl)) (fun _ _ _ h => h) (Or.inl ⟨by rfl, ?_⟩) hHeld ?_ ?_
 rotate_left
 · rintro w' ⟨s0, s1, s2, s3, s4, s5, s6, s7, s8, s9, s10, s11, s12⟩
   go_simp
   with_reducible rfl
 rotate_left
 · simp only [Act.put, List.setIfInBounds_toArray, List.set_cons_zero, List.set_cons_succ, i64_w, i32_w]
   rfl
 refine pvq_ 10 (some 13) rfl rfl ?_ (any_of HT_.out (by kernel_rfl))
 refine take_ (i := 12) (N := some 15) (v := ?_) (a' := ?_) #[true, true, true, true, true, true, true, true, true, true, true, true, true, false, false, false, false, false] rfl rfl (take_ofW HT_.out HW_.out (by kernel_rfl)) (fun _ _ _ h => h) (Or.inl ⟨by rfl, ?_⟩) hHeld ?_ ?_
 rotate_left
 · rintro w' ⟨s0, s1, s2, s3, s4, s5, s6, s7, s8, s9, s10, s11, s12⟩
   go_simp
   with_reducible rfl
 rotate_left
 · simp only [Act.put, List.setIfInBounds_toArray, List.set_cons_zero, List.set_cons_succ, i64_w, i32_w]
   rfl
 refine onq_ 13 (some 16) rfl rfl (fun K hK => ?_) (one_of HT_.out (by kernel_rfl))
 refine goes_ Tryz.func179 (by kernel_rfl) rfl #[.int .u16 a0_0] (by rfl) rfl rfl (by (try simp only [List.map_toArray, List.map_cons, List.map_nil]); first | done | rfl | (simp only [List.length_drop, List.length_take]; rfl)) ?_
 with_reducible refine (onescomp_Overflow.calls a0_0 t420 _ A2.out).mono ?_
 rintro e w' ⟨rfl, ⟨nd, rfl⟩⟩
 refine ⟨_, rfl, ?_⟩
 refine hK.out _ _ ⟨(blk_cell BK419.out 0).trans rfl, (blk_cell BK419.out 1).trans rfl, (blk_cell BK419.out 2).trans rfl, (blk_cell BK419.out 3).trans rfl, (blk_cell BK419.out 4).trans rfl, (blk_cell BK419.out 5).trans rfl, (blk_cell BK419.out 6).trans rfl, (blk_cell BK419.out 7).trans rfl, (blk_cell BK419.out 8).trans rfl, (blk_cell BK419.out 9).trans rfl, (blk_cell BK419.out 10).trans rfl, (blk_cell BK419.out 11).trans rfl, (blk_cell BK419.out 12).trans rfl⟩ (fun hHeld => ?_)
 clear hK K
 refine nmq_ (some 16) ?_
 refine pvq_ 14 (some 17) rfl rfl ?_ (any_of HT_.out (by kernel_rfl))
 refine onq_ 15 (some 18) rfl rfl (fun K hK => ?_) (one_of HT_.out (by kernel_rfl))
 refine Kd.R_lit_step Kd.bool _ 4 ?hg (N := 18) ?hd (xs := ([a0_11, a0_12, a0_7, a0_9, (a0_8 != 0), (t420 != 0)] : List Bool)) (inner := [.bool a0_11, .bool a0_12, .bool a0_7, .bool a0_9, .bool (a0_8 != 0), .bool (t420 != 0)]) (ok := fun _ => True) (okp := fun _ => True) ?hr ?hp (fun _ hk => hk) trivial (Below.refl _ _) (Nat.le_refl _) (by simp) ?_; (case hd => rfl); (case hg => rfl); (case hr => first | (go_simp; done) | (go_simp; rfl)); (case hp => exact (Reps.one (show Kd.M Kd.bool _ _ _ a0_11 [.bool a0_11] from rfl) (Reps.one (show Kd.M Kd.bool _ _ _ a0_12 [.bool a0_12] from rfl) (Reps.one (show Kd.M Kd.bool _ _ _ a0_7 [.bool a0_7] from rfl) (Reps.one (show Kd.M Kd.bool _ _ _ a0_9 [.bool a0_9] from rfl) (Reps.one (show Kd.M Kd.bool _ _ _ (a0_8 != 0) [.bool (a0_8 != 0)] from rfl) (Reps.one (show Kd.M Kd.bool _ _ _ (t420 != 0) [.bool (t420 != 0)] from rfl) (Reps.none _ _))))))))
 intro v422 w6 ho7 hb hg_ hnew_
 clear hg_ hnew_
 (first | rw [← Ny421.out] at ho7 | (simp only [Int.reduceToNat] at ho7; rw [← Ny421.out] at ho7))
 have n0_ := Aside0.mk (Kd.R_lower ho7 (below_size (by repeat (first | (with_reducible first | exact HB.out | apply below_alloc | apply pw_below_drewN | apply below_drew1 | refine below_set ?_ GE419.out) | exact HB.out))))
 have n1_ := Aside0.mk (blk_below (g := gb419) (o := .cells #[.int .u16 a0_0, .int .u16 a0_1, .int .u16 a0_2, .int .i64 a0_3, .int .i64 a0_4, .int .i64 a0_5, .int .i64 a0_6, .bool a0_7, .int .u16 a0_8, .bool a0_9, .int .u16 a0_10, .bool a0_11, .bool a0_12] 26 (0, 0)) (by (with_reducible repeat (first | refine blk_drewN ?_ _ | refine blk_drew ?_ | refine blk_alloc ?_ _)); exact BK419.out) hb)
 have n2_ := Aside0.mk (below_step (by repeat (first | (with_reducible first | exact HB.out | apply below_alloc | apply pw_below_drewN | apply below_drew1 | refine below_set ?_ GE419.out) | exact HB.out)) hb)
 clear BK419
 clear HB
 have HO423 := n0_
 have BK419 := n1_
 have HB := n2_
 clear n0_ n1_ n2_
 clear hb ho7
 obtain ⟨Ao8, co8, eo8⟩ := Kd.R_slice HO423.out
 (first | subst eo8 | (injection eo8 with f1_ f2_ f3_; have f4_ := f1_.symm; have f5_ := f3_.symm; clear f1_ f2_ f3_; subst f4_; subst f5_))
 refine hK.out _ _ ⟨(blk_cell BK419.out 0).trans rfl, (blk_cell BK419.out 1).trans rfl, (blk_cell BK419.out 2).trans rfl, (blk_cell BK419.out 3).trans rfl, (blk_cell BK419.out 4).trans rfl, (blk_cell BK419.out 5).trans rfl, (blk_cell BK419.out 6).trans rfl, (blk_cell BK419.out 7).trans rfl, (blk_cell BK419.out 8).trans rfl, (blk_cell BK419.out 9).trans rfl, (blk_cell BK419.out 10).trans rfl, (blk_cell BK419.out 11).trans rfl, (blk_cell BK419.out 12).trans rfl⟩ (fun hHeld => ?_)
 clear hK K
 refine nmq_ (some 18) ?_
 refine onq_ 16 (some 19) rfl rfl (fun K hK => ?_) (one_of HT_.out (by kernel_rfl))
 refine goes_ Tryz.func178 (by kernel_rfl) rfl #[.slice Ao8 y421.length co8] (by rfl) rfl rfl (by (try simp only [List.map_toArray, List.map_cons, List.map_nil]); first | done | rfl | (simp only [List.length_drop, List.length_take]; rfl)) ?_
 with_reducible refine (interrupt_none.calls k _ _ y421 t424 _ ?side1 ?side2 A3.out).mono ?_
 (case side1 => repeat (first | exact (Kd.R_reads' HO423.out).2.2 | (with_reducible refine Kd.C_alloc ?_ _) | (with_reducible refine Kd.C_drewN ?_ _) | (with_reducible refine Kd.C_drew ?_)))
 (case side2 => exact (Kd.R_reads' HO423.out).2.1)
 rintro e w' ⟨rfl, ⟨nd, rfl⟩⟩
 refine ⟨_, rfl, ?_⟩
 refine hK.out _ _ ⟨(blk_cell BK419.out 0).trans rfl, (blk_cell BK419.out 1).trans rfl, (blk_cell BK419.out 2).trans rfl, (blk_cell BK419.out 3).trans rfl, (blk_cell BK419.out 4).trans rfl, (blk_cell BK419.out 5).trans rfl, (blk_cell BK419.out 6).trans rfl, (blk_cell BK419.out 7).trans rfl, (blk_cell BK419.out 8).trans rfl, (blk_cell BK419.out 9).trans rfl, (blk_cell BK419.out 10).trans rfl, (blk_cell BK419.out 11).trans rfl, (blk_cell BK419.out 12).trans rfl⟩ (fun hHeld => ?_)
 clear hK K
 refine nmq_ (some 19) ?_
 refine pvq_ 17 (some 2) rfl rfl ?_ (any_of HT_.out (by kernel_rfl))
 refine done_ (done_of HT_.out (by kernel_rfl)) ?_
 try go_wp2
 go_ret
 exact ⟨by first | rfl | (simp [errW_none, errW_some] <;> rfl) | (simp [*, errW_none, errW_some] <;> rfl), by repeat (first | (with_reducible first | exact HB.out | apply below_alloc | apply pw_below_drewN | apply below_drew1 | refine below_set ?_ GE419.out) | exact HB.out)⟩
end Go.Proofs.YthfobpkdloejfaaGreat.PAll
end
section
namespace Go.Proofs.YthfobpkdloejfaaGreat.PAll
open Go.RowKit Go.Proofs.YthfobpkdloejfaaGreatW.PrintWords Go.Proofs.YthfobpkdloejfaaGreatW.PrintLast Go.Proofs.YthfobpkdloejfaaGreatW.PrintMore
attribute [local go_sem high] eqA61
attribute [local go_sem high] eqA64
mutual
def perilunelaw07_cells.l0 : Nat → List (S61) → List (S61) → Int → Option (Bool)
 | 0, _, _, _ => none
 | k + 1, x0, x1, x5 => if x5 < (x0.length : Int) then (perilunelaw07_cells.j1 k x0 x1 x5 (decide (x5 < (x1.length : Int)))) else (perilunelaw07_cells.j1 k x0 x1 x5 false)
def perilunelaw07_cells.j1 : Nat → List (S61) → List (S61) → Int → Bool → Option (Bool)
 | 0, _, _, _, _ => none
 | k + 1, x0, x1, x5, x15 => if x15 = true then (if 0 ≤ x5 then (if x5 < (x0.length : Int) then (if x5 < (x1.length : Int) then (if (!(((rd_T61 x0 x5).f0) == ((rd_T61 x1 x5).f0)) || (!(((rd_T61 x0 x5).f1) == ((rd_T61 x1 x5).f1)))) = true then (some false) else (perilunelaw07_cells.l0 k x0 x1 (wrap64 (x5 + 1)))) else (none)) else (none)) else (none)) else (some ((x0.length : Int) == (x1.length : Int)))
end
def perilunelaw07_cells.f (k : Nat) (l0 : List (S61)) (l1 : List (S61)) : Option (Bool) := perilunelaw07_cells.l0 k l0 l1 0
theorem perilunelaw07_cells.calls (k : Nat) (A0 : Option Addr) (c0 : Nat) (l0 : List (S61)) (A1 : Option Addr) (c1 : Nat) (l1 : List (S61)) (r : Bool) (w : World) (hr0 : Kd.C k61 w A0 l0.length l0) (hc0 : l0.length ≤ c0) (hr1 : Kd.C k61 w A1 l1.length l1) (hc1 : l1.length ≤ c1) (h : perilunelaw07_cells.f k l0 l1 = some r) :
 Calls Tryz.prog 40 #[.slice A0 l0.length c0, .slice A1 l1.length c1] w fun e w' => e = .returned (.bool r) ∧ Drawn0 w w' := by
 have hu61 := Tryz.underlying61
 have HR0 := Aside0.mk hr0
 have HC0 := Aside0.mk hc0
 clear hr0 hc0
 have HR1 := Aside0.mk hr1
 have HC1 := Aside0.mk hc1
 clear hr1 hc1
 have H : (perilunelaw07_cells.l0 k l0 l1 0) = some r := h
 clear h
 have H' := Aside0.mk H
 clear H
 go_enter Tryz.func40, Tryz.ntmps40
 go_wp2
 repeat (go_quiet (fail); try go_wp2)
 go_loopg [5] k (fun kq v5 w' => ∃ (x5_1 : Int), v5 = .int .i64 x5_1 ∧ Aside0 (perilunelaw07_cells.l0 kq l0 l1 x5_1 = some r) ∧ Aside0 (kq ≤ k) ∧ Drawn0 w w')
 case atStart => exact ⟨(0), (by first | rfl | (simp; done) | (simp [*]; done)), H', ⟨Nat.le_refl _⟩, by repeat (first | exact Drawn0.refl _ | apply Drawn0.step)⟩
 case round =>
  clear H'
  try clear c1
  try clear p2
  obtain ⟨x5_1, rfl, HA, HK1, ⟨m1, rfl⟩⟩ := hrel
  cases gk with
  | zero => exact absurd HA.out (by simp [perilunelaw07_cells.l0])
  | succ k1 =>
   have H := HA.out
   clear HA
   simp only [perilunelaw07_cells.l0] at H
   have HC3 := Aside0.mk H
   clear H
   go_upto_region 2 with (fail)
   repeat (go_quiet (fail); go_upto_region 2 with (fail))
   go_cut [15] (fun v15 wc => ∃ (kq : Nat) (x15_2 : Bool), v15 = .bool x15_2 ∧ Aside0 (perilunelaw07_cells.j1 kq l0 l1 x5_1 x15_2 = some r) ∧ Aside0 (kq ≤ k1) ∧ Drawn0 w wc)
   case first =>
    have H := HC3.out
    clear HC3
    by_cases c4 : x5_1 < (l0.length : Int)
    · rw [if_pos c4] at H
      have c4b0 : decide (x5_1 < (l0.length : Int)) = true := decide_eq_true c4
      clear c4
      (first | rw [c4b0] | (simp only [i64_w, i32_w]; rw [c4b0]) | skip)
      have H' := Aside0.mk H
      clear H
      go_wp2
      repeat (go_quiet (fail); try go_wp2)
      go_meet
      case rel => exact ⟨_, (decide (x5_1 < (l1.length : Int))), (by first | rfl | (simp; done) | (simp [*]; done)), H', ⟨by have := HK1.out; first | omega | exact Nat.le_refl _⟩, by repeat (first | exact Drawn0.refl _ | apply Drawn0.step)⟩
    · rw [if_neg c4] at H
      have c4b0 : decide (x5_1 < (l0.length : Int)) = false := decide_eq_false c4
      clear c4
      (first | rw [c4b0] | (simp only [i64_w, i32_w]; rw [c4b0]) | skip)
      have H' := Aside0.mk H
      clear H
      go_wp2
      repeat (go_quiet (fail); try go_wp2)
      go_meet
      case rel => exact ⟨_, (false), (by first | rfl | (simp; done) | (simp [*]; done)), H', ⟨by have := HK1.out; first | omega | exact Nat.le_refl _⟩, by repeat (first | exact Drawn0.refl _ | apply Drawn0.step)⟩
   case rest =>
    clear HC3
    try clear c1
    try clear p2
    try clear c4
    try clear c4b0
    try clear p2
    obtain ⟨kq, x15_2, rfl, HA, HJ2, ⟨mc2, rfl⟩⟩ := hcut
    cases kq with
    | zero => exact absurd HA.out (by simp [perilunelaw07_cells.j1])
    | succ kj2 =>
     have H := HA.out
     clear HA
     simp only [perilunelaw07_cells.j1] at H
     by_cases c5 : x15_2 = true
     · subst c5
       have H1 : (if 0 ≤ x5_1 then (if x5_1 < (l0.length : Int) then (if x5_1 < (l1.length : Int) then (if (!(((rd_T61 l0 x5_1).f0) == ((rd_T61 l1 x5_1).f0)) || (!(((rd_T61 l0 x5_1).f1) == ((rd_T61 l1 x5_1).f1)))) = true then (some false) else (perilunelaw07_cells.l0 kj2 l0 l1 (wrap64 (x5_1 + 1)))) else (none)) else (none)) else (none)) = some r := by rw [if_pos rfl] at H; exact H
       clear H
       have H := H1
       clear H1
       by_cases c6 : 0 ≤ x5_1
       · rw [if_pos c6] at H
         have c6b0 : decide (0 ≤ x5_1) = true := decide_eq_true c6
         clear c6
         by_cases c7 : x5_1 < (l0.length : Int)
         · rw [if_pos c7] at H
           have c7b0 : decide (x5_1 < (l0.length : Int)) = true := decide_eq_true c7
           clear c7
           by_cases c8 : x5_1 < (l1.length : Int)
           · rw [if_pos c8] at H
             have c8b0 : decide (x5_1 < (l1.length : Int)) = true := decide_eq_true c8
             clear c8
             by_cases c9 : (!(((rd_T61 l0 x5_1).f0) == ((rd_T61 l1 x5_1).f0)) || (!(((rd_T61 l0 x5_1).f1) == ((rd_T61 l1 x5_1).f1)))) = true
             · rw [if_pos c9] at H
               have c9b0 : (!(((rd_T61 l0 x5_1).f0) == ((rd_T61 l1 x5_1).f0)) || (!(((rd_T61 l0 x5_1).f1) == ((rd_T61 l1 x5_1).f1)))) = true := c9
               clear c9
               obtain rfl := Option.some.inj H
               have p433 : 0 ≤ (x5_1 : Int) := of_decide_eq_true (by first | (with_reducible assumption) | assumption)
               have q433 : x5_1 < (l0.length : Int) := of_decide_eq_true (by first | (with_reducible assumption) | assumption)
               obtain ⟨ad433, e433, hx433_0, hx433_1⟩ := at_T61 HR0.out x5_1 p433 q433
               cases e433
               replace p433 := eq_true p433
               replace q433 := eq_true q433
               have p434 : 0 ≤ (x5_1 : Int) := of_decide_eq_true (by first | (with_reducible assumption) | assumption)
               have q434 : x5_1 < (l1.length : Int) := of_decide_eq_true (by first | (with_reducible assumption) | assumption)
               obtain ⟨ad434, e434, hx434_0, hx434_1⟩ := at_T61 HR1.out x5_1 p434 q434
               cases e434
               replace p434 := eq_true p434
               replace q434 := eq_true q434
               go_wp2
               repeat (go_quiet (fail); try go_wp2)
               go_ret
               exact ⟨by first | rfl | (simp; done) | (simp [*]; done), by repeat (first | exact Drawn0.refl _ | apply Drawn0.step)⟩
             · rw [if_neg c9] at H
               have c9b0 : (!(((rd_T61 l0 x5_1).f0) == ((rd_T61 l1 x5_1).f0)) || (!(((rd_T61 l0 x5_1).f1) == ((rd_T61 l1 x5_1).f1)))) = false := by simpa using c9
               clear c9
               have H' := Aside0.mk H
               clear H
               have p433 : 0 ≤ (x5_1 : Int) := of_decide_eq_true (by first | (with_reducible assumption) | assumption)
               have q433 : x5_1 < (l0.length : Int) := of_decide_eq_true (by first | (with_reducible assumption) | assumption)
               obtain ⟨ad433, e433, hx433_0, hx433_1⟩ := at_T61 HR0.out x5_1 p433 q433
               cases e433
               replace p433 := eq_true p433
               replace q433 := eq_true q433
               have p434 : 0 ≤ (x5_1 : Int) := of_decide_eq_true (by first | (with_reducible assumption) | assumption)
               have q434 : x5_1 < (l1.length : Int) := of_decide_eq_true (by first | (with_reducible assumption) | assumption)
               obtain ⟨ad434, e434, hx434_0, hx434_1⟩ := at_T61 HR1.out x5_1 p434 q434
               cases e434
               replace p434 := eq_true p434
               replace q434 := eq_true q434
               go_wp2
               repeat (go_quiet (fail); try go_wp2)
               go_roundg kj2
               case measure => have := HK1.out; have := HJ2.out; omega
               case rel => exact ⟨(wrap64 (x5_1 + 1)), (by first | rfl | (simp; done) | (simp [*]; done)), H', ⟨by have := HK1.out; have := HJ2.out; omega⟩, by repeat (first | exact Drawn0.refl _ | apply Drawn0.step)⟩
           · rw [if_neg c8] at H
             exact absurd H (by simp)
         · rw [if_neg c7] at H
           exact absurd H (by simp)
       · rw [if_neg c6] at H
         exact absurd H (by simp)
     · replace c5 := Bool.eq_false_iff.mpr c5
       subst c5
       have H1 : (some ((l0.length : Int) == (l1.length : Int))) = some r := by rw [if_neg (show ¬ (false = true) by decide)] at H; exact H
       clear H
       have H := H1
       clear H1
       obtain rfl := Option.some.inj H
       go_wp2
       repeat (go_quiet (fail); try go_wp2)
       go_ret
       exact ⟨by first | rfl | (simp; done) | (simp [*]; done), by repeat (first | exact Drawn0.refl _ | apply Drawn0.step)⟩
end Go.Proofs.YthfobpkdloejfaaGreat.PAll
end
section
namespace Go.Proofs.YthfobpkdloejfaaGreat.PAll
open Go.RowKit Go.Proofs.YthfobpkdloejfaaGreatW.PrintWords Go.Proofs.YthfobpkdloejfaaGreatW.PrintLast Go.Proofs.YthfobpkdloejfaaGreatW.PrintMore
attribute [local go_sem high] eqA61
attribute [local go_sem high] eqA64
def interrupt_Request.f (a0_0 : Int) (a1 : Int) : Option (Int × Int) := if a1 < 1 then (some (0, 3)) else (if a1 > 10 then (some (0, 3)) else (if 0 ≤ a1 then (some (Go.bits .or .u16 (Go.bits .and .u16 a0_0 2046) (shl .u16 1 a1), 0)) else (none)))
def interrupt_Request.T3 : Bool × List (List Nat × List Nat) := (true, [([], []), ([0], [0]), ([1], [1]), ([], []), ([3], [3]), ([2, 4], [2, 4]), ([5], [5]), ([6, 0, 1, 2, 3, 4, 5, 6], [6]), ([7, 0, 1, 2, 3, 4, 5, 6, 7], [])])
def interrupt_Request.B3 : List Nat := [0, 1, 3, 0, 8, 31, 63, 127, 255]
theorem interrupt_Request.tab3 : rtab .any (opsOf Tryz.f154 3) = interrupt_Request.T3 := by kernel_rfl
theorem interrupt_Request.bits3 : waitsOk interrupt_Request.T3.2 interrupt_Request.B3 = true := by kernel_rfl
theorem interrupt_Request.calls (a0_0 : Int) (a1 : Int) (r1 : Int) (r2 : Int) (w : World) (h : interrupt_Request.f a0_0 a1 = some (r1, r2)) :
 Calls Tryz.prog 154 #[.agg #[.int .u16 a0_0], .int .i64 a1] w fun e w' => e = .returned (.tuple #[.agg #[.int .u16 r1], .int .i64 r2]) ∧ Below w.heap.size w w' := by
 have hu78 := Tryz.underlying78
 have HB := Aside0.mk (Below.refl w.heap.size w)
 have H : (if a1 < 1 then (some (0, 3)) else (if a1 > 10 then (some (0, 3)) else (if 0 ≤ a1 then (some (Go.bits .or .u16 (Go.bits .and .u16 a0_0 2046) (shl .u16 1 a1), 0)) else (none)))) = some (r1, r2) := h
 clear h
 by_cases c3 : a1 < 1
 · rw [if_pos c3] at H
   have c3b0 : decide (a1 < 1) = true := decide_eq_true c3
   clear c3
   simp only [Option.some.injEq, Prod.mk.injEq] at H
   obtain ⟨rfl, rfl⟩ := H
   go_enter Tryz.func154, Tryz.ntmps154
   go_wp2_with (first | ((with_reducible refine gate_dst (N := 2) rfl ?_); refine box_event ?hg (N := 2) ?hd (cs := #[.int .u16 a0_0]) (t := 78) ?hr ?_; (case hd => rfl); (case hg => rfl); (case hr => first | (go_simp; done) | (go_simp; rfl)); intro gb435 hg w4 hbox hb; have n0_ := Aside0.mk (below_step (by repeat (first | (with_reducible first | exact HB.out | apply below_alloc | apply pw_below_drewN | apply below_drew1) | exact HB.out)) hb); have n1_ := Aside0.mk (hbox); have n2_ := Aside0.mk ((by rw [hg]; exact (below_size (by repeat (first | (with_reducible first | exact HB.out | apply below_alloc | apply pw_below_drewN | apply below_drew1) | exact HB.out))) : w.heap.size ≤ gb435)); have n3_ := Aside0.mk ((by rw [hg]; exact (below_size (by repeat (first | (with_reducible first | exact HB.out | apply below_alloc | apply pw_below_drewN | apply below_drew1) | exact HB.out))) : w.heap.size ≤ gb435)); clear HB; have HB := n0_; have BK435 := n1_; have GW435 := n2_; have GE435 := n3_; clear n0_ n1_ n2_ n3_; clear hb hbox hg) | ((with_reducible refine gate_dst (N := 4) rfl ?_); refine box_event ?hg (N := 4) ?hd (cs := #[.int .u16 0]) (t := 78) ?hr ?_; (case hd => rfl); (case hg => rfl); (case hr => first | (go_simp; done) | (go_simp; rfl)); intro gb436 hg w5 hbox hb; have n0_ := Aside0.mk (blk_below (g := gb435) (o := .cells #[.int .u16 a0_0] 78 (0, 0)) (by (with_reducible repeat (first | refine blk_drewN ?_ _ | refine blk_drew ?_ | refine blk_alloc ?_ _)); exact BK435.out) hb); have n1_ := Aside0.mk (below_step (by repeat (first | (with_reducible first | exact HB.out | apply below_alloc | apply pw_below_drewN | apply below_drew1 | refine below_set ?_ GE435.out) | exact HB.out)) hb); have n2_ := Aside0.mk (hbox); have n3_ := Aside0.mk ((by rw [hg]; exact (below_size (by repeat (first | (with_reducible first | exact HB.out | apply below_alloc | apply pw_below_drewN | apply below_drew1 | refine below_set ?_ GE435.out) | exact HB.out))) : w.heap.size ≤ gb436)); have n4_ := Aside0.mk ((by rw [hg]; exact (below_size (by repeat (first | (with_reducible first | exact HB.out | apply below_alloc | apply pw_below_drewN | apply below_drew1 | refine below_set ?_ GE435.out) | exact HB.out))) : w.heap.size ≤ gb436)); have n5_ := Aside0.mk ((by rw [hg]; exact Nat.ne_of_lt (blk_lt (g := gb435) (o := .cells #[.int .u16 a0_0] 78 (0, 0)) (by (with_reducible repeat (first | refine blk_drewN ?_ _ | refine blk_drew ?_ | refine blk_alloc ?_ _)); exact BK435.out)) : gb435 ≠ gb436)); have n6_ := Aside0.mk ((by rw [hg]; exact Nat.ne_of_gt (blk_lt (g := gb435) (o := .cells #[.int .u16 a0_0] 78 (0, 0)) (by (with_reducible repeat (first | refine blk_drewN ?_ _ | refine blk_drew ?_ | refine blk_alloc ?_ _)); exact BK435.out)) : gb436 ≠ gb435)); clear BK435; clear HB; have BK435 := n0_; have HB := n1_; have BK436 := n2_; have GW436 := n3_; have GE436 := n4_; have NB435_436 := n5_; have NB436_435 := n6_; clear n0_ n1_ n2_ n3_ n4_ n5_ n6_; clear hb hbox hg; have hnb6 := NB436_435.out; have hnc6 := NB435_436.out; have hcz7_0 : w5.cell? ⟨gb436, 0, none⟩ = some (.int .u16 0) := (blk_cell BK436.out 0).trans rfl; have hfz7_0 := blk_frozen BK436.out 0))
   refine bodyPost_ret (results_ct rfl _ _ gb436 78 #[.int .u16 0] (0, 0) _ rfl (by (with_reducible repeat (first | refine blk_drewN ?_ _ | refine blk_drew ?_ | refine blk_alloc ?_ _)); refine blk_put (cs := #[.int .u16 0]) ?_ 0 _ rfl; (with_reducible repeat (first | refine blk_drewN ?_ _ | refine blk_drew ?_ | refine blk_alloc ?_ _)); exact BK436.out) Tryz.underlying78 rfl (by kernel_rfl)) rfl ?_
   exact ⟨by first | rfl | (simp [errW_none, errW_some] <;> rfl) | (simp [*, errW_none, errW_some] <;> rfl), by repeat (first | (with_reducible first | exact HB.out | apply below_alloc | apply pw_below_drewN | apply below_drew1 | refine below_set ?_ GE435.out | refine below_set ?_ GE436.out) | exact HB.out)⟩
 · rw [if_neg c3] at H
   have c3b0 : decide (a1 < 1) = false := decide_eq_false c3
   clear c3
   by_cases c8 : a1 > 10
   · rw [if_pos c8] at H
     have c8b0 : decide (10 < a1) = true := decide_eq_true c8
     clear c8
     simp only [Option.some.injEq, Prod.mk.injEq] at H
     obtain ⟨rfl, rfl⟩ := H
     go_enter Tryz.func154, Tryz.ntmps154
     go_wp2_with (first | ((with_reducible refine gate_dst (N := 2) rfl ?_); refine box_event ?hg (N := 2) ?hd (cs := #[.int .u16 a0_0]) (t := 78) ?hr ?_; (case hd => rfl); (case hg => rfl); (case hr => first | (go_simp; done) | (go_simp; rfl)); intro gb435 hg w9 hbox hb; have n0_ := Aside0.mk (below_step (by repeat (first | (with_reducible first | exact HB.out | apply below_alloc | apply pw_below_drewN | apply below_drew1) | exact HB.out)) hb); have n1_ := Aside0.mk (hbox); have n2_ := Aside0.mk ((by rw [hg]; exact (below_size (by repeat (first | (with_reducible first | exact HB.out | apply below_alloc | apply pw_below_drewN | apply below_drew1) | exact HB.out))) : w.heap.size ≤ gb435)); have n3_ := Aside0.mk ((by rw [hg]; exact (below_size (by repeat (first | (with_reducible first | exact HB.out | apply below_alloc | apply pw_below_drewN | apply below_drew1) | exact HB.out))) : w.heap.size ≤ gb435)); clear HB; have HB := n0_; have BK435 := n1_; have GW435 := n2_; have GE435 := n3_; clear n0_ n1_ n2_ n3_; clear hb hbox hg) | ((with_reducible refine gate_dst (N := 4) rfl ?_); refine box_event ?hg (N := 4) ?hd (cs := #[.int .u16 0]) (t := 78) ?hr ?_; (case hd => rfl); (case hg => rfl); (case hr => first | (go_simp; done) | (go_simp; rfl)); intro gb436 hg w10 hbox hb; have n0_ := Aside0.mk (blk_below (g := gb435) (o := .cells #[.int .u16 a0_0] 78 (0, 0)) (by (with_reducible repeat (first | refine blk_drewN ?_ _ | refine blk_drew ?_ | refine blk_alloc ?_ _)); exact BK435.out) hb); have n1_ := Aside0.mk (below_step (by repeat (first | (with_reducible first | exact HB.out | apply below_alloc | apply pw_below_drewN | apply below_drew1 | refine below_set ?_ GE435.out) | exact HB.out)) hb); have n2_ := Aside0.mk (hbox); have n3_ := Aside0.mk ((by rw [hg]; exact (below_size (by repeat (first | (with_reducible first | exact HB.out | apply below_alloc | apply pw_below_drewN | apply below_drew1 | refine below_set ?_ GE435.out) | exact HB.out))) : w.heap.size ≤ gb436)); have n4_ := Aside0.mk ((by rw [hg]; exact (below_size (by repeat (first | (with_reducible first | exact HB.out | apply below_alloc | apply pw_below_drewN | apply below_drew1 | refine below_set ?_ GE435.out) | exact HB.out))) : w.heap.size ≤ gb436)); have n5_ := Aside0.mk ((by rw [hg]; exact Nat.ne_of_lt (blk_lt (g := gb435) (o := .cells #[.int .u16 a0_0] 78 (0, 0)) (by (with_reducible repeat (first | refine blk_drewN ?_ _ | refine blk_drew ?_ | refine blk_alloc ?_ _)); exact BK435.out)) : gb435 ≠ gb436)); have n6_ := Aside0.mk ((by rw [hg]; exact Nat.ne_of_gt (blk_lt (g := gb435) (o := .cells #[.int .u16 a0_0] 78 (0, 0)) (by (with_reducible repeat (first | refine blk_drewN ?_ _ | refine blk_drew ?_ | refine blk_alloc ?_ _)); exact BK435.out)) : gb436 ≠ gb435)); clear BK435; clear HB; have BK435 := n0_; have HB := n1_; have BK436 := n2_; have GW436 := n3_; have GE436 := n4_; have NB435_436 := n5_; have NB436_435 := n6_; clear n0_ n1_ n2_ n3_ n4_ n5_ n6_; clear hb hbox hg; have hnb11 := NB436_435.out; have hnc11 := NB435_436.out; have hcz12_0 : w10.cell? ⟨gb436, 0, none⟩ = some (.int .u16 0) := (blk_cell BK436.out 0).trans rfl; have hfz12_0 := blk_frozen BK436.out 0))
     refine bodyPost_ret (results_ct rfl _ _ gb436 78 #[.int .u16 0] (0, 0) _ rfl (by (with_reducible repeat (first | refine blk_drewN ?_ _ | refine blk_drew ?_ | refine blk_alloc ?_ _)); refine blk_put (cs := #[.int .u16 0]) ?_ 0 _ rfl; (with_reducible repeat (first | refine blk_drewN ?_ _ | refine blk_drew ?_ | refine blk_alloc ?_ _)); exact BK436.out) Tryz.underlying78 rfl (by kernel_rfl)) rfl ?_
     exact ⟨by first | rfl | (simp [errW_none, errW_some] <;> rfl) | (simp [*, errW_none, errW_some] <;> rfl), by repeat (first | (with_reducible first | exact HB.out | apply below_alloc | apply pw_below_drewN | apply below_drew1 | refine below_set ?_ GE435.out | refine below_set ?_ GE436.out) | exact HB.out)⟩
   · rw [if_neg c8] at H
     have c8b0 : decide (10 < a1) = false := decide_eq_false c8
     clear c8
     by_cases c13 : 0 ≤ a1
     · rw [if_pos c13] at H
       have c13b0 := eq_true c13
       have c13b1 : decide (0 ≤ a1) = true := decide_eq_true c13
       clear c13
       obtain ⟨ji14, hji14⟩ : ∃ j_ : Int, (shl .u16 1 a1) = j_ := ⟨_, rfl⟩
       replace H : (some (Go.bits .or .u16 (Go.bits .and .u16 a0_0 2046) (ji14), 0)) = some (r1, r2) := by first | (rw [hji14] at H; exact H) | (simp only [hji14] at H ⊢; exact H)
       have hji14_ : (IntKind.u16.wrap (1 * 2 ^ min a1.toNat 16)) = ji14 := hji14
       have hji14z : a1 ≤ 16 → (IntKind.u16.wrap (1 * 2 ^ a1.toNat)) = ji14 := shl_small hji14
       have hji14u : (IntKind.u16.wrap (2 ^ min a1.toNat 16)) = ji14 := by have h_ := hji14_; rw [Int.one_mul] at h_; exact h_
       have hji14v : a1 ≤ 16 → (IntKind.u16.wrap (2 ^ a1.toNat)) = ji14 := fun hle_ => by have h_ := hji14z hle_; rw [Int.one_mul] at h_; exact h_
       simp only [Option.some.injEq, Prod.mk.injEq] at H
       obtain ⟨rfl, rfl⟩ := H
       go_enter Tryz.func154, Tryz.ntmps154
       try go_wp2_with (first | ((with_reducible refine gate_dst (N := 2) rfl ?_); refine box_event ?hg (N := 2) ?hd (cs := #[.int .u16 a0_0]) (t := 78) ?hr ?_; (case hd => rfl); (case hg => rfl); (case hr => first | (go_simp; done) | (go_simp; rfl)); intro gb435 hg w15 hbox hb; have n0_ := Aside0.mk (below_step (by repeat (first | (with_reducible first | exact HB.out | apply below_alloc | apply pw_below_drewN | apply below_drew1) | exact HB.out)) hb); have n1_ := Aside0.mk (hbox); have n2_ := Aside0.mk ((by rw [hg]; exact (below_size (by repeat (first | (with_reducible first | exact HB.out | apply below_alloc | apply pw_below_drewN | apply below_drew1) | exact HB.out))) : w.heap.size ≤ gb435)); have n3_ := Aside0.mk ((by rw [hg]; exact (below_size (by repeat (first | (with_reducible first | exact HB.out | apply below_alloc | apply pw_below_drewN | apply below_drew1) | exact HB.out))) : w.heap.size ≤ gb435)); clear HB; have HB := n0_; have BK435 := n1_; have GW435 := n2_; have GE435 := n3_; clear n0_ n1_ n2_ n3_; clear hb hbox hg) | ((with_reducible refine gate_dst (N := 4) rfl ?_); refine box_event ?hg (N := 4) ?hd (cs := #[.int .u16 0]) (t := 78) ?hr ?_; (case hd => rfl); (case hg => rfl); (case hr => first | (go_simp; done) | (go_simp; rfl)); intro gb436 hg w16 hbox hb; have n0_ := Aside0.mk (blk_below (g := gb435) (o := .cells #[.int .u16 a0_0] 78 (0, 0)) (by (with_reducible repeat (first | refine blk_drewN ?_ _ | refine blk_drew ?_ | refine blk_alloc ?_ _)); exact BK435.out) hb); have n1_ := Aside0.mk (below_step (by repeat (first | (with_reducible first | exact HB.out | apply below_alloc | apply pw_below_drewN | apply below_drew1 | refine below_set ?_ GE435.out) | exact HB.out)) hb); have n2_ := Aside0.mk (hbox); have n3_ := Aside0.mk ((by rw [hg]; exact (below_size (by repeat (first | (with_reducible first | exact HB.out | apply below_alloc | apply pw_below_drewN | apply below_drew1 | refine below_set ?_ GE435.out) | exact HB.out))) : w.heap.size ≤ gb436)); have n4_ := Aside0.mk ((by rw [hg]; exact (below_size (by repeat (first | (with_reducible first | exact HB.out | apply below_alloc | apply pw_below_drewN | apply below_drew1 | refine below_set ?_ GE435.out) | exact HB.out))) : w.heap.size ≤ gb436)); have n5_ := Aside0.mk ((by rw [hg]; exact Nat.ne_of_lt (blk_lt (g := gb435) (o := .cells #[.int .u16 a0_0] 78 (0, 0)) (by (with_reducible repeat (first | refine blk_drewN ?_ _ | refine blk_drew ?_ | refine blk_alloc ?_ _)); exact BK435.out)) : gb435 ≠ gb436)); have n6_ := Aside0.mk ((by rw [hg]; exact Nat.ne_of_gt (blk_lt (g := gb435) (o := .cells #[.int .u16 a0_0] 78 (0, 0)) (by (with_reducible repeat (first | refine blk_drewN ?_ _ | refine blk_drew ?_ | refine blk_alloc ?_ _)); exact BK435.out)) : gb436 ≠ gb435)); clear BK435; clear HB; have BK435 := n0_; have HB := n1_; have BK436 := n2_; have GW436 := n3_; have GE436 := n4_; have NB435_436 := n5_; have NB436_435 := n6_; clear n0_ n1_ n2_ n3_ n4_ n5_ n6_; clear hb hbox hg))
       have n0_ := Aside0.mk (blk_drew BK435.out)
       have n1_ := Aside0.mk (blk_drew BK436.out)
       have n2_ := Aside0.mk (below_drew1 HB.out)
       clear BK435
       clear BK436
       clear HB
       have BK435 := n0_
       have BK436 := n1_
       have HB := n2_
       clear n0_ n1_ n2_
       refine start_ (n := 9) (S := fun w' => w'.cell? ⟨gb435, 0, none⟩ = some (.int .u16 a0_0)) (ds := []) #[false, false, false, false, false, false, false, false, false] (by kernel_rfl) rfl rfl ((blk_cell BK435.out 0).trans rfl) (fun hHeld => ?_); refine with_tabW interrupt_Request.tab3 interrupt_Request.bits3 (fun HT_ HW_ => ?_)
       generalize w16.drew = w17 at BK435 BK436 HB hHeld ⊢
       refine pvq_ 0 (some 13) rfl rfl ?_ (any_of HT_.out (by kernel_rfl))
       refine pvq_ 3 (some 16) rfl rfl ?_ (any_of HT_.out (by kernel_rfl))
       refine pvq_ 4 (some 17) rfl rfl ?_ (any_of HT_.out (by kernel_rfl))
       refine take_ (i := 1) (N := some 14) (v := ?_) (a' := ?_) #[true, true, false, true, true, false, false, false, false] rfl rfl (take_ofW HT_.out HW_.out (by kernel_rfl)) (fun _ _ _ h => h) (Or.inl ⟨by rfl, ?_⟩) hHeld ?_ ?_
       rotate_left
       · intro w' s0
         go_simp
         with_reducible rfl
       rotate_left
       · simp only [Act.put, List.setIfInBounds_toArray, List.set_cons_zero, List.set_cons_succ, i64_w, i32_w]
         rfl
       refine pvq_ 2 (some 15) rfl rfl ?_ (any_of HT_.out (by kernel_rfl))
       refine pvq_ 5 (some 18) rfl rfl ?_ (any_of HT_.out (by kernel_rfl))
       refine pvq_ 6 (some 19) rfl rfl ?_ (any_of HT_.out (by kernel_rfl))
       refine onq_ 7 none rfl rfl (fun K hK => ?_) (one_of HT_.out (by kernel_rfl))
       have hs18 : w17.cell? ⟨gb436, 0, none⟩ = some (.int .u16 0) := (blk_cell BK436.out 0).trans rfl
       have hfs18 := blk_frozen BK436.out 0
       have hns18_0 := NB435_436.out
       have hms18_0 := NB436_435.out
       refine skip_ (w1 := ?_) (by rfl) rfl ?_ ?_
       rotate_left
       · go_simp
         rfl
       refine hK.out _ _ (((cell_far (p := ⟨gb436, _, none⟩) NB435_436.out _).trans (hHeld))) (fun hHeld => ?_)
       clear hK K
       refine pvq_ 8 (some 5) rfl rfl ?_ (any_of HT_.out (by kernel_rfl))
       refine done_ (done_of HT_.out (by kernel_rfl)) ?_
       try go_wp2
       refine bodyPost_ret (results_ct rfl _ _ gb436 78 #[.int .u16 (Go.bits .or .u16 (Go.bits .and .u16 a0_0 2046) (ji14))] (0, 0) _ rfl (by (with_reducible repeat (first | refine blk_drewN ?_ _ | refine blk_drew ?_ | refine blk_alloc ?_ _)); refine blk_put (cs := #[.int .u16 0]) ?_ 0 _ rfl; (with_reducible repeat (first | refine blk_drewN ?_ _ | refine blk_drew ?_ | refine blk_alloc ?_ _)); exact BK436.out) Tryz.underlying78 rfl (by kernel_rfl)) rfl ?_
       exact ⟨by first | rfl | (simp [errW_none, errW_some] <;> rfl) | (simp only [← hji14]; first | rfl | (simp [errW_none, errW_some] <;> rfl)) | (simp [*, errW_none, errW_some] <;> rfl), by repeat (first | (with_reducible first | exact HB.out | apply below_alloc | apply pw_below_drewN | apply below_drew1 | refine below_set ?_ GE435.out | refine below_set ?_ GE436.out) | exact HB.out)⟩
     · rw [if_neg c13] at H
       exact absurd H (by simp)
end Go.Proofs.YthfobpkdloejfaaGreat.PAll
end
section
namespace Go.Proofs.YthfobpkdloejfaaGreat.PAll
open Go.RowKit Go.Proofs.YthfobpkdloejfaaGreatW.PrintWords Go.Proofs.YthfobpkdloejfaaGreatW.PrintLast Go.Proofs.YthfobpkdloejfaaGreatW.PrintMore
attribute [local go_sem high] eqA61
attribute [local go_sem high] eqA64
def perilunelaw07_pending.l0 : Nat → List Int → Int → Int → Option (Int)
 | 0, _, _, _ => none
 | k + 1, x0, x4, x439000 => if x4 < (x0.length : Int) then (if 0 ≤ x4 then ((interrupt_Request.f x439000 (rd x0 x4)).bind fun bt440 => (if bt440.2 = 0 then (perilunelaw07_pending.l0 k x0 (wrap64 (x4 + 1)) bt440.1) else (perilunelaw07_pending.l0 k x0 (wrap64 (x4 + 1)) x439000))) else (none)) else (some x439000)
def perilunelaw07_pending.f (k : Nat) (l0 : List Int) : Option (Int) := perilunelaw07_pending.l0 k l0 0 0
def perilunelaw07_pending.T5 : Bool × List (List Nat × List Nat) := (true, [([], []), ([], []), ([], []), ([1, 2], [1, 2]), ([3], [3]), ([0, 4], [0, 4]), ([5], [5]), ([6], [6]), ([6], [6]), ([], []), ([9, 7, 5, 0, 1, 2, 3, 4, 5, 6, 7, 9], [7, 9]), ([8, 10, 0, 1, 2, 3, 4, 5, 6, 7, 8, 9, 10], [8])])
def perilunelaw07_pending.B5 : List Nat := [0, 0, 0, 6, 14, 31, 63, 127, 127, 0, 767, 2047]
theorem perilunelaw07_pending.tab5 : rtab .any (opsOf Tryz.f68 5) = perilunelaw07_pending.T5 := by kernel_rfl
theorem perilunelaw07_pending.bits5 : waitsOk perilunelaw07_pending.T5.2 perilunelaw07_pending.B5 = true := by kernel_rfl
theorem perilunelaw07_pending.calls (k : Nat) (A0 : Option Addr) (c0 : Nat) (l0 : List Int) (r : Int) (w : World) (hr0 : Kd.C (Kd.int .i64) w A0 l0.length l0) (hc0 : l0.length ≤ c0) (h : perilunelaw07_pending.f k l0 = some r) :
 Calls Tryz.prog 68 #[.slice A0 l0.length c0] w fun e w' => e = .returned (.agg #[.int .u16 r]) ∧ Below w.heap.size w w' := by
 have hu78 := Tryz.underlying78
 have HR0 := Aside0.mk hr0
 have HC0 := Aside0.mk hc0
 clear hr0 hc0
 have HB := Aside0.mk (Below.refl w.heap.size w)
 have H : (perilunelaw07_pending.l0 k l0 0 0) = some r := h
 clear h
 have H' := Aside0.mk H
 clear H
 go_enter Tryz.func68, Tryz.ntmps68
 go_wp2_with (first | ((with_reducible refine gate_dst (N := 2) rfl ?_); refine box_event ?hg (N := 2) ?hd (cs := #[.int .u16 0]) (t := 78) ?hr ?_; (case hd => rfl); (case hg => rfl); (case hr => first | (go_simp; done) | (go_simp; rfl)); intro gb437 hg w2 hbox hb; have n0_ := Aside0.mk (below_step (by repeat (first | (with_reducible first | exact HB.out | apply below_alloc | apply pw_below_drewN | apply below_drew1) | exact HB.out)) hb); have n1_ := Aside0.mk (hbox); have n2_ := Aside0.mk ((by rw [hg]; exact (below_size (by repeat (first | (with_reducible first | exact HB.out | apply below_alloc | apply pw_below_drewN | apply below_drew1) | exact HB.out))) : w.heap.size ≤ gb437)); have n3_ := Aside0.mk ((by rw [hg]; exact (below_size (by repeat (first | (with_reducible first | exact HB.out | apply below_alloc | apply pw_below_drewN | apply below_drew1) | exact HB.out))) : w.heap.size ≤ gb437)); clear HB; have HB := n0_; have BK437 := n1_; have GW437 := n2_; have GE437 := n3_; clear n0_ n1_ n2_ n3_; clear hb hbox hg) | ((with_reducible refine gate_dst (N := 3) rfl ?_); refine box_event ?hg (N := 3) ?hd (cs := #[.int .u16 0]) (t := 78) ?hr ?_; (case hd => rfl); (case hg => rfl); (case hr => first | (go_simp; done) | (go_simp; rfl)); intro gb438 hg w3 hbox hb; have n0_ := Aside0.mk (blk_below (g := gb437) (o := .cells #[.int .u16 0] 78 (0, 0)) (by (with_reducible repeat (first | refine blk_drewN ?_ _ | refine blk_drew ?_ | refine blk_alloc ?_ _)); exact BK437.out) hb); have n1_ := Aside0.mk (below_step (by repeat (first | (with_reducible first | exact HB.out | apply below_alloc | apply pw_below_drewN | apply below_drew1 | refine below_set ?_ GE437.out) | exact HB.out)) hb); have n2_ := Aside0.mk (hbox); have n3_ := Aside0.mk ((by rw [hg]; exact (below_size (by repeat (first | (with_reducible first | exact HB.out | apply below_alloc | apply pw_below_drewN | apply below_drew1 | refine below_set ?_ GE437.out) | exact HB.out))) : w.heap.size ≤ gb438)); have n4_ := Aside0.mk ((by rw [hg]; exact (below_size (by repeat (first | (with_reducible first | exact HB.out | apply below_alloc | apply pw_below_drewN | apply below_drew1 | refine below_set ?_ GE437.out) | exact HB.out))) : w.heap.size ≤ gb438)); have n5_ := Aside0.mk ((by rw [hg]; exact Nat.ne_of_lt (blk_lt (g := gb437) (o := .cells #[.int .u16 0] 78 (0, 0)) (by (with_reducible repeat (first | refine blk_drewN ?_ _ | refine blk_drew ?_ | refine blk_alloc ?_ _)); exact BK437.out)) : gb437 ≠ gb438)); have n6_ := Aside0.mk ((by rw [hg]; exact Nat.ne_of_gt (blk_lt (g := gb437) (o := .cells #[.int .u16 0] 78 (0, 0)) (by (with_reducible repeat (first | refine blk_drewN ?_ _ | refine blk_drew ?_ | refine blk_alloc ?_ _)); exact BK437.out)) : gb438 ≠ gb437)); clear BK437; clear HB; have BK437 := n0_; have HB := n1_; have BK438 := n2_; have GW438 := n3_; have GE438 := n4_; have NB437_438 := n5_; have NB438_437 := n6_; clear n0_ n1_ n2_ n3_ n4_ n5_ n6_; clear hb hbox hg))
 go_loopg [4] k (fun kq v4 w' => ∃ (x4_1 : Int) (x439000_1 : Int), v4 = .int .i64 x4_1 ∧ Aside0 (perilunelaw07_pending.l0 kq l0 x4_1 x439000_1 = some r) ∧ Aside0 (kq ≤ k) ∧ Aside0 (w'.heap[gb437]? = some (.cells #[.int .u16 0] 78 (0, 0))) ∧ Aside0 (w'.heap[gb438]? = some (.cells #[.int .u16 x439000_1] 78 (0, 0))) ∧ Aside0 (Below w.heap.size w w'))
 case atStart => exact ⟨(0), (0), (by first | rfl | (simp; done) | (simp [*]; done)), H', ⟨Nat.le_refl _⟩, ⟨by (with_reducible repeat (first | refine blk_drewN ?_ _ | refine blk_drew ?_ | refine blk_alloc ?_ _)); exact BK437.out⟩, ⟨by (with_reducible repeat (first | refine blk_drewN ?_ _ | refine blk_drew ?_ | refine blk_alloc ?_ _)); exact BK438.out⟩, ⟨by repeat (first | (with_reducible first | exact HB.out | apply below_alloc | apply pw_below_drewN | apply below_drew1 | refine below_set ?_ GE437.out | refine below_set ?_ GE438.out) | exact HB.out)⟩⟩
 case round =>
  clear H'
  try clear p2
  obtain ⟨x4_1, x439000_1, rfl, HA, HK1, BK437, BK438, HB⟩ := hrel
  cases gk with
  | zero => exact absurd HA.out (by simp [perilunelaw07_pending.l0])
  | succ k1 =>
   have H := HA.out
   clear HA
   simp only [perilunelaw07_pending.l0] at H
   by_cases c4 : x4_1 < (l0.length : Int)
   · rw [if_pos c4] at H
     have c4b0 : decide (x4_1 < (l0.length : Int)) = true := decide_eq_true c4
     clear c4
     by_cases c5 : 0 ≤ x4_1
     · rw [if_pos c5] at H
       have c5b0 : decide (0 ≤ x4_1) = true := decide_eq_true c5
       clear c5
       replace H := Option.bind_eq_some_iff.mp H
       obtain ⟨⟨t440, t441⟩, A60, H⟩ := H
       replace H : (if t441 = 0 then (perilunelaw07_pending.l0 k1 l0 (wrap64 (x4_1 + 1)) t440) else (perilunelaw07_pending.l0 k1 l0 (wrap64 (x4_1 + 1)) x439000_1)) = some r := H
       have A6 := Aside0.mk A60
       clear A60
       by_cases c7 : t441 = 0
       · rw [if_pos c7] at H
         have c7b0 : (t441 == 0) = true := beq_iff_eq.mpr c7
         have c7b1 : (t441 != 0) = false := bne_eq_false_iff_eq.mpr c7
         clear c7
         have H' := Aside0.mk H
         clear H
         try go_wp2
         have n0_ := Aside0.mk (blk_drew BK437.out)
         have n1_ := Aside0.mk (blk_drew BK438.out)
         have n2_ := Aside0.mk (below_drew1 HB.out)
         clear BK437
         clear BK438
         clear HB
         have BK437 := n0_
         have BK438 := n1_
         have HB := n2_
         clear n0_ n1_ n2_
         have p439 : 0 ≤ (x4_1 : Int) := of_decide_eq_true (by first | (with_reducible assumption) | assumption)
         have q439 : x4_1 < (l0.length : Int) := of_decide_eq_true (by first | (with_reducible assumption) | assumption)
         obtain ⟨ad439, e439, hx439_0⟩ := Kd.at_int HR0.out x4_1 p439 q439
         have hw439_0 := hx439_0
         cases e439
         replace hx439_0 := (HB.out.cell (World.block_lt_of_cell? w _ hx439_0)).trans hx439_0
         replace p439 := eq_true p439
         replace q439 := eq_true q439
         refine start_ (n := 12) (S := fun w' => w'.cell? ⟨gb438, 0, none⟩ = some (.int .u16 x439000_1) ∧ w'.cell? (ad439.add (x4_1).toNat) = some (.int .i64 (rd l0 x4_1))) (ds := []) #[false, false, false, false, false, false, false, false, false, false, false, false] (by kernel_rfl) rfl rfl ⟨(blk_cell BK438.out 0).trans rfl, ((HB.out.cell (World.block_lt_of_cell? w _ hw439_0)).trans hw439_0)⟩ (fun hHeld => ?_); refine with_tabW perilunelaw07_pending.tab5 perilunelaw07_pending.bits5 (fun HT_ HW_ => ?_)
         generalize wr.drew = w8 at BK437 BK438 HB hx439_0 hHeld ⊢
         refine pvq_ 1 (some 15) rfl rfl ?_ (any_of HT_.out (by kernel_rfl))
         refine pvq_ 2 (some 16) rfl rfl ?_ (any_of HT_.out (by kernel_rfl))
         refine pvq_ 3 (some 17) rfl rfl ?_ (any_of HT_.out (by kernel_rfl))
         refine take_ (i := 0) (N := some 14) (v := ?_) (a' := ?_) #[true, true, true, true, false, false, false, false, false, false, false, false] rfl rfl (take_ofW HT_.out HW_.out (by kernel_rfl)) (fun _ _ _ h => h) (Or.inl ⟨by rfl, ?_⟩) hHeld ?_ ?_
         rotate_left
         · rintro w' ⟨s0, s1⟩
           go_simp
           with_reducible rfl
         rotate_left
         · simp only [Act.put, List.setIfInBounds_toArray, List.set_cons_zero, List.set_cons_succ, i64_w, i32_w]
           rfl
         refine take_ (i := 4) (N := some 18) (v := ?_) (a' := ?_) #[true, true, true, true, true, false, false, false, false, false, false, false] rfl rfl (take_ofW HT_.out HW_.out (by kernel_rfl)) (fun _ _ _ h => h) (Or.inl ⟨by rfl, ?_⟩) hHeld ?_ ?_
         rotate_left
         · rintro w' ⟨s0, s1⟩
           go_simp
           with_reducible rfl
         rotate_left
         · simp only [Act.put, List.setIfInBounds_toArray, List.set_cons_zero, List.set_cons_succ, i64_w, i32_w]
           rfl
         refine join_ (σ := Nat) 2 #[true, true, true, true, true, true, true, true, true, true, false, false] (fun s_ => [(19, .tuple #[.agg #[.int .u16 t440], .int .i64 t441]), (5, .pointer (some ⟨s_, 0, none⟩)), (13, .tuple #[.agg #[.int .u16 t440], .int .i64 t441]), (20, .agg #[.int .u16 t440]), (21, .int .i64 t441)]) (fun s_ w' => (w'.cell? ⟨gb438, 0, none⟩ = some (.int .u16 x439000_1) ∧ w'.cell? (ad439.add (x4_1).toNat) = some (.int .i64 (rd l0 x4_1))) ∧ (w'.heap[gb437]? = some (.cells #[.int .u16 0] 78 (0, 0))) ∧ (w'.heap[gb438]? = some (.cells #[.int .u16 x439000_1] 78 (0, 0))) ∧ (w'.heap[s_]? = some (.cells #[.int .u16 0] 78 (0, 0))) ∧ (w.heap.size ≤ s_) ∧ (w.heap.size ≤ s_) ∧ (gb437 ≠ s_) ∧ (s_ ≠ gb437) ∧ (gb438 ≠ s_) ∧ (s_ ≠ gb438) ∧ (Below w.heap.size w w')) ?_ ?_
         rotate_left
         · intro hCont
           refine two_ (i := 5) (j := 9) (Ni := some 19) (Nj := some 5) #[true, true, true, true, true, true, false, false, false, false, false, false] #[true, true, true, true, true, false, false, false, false, true, false, false] rfl rfl rfl rfl (two_of HT_.out (by kernel_rfl)) (by decide) (by decide) (fun K hK => ?_) (fun K hK => ?_)
           · skip
             refine goes_ Tryz.func154 (by kernel_rfl) rfl #[.agg #[.int .u16 x439000_1], .int .i64 (rd l0 x4_1)] (by rfl) rfl rfl (by (try simp only [List.map_toArray, List.map_cons, List.map_nil]); first | done | rfl | (simp only [List.length_drop, List.length_take]; rfl)) ?_
             with_reducible refine (interrupt_Request.calls x439000_1 (rd l0 x4_1) t440 t441 _ A6.out).mono ?_
             rintro e w9 ⟨rfl, hb⟩
             refine ⟨_, rfl, ?_⟩
             have n0_ := Aside0.mk (blk_below (g := gb437) (o := .cells #[.int .u16 0] 78 (0, 0)) (by (with_reducible repeat (first | refine blk_drewN ?_ _ | refine blk_drew ?_ | refine blk_alloc ?_ _)); exact BK437.out) hb)
             have n1_ := Aside0.mk (blk_below (g := gb438) (o := .cells #[.int .u16 x439000_1] 78 (0, 0)) (by (with_reducible repeat (first | refine blk_drewN ?_ _ | refine blk_drew ?_ | refine blk_alloc ?_ _)); exact BK438.out) hb)
             have n2_ := Aside0.mk (below_step (by repeat (first | (with_reducible first | exact HB.out | apply below_alloc | apply pw_below_drewN | apply below_drew1 | refine below_set ?_ GE437.out | refine below_set ?_ GE438.out) | exact HB.out)) hb)
             clear BK437
             clear BK438
             clear HB
             have BK437 := n0_
             have BK438 := n1_
             have HB := n2_
             clear n0_ n1_ n2_
             (try clear hb)
             (try clear hb2)
             (try clear hk)
             (try clear hi)
             refine hK.out _ _ ⟨(blk_cell BK438.out 0).trans rfl, ((HB.out.cell (World.block_lt_of_cell? w _ hw439_0)).trans hw439_0)⟩ (fun hHeld => ?_)
             clear hK K
             refine nmq_ (some 19) ?_
             refine pvq_ 6 (some 13) rfl rfl ?_ (any_of HT_.out (by kernel_rfl))
             refine pvq_ 7 (some 20) rfl rfl ?_ (any_of HT_.out (by kernel_rfl))
             refine pvq_ 8 (some 21) rfl rfl ?_ (any_of HT_.out (by kernel_rfl))
             refine onq_ 9 (some 5) rfl rfl (fun K hK => ?_) (one_of HT_.out (by kernel_rfl))
             refine box_step ?hg (N := 5) ?hd (cs := #[.int .u16 0]) (t := 78) ?hr ?_; (case hd => rfl); (case hg => rfl); (case hr => first | (go_simp; done) | (go_simp; rfl))
             intro gb442 hg w10 hbox hb
             have n0_ := Aside0.mk (blk_below (g := gb437) (o := .cells #[.int .u16 0] 78 (0, 0)) (by (with_reducible repeat (first | refine blk_drewN ?_ _ | refine blk_drew ?_ | refine blk_alloc ?_ _)); exact BK437.out) hb)
             have n1_ := Aside0.mk (blk_below (g := gb438) (o := .cells #[.int .u16 x439000_1] 78 (0, 0)) (by (with_reducible repeat (first | refine blk_drewN ?_ _ | refine blk_drew ?_ | refine blk_alloc ?_ _)); exact BK438.out) hb)
             have n2_ := Aside0.mk (below_step (by repeat (first | (with_reducible first | exact HB.out | apply below_alloc | apply pw_below_drewN | apply below_drew1 | refine below_set ?_ GE437.out | refine below_set ?_ GE438.out) | exact HB.out)) hb)
             have n3_ := Aside0.mk (hbox)
             have n4_ := Aside0.mk ((by rw [hg]; exact (below_size (by repeat (first | (with_reducible first | exact HB.out | apply below_alloc | apply pw_below_drewN | apply below_drew1 | refine below_set ?_ GE437.out | refine below_set ?_ GE438.out) | exact HB.out))) : w.heap.size ≤ gb442))
             have n5_ := Aside0.mk ((by rw [hg]; exact (below_size (by repeat (first | (with_reducible first | exact HB.out | apply below_alloc | apply pw_below_drewN | apply below_drew1 | refine below_set ?_ GE437.out | refine below_set ?_ GE438.out) | exact HB.out))) : w.heap.size ≤ gb442))
             have n6_ := Aside0.mk ((by rw [hg]; exact Nat.ne_of_lt (blk_lt (g := gb437) (o := .cells #[.int .u16 0] 78 (0, 0)) (by (with_reducible repeat (first | refine blk_drewN ?_ _ | refine blk_drew ?_ | refine blk_alloc ?_ _)); exact BK437.out)) : gb437 ≠ gb442))
             have n7_ := Aside0.mk ((by rw [hg]; exact Nat.ne_of_gt (blk_lt (g := gb437) (o := .cells #[.int .u16 0] 78 (0, 0)) (by (with_reducible repeat (first | refine blk_drewN ?_ _ | refine blk_drew ?_ | refine blk_alloc ?_ _)); exact BK437.out)) : gb442 ≠ gb437))
             have n8_ := Aside0.mk ((by rw [hg]; exact Nat.ne_of_lt (blk_lt (g := gb438) (o := .cells #[.int .u16 x439000_1] 78 (0, 0)) (by (with_reducible repeat (first | refine blk_drewN ?_ _ | refine blk_drew ?_ | refine blk_alloc ?_ _)); exact BK438.out)) : gb438 ≠ gb442))
             have n9_ := Aside0.mk ((by rw [hg]; exact Nat.ne_of_gt (blk_lt (g := gb438) (o := .cells #[.int .u16 x439000_1] 78 (0, 0)) (by (with_reducible repeat (first | refine blk_drewN ?_ _ | refine blk_drew ?_ | refine blk_alloc ?_ _)); exact BK438.out)) : gb442 ≠ gb438))
             clear BK437
             clear BK438
             clear HB
             have BK437 := n0_
             have BK438 := n1_
             have HB := n2_
             have BK442 := n3_
             have GW442 := n4_
             have GE442 := n5_
             have NB437_442 := n6_
             have NB442_437 := n7_
             have NB438_442 := n8_
             have NB442_438 := n9_
             clear n0_ n1_ n2_ n3_ n4_ n5_ n6_ n7_ n8_ n9_
             clear hb hbox hg
             refine hK.out _ _ ⟨(blk_cell BK438.out 0).trans rfl, ((HB.out.cell (World.block_lt_of_cell? w _ hw439_0)).trans hw439_0)⟩ (fun hHeld => ?_)
             clear hK K
             refine nmq_ (some 5) ?_
             exact norm_ (by simp only [putAll, Act.put, List.setIfInBounds_toArray, List.set_cons_zero, List.set_cons_succ]) (hCont (gb442) _ ⟨hHeld, (by (with_reducible repeat (first | refine blk_drewN ?_ _ | refine blk_drew ?_ | refine blk_alloc ?_ _)); exact BK437.out), (by (with_reducible repeat (first | refine blk_drewN ?_ _ | refine blk_drew ?_ | refine blk_alloc ?_ _)); exact BK438.out), (by (with_reducible repeat (first | refine blk_drewN ?_ _ | refine blk_drew ?_ | refine blk_alloc ?_ _)); exact BK442.out), GW442.out, GE442.out, NB437_442.out, NB442_437.out, NB438_442.out, NB442_438.out, (by repeat (first | (with_reducible first | exact HB.out | apply below_alloc | apply pw_below_drewN | apply below_drew1 | refine below_set ?_ GE437.out | refine below_set ?_ GE438.out | refine below_set ?_ GE442.out) | exact HB.out))⟩)
           · skip
             refine box_step ?hg (N := 5) ?hd (cs := #[.int .u16 0]) (t := 78) ?hr ?_; (case hd => rfl); (case hg => rfl); (case hr => first | (go_simp; done) | (go_simp; rfl))
             intro gb442 hg w9 hbox hb
             have n0_ := Aside0.mk (blk_below (g := gb437) (o := .cells #[.int .u16 0] 78 (0, 0)) (by (with_reducible repeat (first | refine blk_drewN ?_ _ | refine blk_drew ?_ | refine blk_alloc ?_ _)); exact BK437.out) hb)
             have n1_ := Aside0.mk (blk_below (g := gb438) (o := .cells #[.int .u16 x439000_1] 78 (0, 0)) (by (with_reducible repeat (first | refine blk_drewN ?_ _ | refine blk_drew ?_ | refine blk_alloc ?_ _)); exact BK438.out) hb)
             have n2_ := Aside0.mk (below_step (by repeat (first | (with_reducible first | exact HB.out | apply below_alloc | apply pw_below_drewN | apply below_drew1 | refine below_set ?_ GE437.out | refine below_set ?_ GE438.out) | exact HB.out)) hb)
             have n3_ := Aside0.mk (hbox)
             have n4_ := Aside0.mk ((by rw [hg]; exact (below_size (by repeat (first | (with_reducible first | exact HB.out | apply below_alloc | apply pw_below_drewN | apply below_drew1 | refine below_set ?_ GE437.out | refine below_set ?_ GE438.out) | exact HB.out))) : w.heap.size ≤ gb442))
             have n5_ := Aside0.mk ((by rw [hg]; exact (below_size (by repeat (first | (with_reducible first | exact HB.out | apply below_alloc | apply pw_below_drewN | apply below_drew1 | refine below_set ?_ GE437.out | refine below_set ?_ GE438.out) | exact HB.out))) : w.heap.size ≤ gb442))
             have n6_ := Aside0.mk ((by rw [hg]; exact Nat.ne_of_lt (blk_lt (g := gb437) (o := .cells #[.int .u16 0] 78 (0, 0)) (by (with_reducible repeat (first | refine blk_drewN ?_ _ | refine blk_drew ?_ | refine blk_alloc ?_ _)); exact BK437.out)) : gb437 ≠ gb442))
             have n7_ := Aside0.mk ((by rw [hg]; exact Nat.ne_of_gt (blk_lt (g := gb437) (o := .cells #[.int .u16 0] 78 (0, 0)) (by (with_reducible repeat (first | refine blk_drewN ?_ _ | refine blk_drew ?_ | refine blk_alloc ?_ _)); exact BK437.out)) : gb442 ≠ gb437))
             have n8_ := Aside0.mk ((by rw [hg]; exact Nat.ne_of_lt (blk_lt (g := gb438) (o := .cells #[.int .u16 x439000_1] 78 (0, 0)) (by (with_reducible repeat (first | refine blk_drewN ?_ _ | refine blk_drew ?_ | refine blk_alloc ?_ _)); exact BK438.out)) : gb438 ≠ gb442))
             have n9_ := Aside0.mk ((by rw [hg]; exact Nat.ne_of_gt (blk_lt (g := gb438) (o := .cells #[.int .u16 x439000_1] 78 (0, 0)) (by (with_reducible repeat (first | refine blk_drewN ?_ _ | refine blk_drew ?_ | refine blk_alloc ?_ _)); exact BK438.out)) : gb442 ≠ gb438))
             clear BK437
             clear BK438
             clear HB
             have BK437 := n0_
             have BK438 := n1_
             have HB := n2_
             have BK442 := n3_
             have GW442 := n4_
             have GE442 := n5_
             have NB437_442 := n6_
             have NB442_437 := n7_
             have NB438_442 := n8_
             have NB442_438 := n9_
             clear n0_ n1_ n2_ n3_ n4_ n5_ n6_ n7_ n8_ n9_
             clear hb hbox hg
             refine hK.out _ _ ⟨(blk_cell BK438.out 0).trans rfl, ((HB.out.cell (World.block_lt_of_cell? w _ hw439_0)).trans hw439_0)⟩ (fun hHeld => ?_)
             clear hK K
             refine nmq_ (some 5) ?_
             refine onq_ 5 (some 19) rfl rfl (fun K hK => ?_) (one_of HT_.out (by kernel_rfl))
             refine goes_ Tryz.func154 (by kernel_rfl) rfl #[.agg #[.int .u16 x439000_1], .int .i64 (rd l0 x4_1)] (by rfl) rfl rfl (by (try simp only [List.map_toArray, List.map_cons, List.map_nil]); first | done | rfl | (simp only [List.length_drop, List.length_take]; rfl)) ?_
             with_reducible refine (interrupt_Request.calls x439000_1 (rd l0 x4_1) t440 t441 _ A6.out).mono ?_
             rintro e w10 ⟨rfl, hb⟩
             refine ⟨_, rfl, ?_⟩
             have n0_ := Aside0.mk (blk_below (g := gb437) (o := .cells #[.int .u16 0] 78 (0, 0)) (by (with_reducible repeat (first | refine blk_drewN ?_ _ | refine blk_drew ?_ | refine blk_alloc ?_ _)); exact BK437.out) hb)
             have n1_ := Aside0.mk (blk_below (g := gb438) (o := .cells #[.int .u16 x439000_1] 78 (0, 0)) (by (with_reducible repeat (first | refine blk_drewN ?_ _ | refine blk_drew ?_ | refine blk_alloc ?_ _)); exact BK438.out) hb)
             have n2_ := Aside0.mk (blk_below (g := gb442) (o := .cells #[.int .u16 0] 78 (0, 0)) (by (with_reducible repeat (first | refine blk_drewN ?_ _ | refine blk_drew ?_ | refine blk_alloc ?_ _)); exact BK442.out) hb)
             have n3_ := Aside0.mk (below_step (by repeat (first | (with_reducible first | exact HB.out | apply below_alloc | apply pw_below_drewN | apply below_drew1 | refine below_set ?_ GE437.out | refine below_set ?_ GE438.out | refine below_set ?_ GE442.out) | exact HB.out)) hb)
             clear BK437
             clear BK438
             clear BK442
             clear HB
             have BK437 := n0_
             have BK438 := n1_
             have BK442 := n2_
             have HB := n3_
             clear n0_ n1_ n2_ n3_
             (try clear hb)
             (try clear hb2)
             (try clear hk)
             (try clear hi)
             refine hK.out _ _ ⟨(blk_cell BK438.out 0).trans rfl, ((HB.out.cell (World.block_lt_of_cell? w _ hw439_0)).trans hw439_0)⟩ (fun hHeld => ?_)
             clear hK K
             refine nmq_ (some 19) ?_
             refine pvq_ 6 (some 13) rfl rfl ?_ (any_of HT_.out (by kernel_rfl))
             refine pvq_ 7 (some 20) rfl rfl ?_ (any_of HT_.out (by kernel_rfl))
             refine pvq_ 8 (some 21) rfl rfl ?_ (any_of HT_.out (by kernel_rfl))
             exact norm_ (by simp only [putAll, Act.put, List.setIfInBounds_toArray, List.set_cons_zero, List.set_cons_succ]) (hCont (gb442) _ ⟨hHeld, (by (with_reducible repeat (first | refine blk_drewN ?_ _ | refine blk_drew ?_ | refine blk_alloc ?_ _)); exact BK437.out), (by (with_reducible repeat (first | refine blk_drewN ?_ _ | refine blk_drew ?_ | refine blk_alloc ?_ _)); exact BK438.out), (by (with_reducible repeat (first | refine blk_drewN ?_ _ | refine blk_drew ?_ | refine blk_alloc ?_ _)); exact BK442.out), GW442.out, GE442.out, NB437_442.out, NB442_437.out, NB438_442.out, NB442_438.out, (by repeat (first | (with_reducible first | exact HB.out | apply below_alloc | apply pw_below_drewN | apply below_drew1 | refine below_set ?_ GE437.out | refine below_set ?_ GE438.out | refine below_set ?_ GE442.out) | exact HB.out))⟩)
         rintro gb442 w11 ⟨hS_, h0_, h1_, h2_, h3_, h4_, h5_, h6_, h7_, h8_, h9_⟩
         have n0_ : Aside0 (w11.heap[gb437]? = some (.cells #[.int .u16 0] 78 (0, 0))) := ⟨h0_⟩
         have n1_ : Aside0 (w11.heap[gb438]? = some (.cells #[.int .u16 x439000_1] 78 (0, 0))) := ⟨h1_⟩
         have n2_ : Aside0 (w11.heap[gb442]? = some (.cells #[.int .u16 0] 78 (0, 0))) := ⟨h2_⟩
         have n3_ : Aside0 (w.heap.size ≤ gb442) := ⟨h3_⟩
         have n4_ : Aside0 (w.heap.size ≤ gb442) := ⟨h4_⟩
         have n5_ : Aside0 (gb437 ≠ gb442) := ⟨h5_⟩
         have n6_ : Aside0 (gb442 ≠ gb437) := ⟨h6_⟩
         have n7_ : Aside0 (gb438 ≠ gb442) := ⟨h7_⟩
         have n8_ : Aside0 (gb442 ≠ gb438) := ⟨h8_⟩
         have n9_ : Aside0 (Below w.heap.size w w11) := ⟨h9_⟩
         clear BK437
         clear BK438
         clear HB
         clear h0_ h1_ h2_ h3_ h4_ h5_ h6_ h7_ h8_ h9_
         have BK437 := n0_
         have BK438 := n1_
         have BK442 := n2_
         have GW442 := n3_
         have GE442 := n4_
         have NB437_442 := n5_
         have NB442_437 := n6_
         have NB438_442 := n7_
         have NB442_438 := n8_
         have HB := n9_
         clear n0_ n1_ n2_ n3_ n4_ n5_ n6_ n7_ n8_ n9_
         have hHeld : w11.cell? ⟨gb438, 0, none⟩ = some (.int .u16 x439000_1) ∧ w11.cell? (ad439.add (x4_1).toNat) = some (.int .i64 (rd l0 x4_1)) := hS_
         refine norm_ (a' := ?_) ?_ ?_
         rotate_left
         · simp only [putAll, Act.put, List.setIfInBounds_toArray, List.set_cons_zero, List.set_cons_succ]
           rfl
         refine onq_ 10 none rfl rfl (fun K hK => ?_) (one_of HT_.out (by kernel_rfl))
         have hs12 : w11.cell? ⟨gb442, 0, none⟩ = some (.int .u16 0) := (blk_cell BK442.out 0).trans rfl
         have hfs12 := blk_frozen BK442.out 0
         have hns12_0 := NB437_442.out
         have hns12_1 := NB438_442.out
         have hms12_0 := NB442_437.out
         have hms12_1 := NB442_438.out
         refine skip_ (w1 := ?_) (by rfl) rfl ?_ ?_
         rotate_left
         · go_simp
           rfl
         refine hK.out _ _ ⟨((cell_far (p := ⟨gb442, _, none⟩) NB438_442.out _).trans (hHeld.1)), ((cell_far (p := ⟨gb442, _, none⟩) (by first | exact Nat.ne_of_lt (Nat.lt_of_lt_of_le (by have := World.block_lt_of_cell? _ _ hw439_0; first | rwa [add_block] at this | exact this) GW442.out) | (rw [add_block]; exact Nat.ne_of_lt (Nat.lt_of_lt_of_le (by have := World.block_lt_of_cell? _ _ hw439_0; first | rwa [add_block] at this | exact this) GW442.out)) | (show (Addr.add _ _).block ≠ _; rw [add_block]; exact Nat.ne_of_lt (Nat.lt_of_lt_of_le (by have := World.block_lt_of_cell? _ _ hw439_0; first | rwa [add_block] at this | exact this) GW442.out)) | (dsimp only; exact Nat.ne_of_lt (Nat.lt_of_lt_of_le (by have := World.block_lt_of_cell? _ _ hw439_0; first | rwa [add_block] at this | exact this) GW442.out))) _).trans (hHeld.2))⟩ (fun hHeld => ?_)
         clear hK K
         refine pvq_ 11 (some 6) rfl rfl ?_ (any_of HT_.out (by kernel_rfl))
         refine done_ (done_of HT_.out (by kernel_rfl)) ?_
         have hnb13 := NB442_437.out
         have hnc13 := NB437_442.out
         have hnb14 := NB442_438.out
         have hnc14 := NB438_442.out
         have hcz15_0 : w11.cell? ⟨gb442, 0, none⟩ = some (.int .u16 0) := (blk_cell BK442.out 0).trans rfl
         have hfz15_0 := blk_frozen BK442.out 0
         have hnb16 := NB438_437.out
         have hnc16 := NB437_438.out
         have hcz17_0 : w11.cell? ⟨gb438, 0, none⟩ = some (.int .u16 x439000_1) := (blk_cell BK438.out 0).trans rfl
         have hfz17_0 := blk_frozen BK438.out 0
         try go_wp2
         go_roundg k1
         case measure => have := HK1.out; omega
         case rel => exact ⟨(wrap64 (x4_1 + 1)), (t440), (by first | rfl | (simp; done) | (simp [*]; done)), H', ⟨by have := HK1.out; omega⟩, ⟨by (with_reducible repeat (first | refine blk_drewN ?_ _ | refine blk_drew ?_ | refine blk_alloc ?_ _)); refine blk_far ?_ NB437_438.out _; (with_reducible repeat (first | refine blk_drewN ?_ _ | refine blk_drew ?_ | refine blk_alloc ?_ _)); refine blk_far ?_ NB437_442.out _; (with_reducible repeat (first | refine blk_drewN ?_ _ | refine blk_drew ?_ | refine blk_alloc ?_ _)); exact BK437.out⟩, ⟨by (with_reducible repeat (first | refine blk_drewN ?_ _ | refine blk_drew ?_ | refine blk_alloc ?_ _)); refine blk_put (cs := #[.int .u16 x439000_1]) ?_ 0 _ rfl; (with_reducible repeat (first | refine blk_drewN ?_ _ | refine blk_drew ?_ | refine blk_alloc ?_ _)); refine blk_far ?_ NB438_442.out _; (with_reducible repeat (first | refine blk_drewN ?_ _ | refine blk_drew ?_ | refine blk_alloc ?_ _)); exact BK438.out⟩, ⟨by repeat (first | (with_reducible first | exact HB.out | apply below_alloc | apply pw_below_drewN | apply below_drew1 | refine below_set ?_ GE437.out | refine below_set ?_ GE438.out | refine below_set ?_ GE442.out) | exact HB.out)⟩⟩
       · rw [if_neg c7] at H
         have c7b0 : (t441 == 0) = false := beq_eq_false_iff_ne.mpr c7
         have c7b1 : (t441 != 0) = true := bne_iff_ne.mpr c7
         have H' := Aside0.mk H
         clear H
         try go_wp2
         have n0_ := Aside0.mk (blk_drew BK437.out)
         have n1_ := Aside0.mk (blk_drew BK438.out)
         have n2_ := Aside0.mk (below_drew1 HB.out)
         clear BK437
         clear BK438
         clear HB
         have BK437 := n0_
         have BK438 := n1_
         have HB := n2_
         clear n0_ n1_ n2_
         have p439 : 0 ≤ (x4_1 : Int) := of_decide_eq_true (by first | (with_reducible assumption) | assumption)
         have q439 : x4_1 < (l0.length : Int) := of_decide_eq_true (by first | (with_reducible assumption) | assumption)
         obtain ⟨ad439, e439, hx439_0⟩ := Kd.at_int HR0.out x4_1 p439 q439
         have hw439_0 := hx439_0
         cases e439
         replace hx439_0 := (HB.out.cell (World.block_lt_of_cell? w _ hx439_0)).trans hx439_0
         replace p439 := eq_true p439
         replace q439 := eq_true q439
         refine start_ (n := 12) (S := fun w' => w'.cell? ⟨gb438, 0, none⟩ = some (.int .u16 x439000_1) ∧ w'.cell? (ad439.add (x4_1).toNat) = some (.int .i64 (rd l0 x4_1))) (ds := []) #[false, false, false, false, false, false, false, false, false, false, false, false] (by kernel_rfl) rfl rfl ⟨(blk_cell BK438.out 0).trans rfl, ((HB.out.cell (World.block_lt_of_cell? w _ hw439_0)).trans hw439_0)⟩ (fun hHeld => ?_); refine with_tabW perilunelaw07_pending.tab5 perilunelaw07_pending.bits5 (fun HT_ HW_ => ?_)
         generalize wr.drew = w18 at BK437 BK438 HB hx439_0 hHeld ⊢
         refine pvq_ 1 (some 15) rfl rfl ?_ (any_of HT_.out (by kernel_rfl))
         refine pvq_ 2 (some 16) rfl rfl ?_ (any_of HT_.out (by kernel_rfl))
         refine pvq_ 3 (some 17) rfl rfl ?_ (any_of HT_.out (by kernel_rfl))
         refine take_ (i := 0) (N := some 14) (v := ?_) (a' := ?_) #[true, true, true, true, false, false, false, false, false, false, false, false] rfl rfl (take_ofW HT_.out HW_.out (by kernel_rfl)) (fun _ _ _ h => h) (Or.inl ⟨by rfl, ?_⟩) hHeld ?_ ?_
         rotate_left
         · rintro w' ⟨s0, s1⟩
           go_simp
           with_reducible rfl
         rotate_left
         · simp only [Act.put, List.setIfInBounds_toArray, List.set_cons_zero, List.set_cons_succ, i64_w, i32_w]
           rfl
         refine take_ (i := 4) (N := some 18) (v := ?_) (a' := ?_) #[true, true, true, true, true, false, false, false, false, false, false, false] rfl rfl (take_ofW HT_.out HW_.out (by kernel_rfl)) (fun _ _ _ h => h) (Or.inl ⟨by rfl, ?_⟩) hHeld ?_ ?_
         rotate_left
         · rintro w' ⟨s0, s1⟩
           go_simp
           with_reducible rfl
         rotate_left
         · simp only [Act.put, List.setIfInBounds_toArray, List.set_cons_zero, List.set_cons_succ, i64_w, i32_w]
           rfl
         refine join_ (σ := Nat) 2 #[true, true, true, true, true, true, true, true, true, true, false, false] (fun s_ => [(19, .tuple #[.agg #[.int .u16 t440], .int .i64 t441]), (5, .pointer (some ⟨s_, 0, none⟩)), (13, .tuple #[.agg #[.int .u16 t440], .int .i64 t441]), (20, .agg #[.int .u16 t440]), (21, .int .i64 t441)]) (fun s_ w' => (w'.cell? ⟨gb438, 0, none⟩ = some (.int .u16 x439000_1) ∧ w'.cell? (ad439.add (x4_1).toNat) = some (.int .i64 (rd l0 x4_1))) ∧ (w'.heap[gb437]? = some (.cells #[.int .u16 0] 78 (0, 0))) ∧ (w'.heap[gb438]? = some (.cells #[.int .u16 x439000_1] 78 (0, 0))) ∧ (w'.heap[s_]? = some (.cells #[.int .u16 0] 78 (0, 0))) ∧ (w.heap.size ≤ s_) ∧ (w.heap.size ≤ s_) ∧ (gb437 ≠ s_) ∧ (s_ ≠ gb437) ∧ (gb438 ≠ s_) ∧ (s_ ≠ gb438) ∧ (Below w.heap.size w w')) ?_ ?_
         rotate_left
         · intro hCont
           refine two_ (i := 5) (j := 9) (Ni := some 19) (Nj := some 5) #[true, true, true, true, true, true, false, false, false, false, false, false] #[true, true, true, true, true, false, false, false, false, true, false, false] rfl rfl rfl rfl (two_of HT_.out (by kernel_rfl)) (by decide) (by decide) (fun K hK => ?_) (fun K hK => ?_)
           · skip
             refine goes_ Tryz.func154 (by kernel_rfl) rfl #[.agg #[.int .u16 x439000_1], .int .i64 (rd l0 x4_1)] (by rfl) rfl rfl (by (try simp only [List.map_toArray, List.map_cons, List.map_nil]); first | done | rfl | (simp only [List.length_drop, List.length_take]; rfl)) ?_
             with_reducible refine (interrupt_Request.calls x439000_1 (rd l0 x4_1) t440 t441 _ A6.out).mono ?_
             rintro e w19 ⟨rfl, hb⟩
             refine ⟨_, rfl, ?_⟩
             have n0_ := Aside0.mk (blk_below (g := gb437) (o := .cells #[.int .u16 0] 78 (0, 0)) (by (with_reducible repeat (first | refine blk_drewN ?_ _ | refine blk_drew ?_ | refine blk_alloc ?_ _)); exact BK437.out) hb)
             have n1_ := Aside0.mk (blk_below (g := gb438) (o := .cells #[.int .u16 x439000_1] 78 (0, 0)) (by (with_reducible repeat (first | refine blk_drewN ?_ _ | refine blk_drew ?_ | refine blk_alloc ?_ _)); exact BK438.out) hb)
             have n2_ := Aside0.mk (below_step (by repeat (first | (with_reducible first | exact HB.out | apply below_alloc | apply pw_below_drewN | apply below_drew1 | refine below_set ?_ GE437.out | refine below_set ?_ GE438.out) | exact HB.out)) hb)
             clear BK437
             clear BK438
             clear HB
             have BK437 := n0_
             have BK438 := n1_
             have HB := n2_
             clear n0_ n1_ n2_
             (try clear hb)
             (try clear hb2)
             (try clear hk)
             (try clear hi)
             refine hK.out _ _ ⟨(blk_cell BK438.out 0).trans rfl, ((HB.out.cell (World.block_lt_of_cell? w _ hw439_0)).trans hw439_0)⟩ (fun hHeld => ?_)
             clear hK K
             refine nmq_ (some 19) ?_
             refine pvq_ 6 (some 13) rfl rfl ?_ (any_of HT_.out (by kernel_rfl))
             refine pvq_ 7 (some 20) rfl rfl ?_ (any_of HT_.out (by kernel_rfl))
             refine pvq_ 8 (some 21) rfl rfl ?_ (any_of HT_.out (by kernel_rfl))
             refine onq_ 9 (some 5) rfl rfl (fun K hK => ?_) (one_of HT_.out (by kernel_rfl))
             refine box_step ?hg (N := 5) ?hd (cs := #[.int .u16 0]) (t := 78) ?hr ?_; (case hd => rfl); (case hg => rfl); (case hr => first | (go_simp; done) | (go_simp; rfl))
             intro gb442 hg w20 hbox hb
             have n0_ := Aside0.mk (blk_below (g := gb437) (o := .cells #[.int .u16 0] 78 (0, 0)) (by (with_reducible repeat (first | refine blk_drewN ?_ _ | refine blk_drew ?_ | refine blk_alloc ?_ _)); exact BK437.out) hb)
             have n1_ := Aside0.mk (blk_below (g := gb438) (o := .cells #[.int .u16 x439000_1] 78 (0, 0)) (by (with_reducible repeat (first | refine blk_drewN ?_ _ | refine blk_drew ?_ | refine blk_alloc ?_ _)); exact BK438.out) hb)
             have n2_ := Aside0.mk (below_step (by repeat (first | (with_reducible first | exact HB.out | apply below_alloc | apply pw_below_drewN | apply below_drew1 | refine below_set ?_ GE437.out | refine below_set ?_ GE438.out) | exact HB.out)) hb)
             have n3_ := Aside0.mk (hbox)
             have n4_ := Aside0.mk ((by rw [hg]; exact (below_size (by repeat (first | (with_reducible first | exact HB.out | apply below_alloc | apply pw_below_drewN | apply below_drew1 | refine below_set ?_ GE437.out | refine below_set ?_ GE438.out) | exact HB.out))) : w.heap.size ≤ gb442))
             have n5_ := Aside0.mk ((by rw [hg]; exact (below_size (by repeat (first | (with_reducible first | exact HB.out | apply below_alloc | apply pw_below_drewN | apply below_drew1 | refine below_set ?_ GE437.out | refine below_set ?_ GE438.out) | exact HB.out))) : w.heap.size ≤ gb442))
             have n6_ := Aside0.mk ((by rw [hg]; exact Nat.ne_of_lt (blk_lt (g := gb437) (o := .cells #[.int .u16 0] 78 (0, 0)) (by (with_reducible repeat (first | refine blk_drewN ?_ _ | refine blk_drew ?_ | refine blk_alloc ?_ _)); exact BK437.out)) : gb437 ≠ gb442))
             have n7_ := Aside0.mk ((by rw [hg]; exact Nat.ne_of_gt (blk_lt (g := gb437) (o := .cells #[.int .u16 0] 78 (0, 0)) (by (with_reducible repeat (first | refine blk_drewN ?_ _ | refine blk_drew ?_ | refine blk_alloc ?_ _)); exact BK437.out)) : gb442 ≠ gb437))
             have n8_ := Aside0.mk ((by rw [hg]; exact Nat.ne_of_lt (blk_lt (g := gb438) (o := .cells #[.int .u16 x439000_1] 78 (0, 0)) (by (with_reducible repeat (first | refine blk_drewN ?_ _ | refine blk_drew ?_ | refine blk_alloc ?_ _)); exact BK438.out)) : gb438 ≠ gb442))
             have n9_ := Aside0.mk ((by rw [hg]; exact Nat.ne_of_gt (blk_lt (g := gb438) (o := .cells #[.int .u16 x439000_1] 78 (0, 0)) (by (with_reducible repeat (first | refine blk_drewN ?_ _ | refine blk_drew ?_ | refine blk_alloc ?_ _)); exact BK438.out)) : gb442 ≠ gb438))
             clear BK437
             clear BK438
             clear HB
             have BK437 := n0_
             have BK438 := n1_
             have HB := n2_
             have BK442 := n3_
             have GW442 := n4_
             have GE442 := n5_
             have NB437_442 := n6_
             have NB442_437 := n7_
             have NB438_442 := n8_
             have NB442_438 := n9_
             clear n0_ n1_ n2_ n3_ n4_ n5_ n6_ n7_ n8_ n9_
             clear hb hbox hg
             refine hK.out _ _ ⟨(blk_cell BK438.out 0).trans rfl, ((HB.out.cell (World.block_lt_of_cell? w _ hw439_0)).trans hw439_0)⟩ (fun hHeld => ?_)
             clear hK K
             refine nmq_ (some 5) ?_
             exact norm_ (by simp only [putAll, Act.put, List.setIfInBounds_toArray, List.set_cons_zero, List.set_cons_succ]) (hCont (gb442) _ ⟨hHeld, (by (with_reducible repeat (first | refine blk_drewN ?_ _ | refine blk_drew ?_ | refine blk_alloc ?_ _)); exact BK437.out), (by (with_reducible repeat (first | refine blk_drewN ?_ _ | refine blk_drew ?_ | refine blk_alloc ?_ _)); exact BK438.out), (by (with_reducible repeat (first | refine blk_drewN ?_ _ | refine blk_drew ?_ | refine blk_alloc ?_ _)); exact BK442.out), GW442.out, GE442.out, NB437_442.out, NB442_437.out, NB438_442.out, NB442_438.out, (by repeat (first | (with_reducible first | exact HB.out | apply below_alloc | apply pw_below_drewN | apply below_drew1 | refine below_set ?_ GE437.out | refine below_set ?_ GE438.out | refine below_set ?_ GE442.out) | exact HB.out))⟩)
           · skip
             refine box_step ?hg (N := 5) ?hd (cs := #[.int .u16 0]) (t := 78) ?hr ?_; (case hd => rfl); (case hg => rfl); (case hr => first | (go_simp; done) | (go_simp; rfl))
             intro gb442 hg w19 hbox hb
             have n0_ := Aside0.mk (blk_below (g := gb437) (o := .cells #[.int .u16 0] 78 (0, 0)) (by (with_reducible repeat (first | refine blk_drewN ?_ _ | refine blk_drew ?_ | refine blk_alloc ?_ _)); exact BK437.out) hb)
             have n1_ := Aside0.mk (blk_below (g := gb438) (o := .cells #[.int .u16 x439000_1] 78 (0, 0)) (by (with_reducible repeat (first | refine blk_drewN ?_ _ | refine blk_drew ?_ | refine blk_alloc ?_ _)); exact BK438.out) hb)
             have n2_ := Aside0.mk (below_step (by repeat (first | (with_reducible first | exact HB.out | apply below_alloc | apply pw_below_drewN | apply below_drew1 | refine below_set ?_ GE437.out | refine below_set ?_ GE438.out) | exact HB.out)) hb)
             have n3_ := Aside0.mk (hbox)
             have n4_ := Aside0.mk ((by rw [hg]; exact (below_size (by repeat (first | (with_reducible first | exact HB.out | apply below_alloc | apply pw_below_drewN | apply below_drew1 | refine below_set ?_ GE437.out | refine below_set ?_ GE438.out) | exact HB.out))) : w.heap.size ≤ gb442))
             have n5_ := Aside0.mk ((by rw [hg]; exact (below_size (by repeat (first | (with_reducible first | exact HB.out | apply below_alloc | apply pw_below_drewN | apply below_drew1 | refine below_set ?_ GE437.out | refine below_set ?_ GE438.out) | exact HB.out))) : w.heap.size ≤ gb442))
             have n6_ := Aside0.mk ((by rw [hg]; exact Nat.ne_of_lt (blk_lt (g := gb437) (o := .cells #[.int .u16 0] 78 (0, 0)) (by (with_reducible repeat (first | refine blk_drewN ?_ _ | refine blk_drew ?_ | refine blk_alloc ?_ _)); exact BK437.out)) : gb437 ≠ gb442))
             have n7_ := Aside0.mk ((by rw [hg]; exact Nat.ne_of_gt (blk_lt (g := gb437) (o := .cells #[.int .u16 0] 78 (0, 0)) (by (with_reducible repeat (first | refine blk_drewN ?_ _ | refine blk_drew ?_ | refine blk_alloc ?_ _)); exact BK437.out)) : gb442 ≠ gb437))
             have n8_ := Aside0.mk ((by rw [hg]; exact Nat.ne_of_lt (blk_lt (g := gb438) (o := .cells #[.int .u16 x439000_1] 78 (0, 0)) (by (with_reducible repeat (first | refine blk_drewN ?_ _ | refine blk_drew ?_ | refine blk_alloc ?_ _)); exact BK438.out)) : gb438 ≠ gb442))
             have n9_ := Aside0.mk ((by rw [hg]; exact Nat.ne_of_gt (blk_lt (g := gb438) (o := .cells #[.int .u16 x439000_1] 78 (0, 0)) (by (with_reducible repeat (first | refine blk_drewN ?_ _ | refine blk_drew ?_ | refine blk_alloc ?_ _)); exact BK438.out)) : gb442 ≠ gb438))
             clear BK437
             clear BK438
             clear HB
             have BK437 := n0_
             have BK438 := n1_
             have HB := n2_
             have BK442 := n3_
             have GW442 := n4_
             have GE442 := n5_
             have NB437_442 := n6_
             have NB442_437 := n7_
             have NB438_442 := n8_
             have NB442_438 := n9_
             clear n0_ n1_ n2_ n3_ n4_ n5_ n6_ n7_ n8_ n9_
             clear hb hbox hg
             refine hK.out _ _ ⟨(blk_cell BK438.out 0).trans rfl, ((HB.out.cell (World.block_lt_of_cell? w _ hw439_0)).trans hw439_0)⟩ (fun hHeld => ?_)
             clear hK K
             refine nmq_ (some 5) ?_
             refine onq_ 5 (some 19) rfl rfl (fun K hK => ?_) (one_of HT_.out (by kernel_rfl))
             refine goes_ Tryz.func154 (by kernel_rfl) rfl #[.agg #[.int .u16 x439000_1], .int .i64 (rd l0 x4_1)] (by rfl) rfl rfl (by (try simp only [List.map_toArray, List.map_cons, List.map_nil]); first | done | rfl | (simp only [List.length_drop, List.length_take]; rfl)) ?_
             with_reducible refine (interrupt_Request.calls x439000_1 (rd l0 x4_1) t440 t441 _ A6.out).mono ?_
             rintro e w20 ⟨rfl, hb⟩
             refine ⟨_, rfl, ?_⟩
             have n0_ := Aside0.mk (blk_below (g := gb437) (o := .cells #[.int .u16 0] 78 (0, 0)) (by (with_reducible repeat (first | refine blk_drewN ?_ _ | refine blk_drew ?_ | refine blk_alloc ?_ _)); exact BK437.out) hb)
             have n1_ := Aside0.mk (blk_below (g := gb438) (o := .cells #[.int .u16 x439000_1] 78 (0, 0)) (by (with_reducible repeat (first | refine blk_drewN ?_ _ | refine blk_drew ?_ | refine blk_alloc ?_ _)); exact BK438.out) hb)
             have n2_ := Aside0.mk (blk_below (g := gb442) (o := .cells #[.int .u16 0] 78 (0, 0)) (by (with_reducible repeat (first | refine blk_drewN ?_ _ | refine blk_drew ?_ | refine blk_alloc ?_ _)); exact BK442.out) hb)
             have n3_ := Aside0.mk (below_step (by repeat (first | (with_reducible first | exact HB.out | apply below_alloc | apply pw_below_drewN | apply below_drew1 | refine below_set ?_ GE437.out | refine below_set ?_ GE438.out | refine below_set ?_ GE442.out) | exact HB.out)) hb)
             clear BK437
             clear BK438
             clear BK442
             clear HB
             have BK437 := n0_
             have BK438 := n1_
             have BK442 := n2_
             have HB := n3_
             clear n0_ n1_ n2_ n3_
             (try clear hb)
             (try clear hb2)
             (try clear hk)
             (try clear hi)
             refine hK.out _ _ ⟨(blk_cell BK438.out 0).trans rfl, ((HB.out.cell (World.block_lt_of_cell? w _ hw439_0)).trans hw439_0)⟩ (fun hHeld => ?_)
             clear hK K
             refine nmq_ (some 19) ?_
             refine pvq_ 6 (some 13) rfl rfl ?_ (any_of HT_.out (by kernel_rfl))
             refine pvq_ 7 (some 20) rfl rfl ?_ (any_of HT_.out (by kernel_rfl))
             refine pvq_ 8 (some 21) rfl rfl ?_ (any_of HT_.out (by kernel_rfl))
             exact norm_ (by simp only [putAll, Act.put, List.setIfInBounds_toArray, List.set_cons_zero, List.set_cons_succ]) (hCont (gb442) _ ⟨hHeld, (by (with_reducible repeat (first | refine blk_drewN ?_ _ | refine blk_drew ?_ | refine blk_alloc ?_ _)); exact BK437.out), (by (with_reducible repeat (first | refine blk_drewN ?_ _ | refine blk_drew ?_ | refine blk_alloc ?_ _)); exact BK438.out), (by (with_reducible repeat (first | refine blk_drewN ?_ _ | refine blk_drew ?_ | refine blk_alloc ?_ _)); exact BK442.out), GW442.out, GE442.out, NB437_442.out, NB442_437.out, NB438_442.out, NB442_438.out, (by repeat (first | (with_reducible first | exact HB.out | apply below_alloc | apply pw_below_drewN | apply below_drew1 | refine below_set ?_ GE437.out | refine below_set ?_ GE438.out | refine below_set ?_ GE442.out) | exact HB.out))⟩)
         rintro gb442 w21 ⟨hS_, h0_, h1_, h2_, h3_, h4_, h5_, h6_, h7_, h8_, h9_⟩
         have n0_ : Aside0 (w21.heap[gb437]? = some (.cells #[.int .u16 0] 78 (0, 0))) := ⟨h0_⟩
         have n1_ : Aside0 (w21.heap[gb438]? = some (.cells #[.int .u16 x439000_1] 78 (0, 0))) := ⟨h1_⟩
         have n2_ : Aside0 (w21.heap[gb442]? = some (.cells #[.int .u16 0] 78 (0, 0))) := ⟨h2_⟩
         have n3_ : Aside0 (w.heap.size ≤ gb442) := ⟨h3_⟩
         have n4_ : Aside0 (w.heap.size ≤ gb442) := ⟨h4_⟩
         have n5_ : Aside0 (gb437 ≠ gb442) := ⟨h5_⟩
         have n6_ : Aside0 (gb442 ≠ gb437) := ⟨h6_⟩
         have n7_ : Aside0 (gb438 ≠ gb442) := ⟨h7_⟩
         have n8_ : Aside0 (gb442 ≠ gb438) := ⟨h8_⟩
         have n9_ : Aside0 (Below w.heap.size w w21) := ⟨h9_⟩
         clear BK437
         clear BK438
         clear HB
         clear h0_ h1_ h2_ h3_ h4_ h5_ h6_ h7_ h8_ h9_
         have BK437 := n0_
         have BK438 := n1_
         have BK442 := n2_
         have GW442 := n3_
         have GE442 := n4_
         have NB437_442 := n5_
         have NB442_437 := n6_
         have NB438_442 := n7_
         have NB442_438 := n8_
         have HB := n9_
         clear n0_ n1_ n2_ n3_ n4_ n5_ n6_ n7_ n8_ n9_
         have hHeld : w21.cell? ⟨gb438, 0, none⟩ = some (.int .u16 x439000_1) ∧ w21.cell? (ad439.add (x4_1).toNat) = some (.int .i64 (rd l0 x4_1)) := hS_
         refine norm_ (a' := ?_) ?_ ?_
         rotate_left
         · simp only [putAll, Act.put, List.setIfInBounds_toArray, List.set_cons_zero, List.set_cons_succ]
           rfl
         refine onq_ 10 none rfl rfl (fun K hK => ?_) (one_of HT_.out (by kernel_rfl))
         have hs22 : w21.cell? ⟨gb442, 0, none⟩ = some (.int .u16 0) := (blk_cell BK442.out 0).trans rfl
         have hfs22 := blk_frozen BK442.out 0
         have hns22_0 := NB437_442.out
         have hns22_1 := NB438_442.out
         have hms22_0 := NB442_437.out
         have hms22_1 := NB442_438.out
         refine skip_ (w1 := ?_) (by rfl) rfl ?_ ?_
         rotate_left
         · go_simp
           rfl
         refine hK.out _ _ ⟨((cell_far (p := ⟨gb442, _, none⟩) NB438_442.out _).trans (hHeld.1)), ((cell_far (p := ⟨gb442, _, none⟩) (by first | exact Nat.ne_of_lt (Nat.lt_of_lt_of_le (by have := World.block_lt_of_cell? _ _ hw439_0; first | rwa [add_block] at this | exact this) GW442.out) | (rw [add_block]; exact Nat.ne_of_lt (Nat.lt_of_lt_of_le (by have := World.block_lt_of_cell? _ _ hw439_0; first | rwa [add_block] at this | exact this) GW442.out)) | (show (Addr.add _ _).block ≠ _; rw [add_block]; exact Nat.ne_of_lt (Nat.lt_of_lt_of_le (by have := World.block_lt_of_cell? _ _ hw439_0; first | rwa [add_block] at this | exact this) GW442.out)) | (dsimp only; exact Nat.ne_of_lt (Nat.lt_of_lt_of_le (by have := World.block_lt_of_cell? _ _ hw439_0; first | rwa [add_block] at this | exact this) GW442.out))) _).trans (hHeld.2))⟩ (fun hHeld => ?_)
         clear hK K
         refine pvq_ 11 (some 6) rfl rfl ?_ (any_of HT_.out (by kernel_rfl))
         refine done_ (done_of HT_.out (by kernel_rfl)) ?_
         try go_wp2
         go_roundg k1
         case measure => have := HK1.out; omega
         case rel => exact ⟨(wrap64 (x4_1 + 1)), (x439000_1), (by first | rfl | (simp; done) | (simp [*]; done)), H', ⟨by have := HK1.out; omega⟩, ⟨by (with_reducible repeat (first | refine blk_drewN ?_ _ | refine blk_drew ?_ | refine blk_alloc ?_ _)); refine blk_far ?_ NB437_442.out _; (with_reducible repeat (first | refine blk_drewN ?_ _ | refine blk_drew ?_ | refine blk_alloc ?_ _)); exact BK437.out⟩, ⟨by (with_reducible repeat (first | refine blk_drewN ?_ _ | refine blk_drew ?_ | refine blk_alloc ?_ _)); refine blk_far ?_ NB438_442.out _; (with_reducible repeat (first | refine blk_drewN ?_ _ | refine blk_drew ?_ | refine blk_alloc ?_ _)); exact BK438.out⟩, ⟨by repeat (first | (with_reducible first | exact HB.out | apply below_alloc | apply pw_below_drewN | apply below_drew1 | refine below_set ?_ GE437.out | refine below_set ?_ GE438.out | refine below_set ?_ GE442.out) | exact HB.out)⟩⟩
     · rw [if_neg c5] at H
       exact absurd H (by simp)
   · rw [if_neg c4] at H
     have c4b0 : decide (x4_1 < (l0.length : Int)) = false := decide_eq_false c4
     clear c4
     obtain rfl := Option.some.inj H
     have hnb23 := NB438_437.out
     have hnc23 := NB437_438.out
     have hcz24_0 : wr.cell? ⟨gb438, 0, none⟩ = some (.int .u16 x439000_1) := (blk_cell BK438.out 0).trans rfl
     have hfz24_0 := blk_frozen BK438.out 0
     have hcz25_0 : wr.cell? ⟨gb437, 0, none⟩ = some (.int .u16 0) := (blk_cell BK437.out 0).trans rfl
     have hfz25_0 := blk_frozen BK437.out 0
     go_wp2
     refine bodyPost_ret (results_cell_row rfl _ _ gb437 78 #[.int .u16 x439000_1] (0, 0) _ rfl (by (with_reducible repeat (first | refine blk_drewN ?_ _ | refine blk_drew ?_ | refine blk_alloc ?_ _)); refine blk_put (cs := #[.int .u16 0]) ?_ 0 _ rfl; (with_reducible repeat (first | refine blk_drewN ?_ _ | refine blk_drew ?_ | refine blk_alloc ?_ _)); exact BK437.out) Tryz.underlying78 rfl (by kernel_rfl)) rfl ?_
     exact ⟨by first | rfl | (simp [errW_none, errW_some] <;> rfl) | (simp [*, errW_none, errW_some] <;> rfl), by repeat (first | (with_reducible first | exact HB.out | apply below_alloc | apply pw_below_drewN | apply below_drew1 | refine below_set ?_ GE437.out | refine below_set ?_ GE438.out) | exact HB.out)⟩
end Go.Proofs.YthfobpkdloejfaaGreat.PAll
end
