/- Chapter 5: a part of its proof (cut by program out of One); no condition. -/
import Derived.Laws.EntriesVeiled
import Derived.Lib.Hide
import Derived.Test.YtgbmaajfbbilhaaGreatKn10
import Derived.Test.YtgbmaajfbbilhaaGreatKn11
set_option linter.unusedVariables false
set_option linter.unusedSimpArgs false
set_option linter.unusedSectionVars false
set_option maxRecDepth 100000
set_option maxHeartbeats 8000000
section
namespace Go.Proofs.YtgbmaajfbbilhaaGreat.One
open Go.RowKit Go.Proofs.YtgbmaajfbbilhaaGreat.PAll Go.Proofs.YtgbmaajfbbilhaaGreatW.PrintWords Go.Proofs.YtgbmaajfbbilhaaGreatW.PrintLast Go.Proofs.YtgbmaajfbbilhaaGreatW.PrintMore Go.Proofs.YtgbmaajfbbilhaaGreat.Plain
def valI (x : Int) : Int := if x % 32768 > 16383 then x % 32768 - 32767 else x % 32768
def negI (x : Int) : Int := 32767 - x % 32768
def addI (a b : Int) : Int := if a % 32768 + b % 32768 > 32767 then a % 32768 + b % 32768 - 32767 else a % 32768 + b % 32768
def extI (x : Int) : Int := if x % 32768 > 16383 then x % 32768 + 32768 else x % 32768
def addAccI (a b : Int) : Int := if a + b > 65535 then a + b - 65535 else a + b
def negAccI (a : Int) : Int := 65535 - a
def corI (a : Int) : Int := a / 32768 * 16384 + a % 16384
def clsI (a : Int) : Int := if a = 0 then 1 else if a = 65535 then 3 else if a ≤ 32767 then 0 else 2
def dimI (a : Int) : Int := if a ≤ 32767 then (if a = 0 then 0 else a - 1) else (if a = 65535 then 0 else 65534 - a)
def crI (x : Int) : Int := x % 2 * 16384 + x % 32768 / 2
def clI (x : Int) : Int := x % 16384 * 2 + x % 32768 / 16384
def srI (x : Int) : Int := x % 32768 / 16384 * 16384 + x % 32768 / 2
def opI (x : Int) : Int := x % 32768 / 128 % 128
def editI (k x : Int) : Int := if k = 16 then crI x else if k = 17 then srI x else if k = 18 then clI x else if k = 19 then opI x else x % 32768
def tdI (a b : Int) : Int := if (a % 32768 - b % 32768 + 32768) % 32768 ≤ 16384 then (a % 32768 - b % 32768 + 32768) % 32768 else (a % 32768 - b % 32768 + 32768) % 32768 - 1
section
variable (x y : Int) (h0 : 0 ≤ x) (h1 : x < 65536) (k0 : 0 ≤ y) (k1 : y < 65536) (w : World)
include h0 h1
theorem value_f : onescomp_Value.f x = some (valI x) := by
 unfold onescomp_Value.f valI
 have a : 0 ≤ x % 32768 ∧ x % 32768 < 32768 := by omega
 rw [and_32767 h0 h1, and_16384 (x := x % 32768) (by omega) (by omega), u16w (n := 32767 - x % 32768) (by omega) (by omega)]
 by_cases c : x % 32768 > 16383
 · rw [if_neg (by omega), if_pos c, w64 (n := 32767 - x % 32768) (by omega) (by omega), w64 (by omega) (by omega)]; congr 1; omega
 · rw [if_pos (by omega), if_neg c, w64 (by omega) (by omega)]
theorem value_c : Calls Tryz.prog 69 #[.int .u16 x] w fun e w' => e = .returned (.int .i64 (valI x)) ∧ Drawn0 w w' := onescomp_Value.calls _ _ w (value_f x h0 h1)
theorem neg_c : Calls Tryz.prog 70 #[.int .u16 x] w fun e w' => e = .returned (.int .u16 (negI x)) ∧ Drawn0 w w' := by
 have hs : IntKind.u16.signed = false := rfl
 have hn := not16 h0 h1
 have hm : Go.bits .and .u16 (65535 - x) 32767 = negI x := by rw [and_32767 (by omega) (by omega)]; unfold negI; omega
 go_enter Tryz.func70, Tryz.ntmps70
 go_wp2
 go_ret
 exact ⟨by simp, Drawn0.refl _⟩
theorem ext_f : onescomp_Extend.f x = some (extI x) := by
 unfold onescomp_Extend.f extI
 have a : 0 ≤ x % 32768 ∧ x % 32768 < 32768 := by omega
 rw [and_32767 h0 h1, and_16384 (x := x % 32768) (by omega) (by omega), u16w (by omega) (by omega)]
 by_cases c : x % 32768 > 16383
 · rw [if_pos c, or_low 15 (by omega) (by omega) (by omega) (by omega) (by omega) (by omega)]; congr 1; omega
 · rw [if_neg c, or_low 15 (by omega) (by omega) (by omega) (by omega) (by omega) (by omega)]; congr 1; omega
theorem ext_c : Calls Tryz.prog 186 #[.int .u16 x] w fun e w' => e = .returned (.int .u16 (extI x)) ∧ Drawn0 w w' := onescomp_Extend.calls _ _ w (ext_f x h0 h1)
theorem negAcc_c : Calls Tryz.prog 120 #[.int .u16 x] w fun e w' => e = .returned (.int .u16 (negAccI x)) ∧ Drawn0 w w' := by
 have hs : IntKind.u16.signed = false := rfl
 have hn : Go.bits .xor .u16 IntKind.u16.max x = negAccI x := not16 h0 h1
 go_enter Tryz.func120, Tryz.ntmps120
 go_wp2
 go_ret
 exact ⟨by simp, Drawn0.refl _⟩
theorem cor_c : Calls Tryz.prog 93 #[.int .u16 x] w fun e w' => e = .returned (.int .u16 (corI x)) ∧ Drawn0 w w' := by
 refine onescomp_Correct.calls _ _ w ?_
 unfold onescomp_Correct.f corI
 rw [and_16383 h0 h1, u16w (by omega) (by omega), or_high 14 (by omega) (by omega) (by omega) (by omega) (by omega) (by omega)]
theorem cls_c : Calls Tryz.prog 213 #[.int .u16 x] w fun e w' => e = .returned (.int .i64 (clsI x)) ∧ Drawn0 w w' := by
 have hs : IntKind.u16.signed = false := rfl
 have hn := not16 h0 h1
 unfold clsI
 by_cases c : x = 0
 · subst c
   rw [if_pos rfl]
   clear hn hs
   go_enter Tryz.func213, Tryz.ntmps213
   go_wp2
   go_ret
   exact ⟨rfl, Drawn0.refl _⟩
 · rw [if_neg c]
   have b0 : (x == 0) = false := beq_eq_false_iff_ne.mpr c
   by_cases d : x = 65535
   · rw [if_pos d]
     have b1 : (65535 - x == 0) = true := by rw [beq_iff_eq]; omega
     clear c d
     go_enter Tryz.func213, Tryz.ntmps213
     go_wp2
     go_ret
     exact ⟨rfl, Drawn0.refl _⟩
   · rw [if_neg d]
     have b1 : (65535 - x == 0) = false := by rw [beq_eq_false_iff_ne]; omega
     by_cases e : x ≤ 32767
     · rw [if_pos e]
       have b2 : (x / 32768 == 0) = true := by rw [beq_iff_eq]; omega
       clear c d
       go_enter Tryz.func213, Tryz.ntmps213
       go_wp2
       go_ret
       exact ⟨rfl, Drawn0.refl _⟩
     · rw [if_neg e]
       have b2 : (x / 32768 == 0) = false := by rw [beq_eq_false_iff_ne]; omega
       clear c d
       go_enter Tryz.func213, Tryz.ntmps213
       go_wp2
       go_ret
       exact ⟨rfl, Drawn0.refl _⟩
theorem dim_c : Calls Tryz.prog 211 #[.int .u16 x] w fun e w' => e = .returned (.int .u16 (dimI x)) ∧ Drawn0 w w' := by
 have hs : IntKind.u16.signed = false := rfl
 have hn := not16 h0 h1
 by_cases e : x ≤ 32767
 · have b2 : (x / 32768 == 0) = true := by rw [beq_iff_eq]; omega
   have b3 : (x / 32768 != 0) = false := by rw [bne_eq_false_iff_eq]; omega
   by_cases c : x = 0
   · subst c
     have hd : dimI 0 = 0 := rfl
     rw [hd]
     clear hn hs b2 b3 hd
     go_enter Tryz.func211, Tryz.ntmps211
     go_wp2
     go_ret
     exact ⟨rfl, Drawn0.refl _⟩
   · have hd : dimI x = x - 1 := by unfold dimI; rw [if_pos e, if_neg c]
     rw [hd]
     have u : IntKind.u16.wrap (x - 1) = x - 1 := u16w (by omega) (by omega)
     have b4 : decide (0 < x) = true := decide_eq_true (by omega)
     clear c
     go_enter Tryz.func211, Tryz.ntmps211
     go_wp2
     go_ret
     exact ⟨by simp [*], Drawn0.refl _⟩
 · have b2 : (x / 32768 == 0) = false := by rw [beq_eq_false_iff_ne]; omega
   have b3 : (x / 32768 != 0) = true := by rw [bne_iff_ne]; omega
   by_cases c : x = 65535
   · subst c
     have hd : dimI 65535 = 0 := rfl
     rw [hd]
     have b4 : decide ((0 : Int) < 65535 - 65535) = false := by decide
     clear hd e
     go_enter Tryz.func211, Tryz.ntmps211
     go_wp2
     go_ret
     exact ⟨rfl, Drawn0.refl _⟩
   · have hd : dimI x = 65534 - x := by unfold dimI; rw [if_neg e, if_neg c]
     rw [hd]
     have u : IntKind.u16.wrap (65535 - x - 1) = 65534 - x := by rw [u16w (by omega) (by omega)]; omega
     have b4 : decide (x < 65535) = true := decide_eq_true (by omega)
     clear c
     go_enter Tryz.func211, Tryz.ntmps211
     go_wp2
     go_ret
     exact ⟨by simp [*], Drawn0.refl _⟩
theorem cr_c : Calls Tryz.prog 280 #[.int .u16 x] w fun e w' => e = .returned (.int .u16 (crI x)) ∧ Drawn0 w w' := by
 refine onescomp_CycleRight.calls _ _ w ?_
 unfold onescomp_CycleRight.f crI
 rw [and_32767 h0 h1, and_1 (x := x % 32768) (by omega) (by omega), u16w (by omega) (by omega), or_low 14 (by omega) (by omega) (by omega) (by omega) (by omega) (by omega)]
 congr 1; omega
theorem cl_c : Calls Tryz.prog 282 #[.int .u16 x] w fun e w' => e = .returned (.int .u16 (clI x)) ∧ Drawn0 w w' := by
 refine onescomp_CycleLeft.calls _ _ w ?_
 unfold onescomp_CycleLeft.f clI
 rw [and_32767 h0 h1, u16w (n := x % 32768 * 2) (by omega) (by omega), and_32767 (x := x % 32768 * 2) (by omega) (by omega), or_high 1 (by omega) (by omega) (by omega) (by omega) (by omega) (by omega)]
 congr 1; omega
theorem sr_c : Calls Tryz.prog 281 #[.int .u16 x] w fun e w' => e = .returned (.int .u16 (srI x)) ∧ Drawn0 w w' := by
 refine onescomp_ShiftRight.calls _ _ w ?_
 unfold onescomp_ShiftRight.f srI
 rw [and_32767 h0 h1, and_16384 (x := x % 32768) (by omega) (by omega), or_low 14 (by omega) (by omega) (by omega) (by omega) (by omega) (by omega)]
 congr 1; omega
theorem op_c : Calls Tryz.prog 283 #[.int .u16 x] w fun e w' => e = .returned (.int .u16 (opI x)) ∧ Drawn0 w w' := by
 refine onescomp_Opcode.calls _ _ w ?_
 unfold onescomp_Opcode.f opI
 rw [and_32767 h0 h1, and_127 (x := x % 32768 / 128) (by omega) (by omega)]
include k0 k1 in
theorem endW_c (hx : x < 32768) (hy : y < 32768) : Calls Tryz.prog 210 #[.int .u16 x, .int .u16 y, .int .u32 32767] w fun e w' => e = .returned (.int .u16 (addI x y)) ∧ Drawn0 w w' := by
 have u1 : IntKind.u32.wrap x = x := by rw [IntKind.wrap_u32]; omega
 have u2 : IntKind.u32.wrap y = y := by rw [IntKind.wrap_u32]; omega
 have m1 : x % 4294967296 = x := by omega
 have m2 : y % 4294967296 = y := by omega
 have m3 : (x + y) % 4294967296 = x + y := by omega
 unfold addI
 by_cases c : x % 32768 + y % 32768 > 32767
 · rw [if_pos c]
   have b0 : decide (32767 < x + y) = true := decide_eq_true (by omega)
   have m4 : (x + y - 32767) % 4294967296 = x + y - 32767 := by omega
   have u3 : IntKind.u16.wrap (x + y - 32767) = x % 32768 + y % 32768 - 32767 := by rw [u16w (by omega) (by omega)]; omega
   clear c
   go_enter Tryz.func210, Tryz.ntmps210
   go_wp2
   go_ret
   exact ⟨by simp [*], Drawn0.refl _⟩
 · rw [if_neg c]
   have b0 : decide (32767 < x + y) = false := decide_eq_false (by omega)
   have u3 : IntKind.u16.wrap (x + y) = x % 32768 + y % 32768 := by rw [u16w (by omega) (by omega)]; omega
   clear c
   go_enter Tryz.func210, Tryz.ntmps210
   go_wp2
   go_ret
   exact ⟨by simp [*], Drawn0.refl _⟩
include k0 k1 in
theorem add_c : Calls Tryz.prog 102 #[.int .u16 x, .int .u16 y] w fun e w' => e = .returned (.int .u16 (addI x y)) ∧ Drawn0 w w' := by
 have e1 := and_32767 h0 h1
 have e2 := and_32767 k0 k1
 have e3 : addI (x % 32768) (y % 32768) = addI x y := by unfold addI; rw [Int.emod_emod_of_dvd _ (Int.dvd_refl _), Int.emod_emod_of_dvd _ (Int.dvd_refl _)]
 have K := endW_c (x % 32768) (y % 32768) (by omega) (by omega) (by omega) (by omega)
 have K2 := Lib.hid fun w => K w (by omega) (by omega)
 clear K
 rw [← e3]
 clear e3
 go_enter Tryz.func102, Tryz.ntmps102
 go_wp2_with ((go_at_call 210; (with_reducible refine (K2.out _).mono ?_); rintro e w' ⟨rfl, ⟨nd, rfl⟩⟩))
 go_ret
 exact ⟨rfl, by repeat (first | exact Drawn0.refl _ | apply Drawn0.step)⟩
include k0 k1 in
theorem endA_c : Calls Tryz.prog 218 #[.int .u16 x, .int .u16 y, .int .u32 65535] w fun e w' => e = .returned (.int .u16 (addAccI x y)) ∧ Drawn0 w w' := by
 have u1 : IntKind.u32.wrap x = x := by rw [IntKind.wrap_u32]; omega
 have u2 : IntKind.u32.wrap y = y := by rw [IntKind.wrap_u32]; omega
 have m1 : x % 4294967296 = x := by omega
 have m2 : y % 4294967296 = y := by omega
 have m3 : (x + y) % 4294967296 = x + y := by omega
 unfold addAccI
 by_cases c : x + y > 65535
 · rw [if_pos c]
   have b0 : decide (65535 < x + y) = true := decide_eq_true (by omega)
   have m4 : (x + y - 65535) % 4294967296 = x + y - 65535 := by omega
   have u3 : IntKind.u16.wrap (x + y - 65535) = x + y - 65535 := u16w (by omega) (by omega)
   clear c
   go_enter Tryz.func218, Tryz.ntmps218
   go_wp2
   go_ret
   exact ⟨by simp [*], Drawn0.refl _⟩
 · rw [if_neg c]
   have b0 : decide (65535 < x + y) = false := decide_eq_false (by omega)
   have u3 : IntKind.u16.wrap (x + y) = x + y := u16w (by omega) (by omega)
   clear c
   go_enter Tryz.func218, Tryz.ntmps218
   go_wp2
   go_ret
   exact ⟨by simp [*], Drawn0.refl _⟩
include k0 k1 in
theorem addAcc_c : Calls Tryz.prog 129 #[.int .u16 x, .int .u16 y] w fun e w' => e = .returned (.int .u16 (addAccI x y)) ∧ Drawn0 w w' := by
 have K2 := Lib.hid (endA_c x y h0 h1 k0 k1)
 go_enter Tryz.func129, Tryz.ntmps129
 go_wp2_with ((go_at_call 218; (with_reducible refine (K2.out _).mono ?_); rintro e w' ⟨rfl, ⟨nd, rfl⟩⟩))
 go_ret
 exact ⟨rfl, by repeat (first | exact Drawn0.refl _ | apply Drawn0.step)⟩
include k0 k1 in
theorem td_c : Calls Tryz.prog 135 #[.int .u16 x, .int .u16 y] w fun e w' => e = .returned (.int .u16 (tdI x y)) ∧ Drawn0 w w' := by
 refine onescomp_TwosDiff.calls _ _ _ w ?_
 unfold onescomp_TwosDiff.f tdI
 have e : Go.bits .and .u16 (IntKind.u16.wrap (x - y)) 32767 = (x % 32768 - y % 32768 + 32768) % 32768 := by
  rw [IntKind.wrap_u16, and_32767 (by omega) (by omega)]; omega
 rw [e]
 by_cases c : (x % 32768 - y % 32768 + 32768) % 32768 ≤ 16384
 · rw [if_pos c, if_pos c]
 · rw [if_neg c, if_neg c, u16w (by omega) (by omega)]
end
theorem editing_c (w : World) : Calls Tryz.prog 274 #[] w fun e w' => e = .returned (.agg #[.func (.func 280) #[] #[], .func (.func 281) #[] #[], .func (.func 282) #[] #[], .func (.func 283) #[] #[]]) ∧ Below w.heap.size w w' := by
 go_enter Tryz.func274, Tryz.ntmps274
 go_wp2
 exact bodyPost_ret (v := .agg #[.func (.func 280) #[] #[], .func (.func 281) #[] #[], .func (.func 282) #[] #[], .func (.func 283) #[] #[]]) (by simp [results, Tryz.results274, go_sem]) rfl ⟨rfl, by repeat (first | exact Below.refl _ _ | apply below_alloc | apply below_set)⟩
theorem edit16_c (x : Int) (h0 : 0 ≤ x) (h1 : x < 65536) (w : World) : Calls Tryz.prog 253 #[.int .i64 16, .int .u16 x] w fun e w' => e = .returned (.int .u16 (crI x)) ∧ Below w.heap.size w w' := by
 have HB := Aside0.mk (Below.refl w.heap.size w)
 have hix : ∀ W : World, (Instr.index 275 (.agg #[.func (.func 280) #[] #[], .func (.func 281) #[] #[], .func (.func 282) #[] #[], .func (.func 283) #[] #[]]) (.int .i64 0)).run Tryz.prog W = .ok (.func (.func 280) #[] #[]) W := fun _ => by kernel_rfl
 have K := Lib.hid (cr_c x h0 h1)
 go_enter Tryz.func253, Tryz.ntmps253
 go_wp2_with (first | (go_at_call 274; (with_reducible refine (editing_c _).mono ?_); rintro e w' ⟨rfl, hb⟩; have HBn := Aside0.mk (below_step (by repeat (first | (with_reducible first | exact HB.out | apply below_alloc | apply pw_below_drewN | apply below_drew1) | exact HB.out)) hb); clear HB hb; have HB := HBn; clear HBn) | (go_at_call 280; (with_reducible refine (K.out _).mono ?_); rintro e w' ⟨rfl, ⟨nd, rfl⟩⟩))
 go_ret
 exact ⟨rfl, by repeat (first | (with_reducible first | exact HB.out | apply below_alloc | apply pw_below_drewN | apply below_drew1) | exact HB.out)⟩
theorem edit17_c (x : Int) (h0 : 0 ≤ x) (h1 : x < 65536) (w : World) : Calls Tryz.prog 253 #[.int .i64 17, .int .u16 x] w fun e w' => e = .returned (.int .u16 (srI x)) ∧ Below w.heap.size w w' := by
 have HB := Aside0.mk (Below.refl w.heap.size w)
 have hix : ∀ W : World, (Instr.index 275 (.agg #[.func (.func 280) #[] #[], .func (.func 281) #[] #[], .func (.func 282) #[] #[], .func (.func 283) #[] #[]]) (.int .i64 1)).run Tryz.prog W = .ok (.func (.func 281) #[] #[]) W := fun _ => by kernel_rfl
 have K := Lib.hid (sr_c x h0 h1)
 go_enter Tryz.func253, Tryz.ntmps253
 go_wp2_with (first | (go_at_call 274; (with_reducible refine (editing_c _).mono ?_); rintro e w' ⟨rfl, hb⟩; have HBn := Aside0.mk (below_step (by repeat (first | (with_reducible first | exact HB.out | apply below_alloc | apply pw_below_drewN | apply below_drew1) | exact HB.out)) hb); clear HB hb; have HB := HBn; clear HBn) | (go_at_call 281; (with_reducible refine (K.out _).mono ?_); rintro e w' ⟨rfl, ⟨nd, rfl⟩⟩))
 go_ret
 exact ⟨rfl, by repeat (first | (with_reducible first | exact HB.out | apply below_alloc | apply pw_below_drewN | apply below_drew1) | exact HB.out)⟩
theorem edit18_c (x : Int) (h0 : 0 ≤ x) (h1 : x < 65536) (w : World) : Calls Tryz.prog 253 #[.int .i64 18, .int .u16 x] w fun e w' => e = .returned (.int .u16 (clI x)) ∧ Below w.heap.size w w' := by
 have HB := Aside0.mk (Below.refl w.heap.size w)
 have hix : ∀ W : World, (Instr.index 275 (.agg #[.func (.func 280) #[] #[], .func (.func 281) #[] #[], .func (.func 282) #[] #[], .func (.func 283) #[] #[]]) (.int .i64 2)).run Tryz.prog W = .ok (.func (.func 282) #[] #[]) W := fun _ => by kernel_rfl
 have K := Lib.hid (cl_c x h0 h1)
 go_enter Tryz.func253, Tryz.ntmps253
 go_wp2_with (first | (go_at_call 274; (with_reducible refine (editing_c _).mono ?_); rintro e w' ⟨rfl, hb⟩; have HBn := Aside0.mk (below_step (by repeat (first | (with_reducible first | exact HB.out | apply below_alloc | apply pw_below_drewN | apply below_drew1) | exact HB.out)) hb); clear HB hb; have HB := HBn; clear HBn) | (go_at_call 282; (with_reducible refine (K.out _).mono ?_); rintro e w' ⟨rfl, ⟨nd, rfl⟩⟩))
 go_ret
 exact ⟨rfl, by repeat (first | (with_reducible first | exact HB.out | apply below_alloc | apply pw_below_drewN | apply below_drew1) | exact HB.out)⟩
theorem edit19_c (x : Int) (h0 : 0 ≤ x) (h1 : x < 65536) (w : World) : Calls Tryz.prog 253 #[.int .i64 19, .int .u16 x] w fun e w' => e = .returned (.int .u16 (opI x)) ∧ Below w.heap.size w w' := by
 have HB := Aside0.mk (Below.refl w.heap.size w)
 have hix : ∀ W : World, (Instr.index 275 (.agg #[.func (.func 280) #[] #[], .func (.func 281) #[] #[], .func (.func 282) #[] #[], .func (.func 283) #[] #[]]) (.int .i64 3)).run Tryz.prog W = .ok (.func (.func 283) #[] #[]) W := fun _ => by kernel_rfl
 have K := Lib.hid (op_c x h0 h1)
 go_enter Tryz.func253, Tryz.ntmps253
 go_wp2_with (first | (go_at_call 274; (with_reducible refine (editing_c _).mono ?_); rintro e w' ⟨rfl, hb⟩; have HBn := Aside0.mk (below_step (by repeat (first | (with_reducible first | exact HB.out | apply below_alloc | apply pw_below_drewN | apply below_drew1) | exact HB.out)) hb); clear HB hb; have HB := HBn; clear HBn) | (go_at_call 283; (with_reducible refine (K.out _).mono ?_); rintro e w' ⟨rfl, ⟨nd, rfl⟩⟩))
 go_ret
 exact ⟨rfl, by repeat (first | (with_reducible first | exact HB.out | apply below_alloc | apply pw_below_drewN | apply below_drew1) | exact HB.out)⟩
theorem edit_c (k x : Int) (h0 : 0 ≤ x) (h1 : x < 65536) (w : World) : Calls Tryz.prog 253 #[.int .i64 k, .int .u16 x] w fun e w' => e = .returned (.int .u16 (editI k x)) ∧ Below w.heap.size w w' := by
 unfold editI
 by_cases a : k = 16
 · subst a; rw [if_pos rfl]; exact edit16_c x h0 h1 w
 · rw [if_neg a]
   by_cases b : k = 17
   · subst b; rw [if_pos rfl]; exact edit17_c x h0 h1 w
   · rw [if_neg b]
     by_cases c : k = 18
     · subst c; rw [if_pos rfl]; exact edit18_c x h0 h1 w
     · rw [if_neg c]
       by_cases d : k = 19
       · subst d; rw [if_pos rfl]; exact edit19_c x h0 h1 w
       · rw [if_neg d]
         have m := and_32767 h0 h1
         by_cases e : k < 16
         · have b0 : decide (k < 16) = true := decide_eq_true e
           clear a b c d
           go_enter Tryz.func253, Tryz.ntmps253
           go_wp2
           go_ret
           exact ⟨rfl, by repeat (first | exact Below.refl _ _ | apply below_alloc)⟩
         · have b0 : decide (k < 16) = false := decide_eq_false e
           have b1 : decide (19 < k) = true := decide_eq_true (by omega)
           clear a b c d
           go_enter Tryz.func253, Tryz.ntmps253
           go_wp2
           go_ret
           exact ⟨rfl, by repeat (first | exact Below.refl _ _ | apply below_alloc)⟩
end Go.Proofs.YtgbmaajfbbilhaaGreat.One
end
