/- Chapter 5: a part of its proof (cut by program out of CpuLD); no condition. -/
import Derived.BigQuiet
import Derived.Deep.QuietTactic
import Derived.Test.YthfobpkdloejfaaGreatDb41
import Derived.Test.YthfobpkdloejfaaGreatDb43
section
namespace Go.Proofs.YthfobpkdloejfaaGreat.Cpu
open Go.RowKit Go.Proofs.YthfobpkdloejfaaGreat.PAll Go.Proofs.YthfobpkdloejfaaGreat.One Go.Proofs.YthfobpkdloejfaaGreat.Mem Go.Proofs.YthfobpkdloejfaaGreat.Row Go.Proofs.YthfobpkdloejfaaGreatW.PrintWords Go.Proofs.YthfobpkdloejfaaGreatW.PrintLast Go.Proofs.YthfobpkdloejfaaGreatW.PrintMore Go.Proofs.YthfobpkdloejfaaGreat.Plain
set_option linter.unusedVariables false
set_option linter.unusedSimpArgs false
attribute [local go_sem high] eqA64
set_option maxRecDepth 100000 in
set_option maxHeartbeats 4000000 in
theorem doubles_walk (q0 q1 q2 q3 a l x y : Int) (ha : q0 % 32768 = a) (hl : q1 % 32768 = l) (hx : q2 % 32768 = x) (hy : q3 % 32768 = y) (b0 : 0 ≤ q0 ∧ q0 < 65536) (b1 : 0 ≤ q1 ∧ q1 < 65536) (b2 : 0 ≤ q2 ∧ q2 < 65536) (b3 : 0 ≤ q3 ∧ q3 < 65536) (w : World) : Calls Tryz.prog 10 #[.agg #[.int .u16 q0, .int .u16 q1, .int .u16 q2, .int .u16 q3]] w fun e w' => e = .returned (.bool true) ∧ Below w.heap.size w w' := by
  have HB := Aside0.mk (Below.refl w.heap.size w)
  have a0 : 0 ≤ a := by omega
  have a1 : a ≤ 32767 := by omega
  have l0 : 0 ≤ l := by omega
  have l1 : l ≤ 32767 := by omega
  have x0 : 0 ≤ x := by omega
  have x1 : x ≤ 32767 := by omega
  have y0 : 0 ≤ y := by omega
  have y1 : y ≤ 32767 := by omega
  have xm : x % 32768 = x := by omega
  have ym : y % 32768 = y := by omega
  have m0 : Int.tmod q0 32768 = a := by rw [Int.tmod_eq_emod_of_nonneg b0.1]; exact ha
  have n0 : IntKind.u16.wrap a = a := Isa.u16w (by omega) (by omega)
  have m1 : Int.tmod q1 32768 = l := by rw [Int.tmod_eq_emod_of_nonneg b1.1]; exact hl
  have n1 : IntKind.u16.wrap l = l := Isa.u16w (by omega) (by omega)
  have m2 : Int.tmod q2 32768 = x := by rw [Int.tmod_eq_emod_of_nonneg b2.1]; exact hx
  have n2 : IntKind.u16.wrap x = x := Isa.u16w (by omega) (by omega)
  have m3 : Int.tmod q3 32768 = y := by rw [Int.tmod_eq_emod_of_nonneg b3.1]; exact hy
  have n3 : IntKind.u16.wrap y = y := Isa.u16w (by omega) (by omega)
  have KC1 : Aside0 (∀ w : World, Calls Tryz.prog 31 #[.string (⟨#[68, 65, 83]⟩ : ByteArray), .int .i64 100] w fun e w' => e = .returned (.int .u16 8292) ∧ Below w.heap.size w w') := ⟨fun w => code_c 7 (⟨#[68, 65, 83]⟩ : ByteArray) 100 (by decide) (by decide) (by decide) (by kernel_rfl) w⟩
  have KC2 : Aside0 (∀ w : World, Calls Tryz.prog 31 #[.string (⟨#[68, 67, 65]⟩ : ByteArray), .int .i64 100] w fun e w' => e = .returned (.int .u16 12388) ∧ Below w.heap.size w w') := ⟨fun w => code_c 34 (⟨#[68, 67, 65]⟩ : ByteArray) 100 (by decide) (by decide) (by decide) (by kernel_rfl) w⟩
  have KC3 : Aside0 (∀ w : World, Calls Tryz.prog 31 #[.string (⟨#[68, 67, 83]⟩ : ByteArray), .int .i64 100] w fun e w' => e = .returned (.int .u16 16484) ∧ Below w.heap.size w w') := ⟨fun w => code_c 35 (⟨#[68, 67, 83]⟩ : ByteArray) 100 (by decide) (by decide) (by decide) (by kernel_rfl) w⟩
  have KA1 := Aside0.mk (fun w : World => ato_c (8292) (x) (y) (by decide) (by decide) x0 (by omega) y0 (by omega) w)
  have KA2 := Aside0.mk (fun w : World => ato_c (12388) (x) (y) (by decide) (by decide) x0 (by omega) y0 (by omega) w)
  have KA3 := Aside0.mk (fun w : World => ato_c (16484) (x) (y) (by decide) (by decide) x0 (by omega) y0 (by omega) w)
  have s1 := das_s (a := a) l0 l1 x y
  have s2 := dca_s x y
  have s3 := dcs_s x y
  have bT := dT_b a0 a1 l0 l1 x0 x1 y0 y1
  have bU := dU_b a0 a1 l0 l1 x0 x1 y0 y1
  rw [xm, ym] at s1 s2 s3
  rw [show corI (dT l y) % 32768 = corI (dT l y) from by have := cor_b bT.1 bT.2; omega, show corI (dU a l x y) % 32768 = corI (dU a l x y) from by have := cor_b bU.1 bU.2; omega] at s1
  rw [cor_ext y0 y1] at s2 s3
  have KS1 := Aside0.mk (fun (w : World) {A0 A1 A2 : Option Addr} {m0 m1 m2 c0 c1 c2 B : Nat} (hE : Kd.R (Kd.int .u16) 24 w B (fun _ => True) (.slice A0 m0 c0) (atV 8292 x y).e) (hF : Kd.R (Kd.int .u16) 24 w B (fun _ => True) (.slice A1 m1 c1) (atV 8292 x y).f) (hG : Kd.R (Kd.int .u16) 24 w B (fun _ => True) (.slice A2 m2 c2) (atV 8292 x y).c) => step_k (⟨(extI a), l, 0, 2048, 0, 0, 0, false, 0, false, 0, false, false⟩ : Rg) (atV 8292 x y) (⟨(⟨(unitI (dU a l x y)), 0, 0, 2049, 0, 0, 0, false, 0, false, 0, false, false⟩ : Rg), [⟨101, (corI (dT l y))⟩, ⟨100, (corI (dU a l x y))⟩], [], [⟨2, 2048⟩, ⟨1, 101⟩, ⟨1, 100⟩], 3, 7, 100, ⟨1, 100⟩⟩ : St) w hE hF hG (atV_b (by decide) (by decide) (by omega) (by omega) (by omega) (by omega)) (by constructor <;> (first | omega | decide | (have := ext_b a; simp only []; omega))) (das_e l0 l1 x y) s1)
  have KS2 := Aside0.mk (fun (w : World) {A0 A1 A2 : Option Addr} {m0 m1 m2 c0 c1 c2 B : Nat} (hE : Kd.R (Kd.int .u16) 24 w B (fun _ => True) (.slice A0 m0 c0) (atV 12388 x y).e) (hF : Kd.R (Kd.int .u16) 24 w B (fun _ => True) (.slice A1 m1 c1) (atV 12388 x y).f) (hG : Kd.R (Kd.int .u16) 24 w B (fun _ => True) (.slice A2 m2 c2) (atV 12388 x y).c) => step_k (⟨0, 0, 0, 2048, 0, 0, 0, true, 0, false, 0, false, false⟩ : Rg) (atV 12388 x y) (⟨(⟨(extI x), y, 0, 2049, 0, 0, 0, false, 0, false, 0, false, false⟩ : Rg), [], [], [⟨2, 2048⟩, ⟨1, 101⟩, ⟨1, 100⟩], 3, 34, 100, ⟨1, 100⟩⟩ : St) w hE hF hG (atV_b (by decide) (by decide) (by omega) (by omega) (by omega) (by omega)) (by constructor <;> (first | omega | decide | (have := ext_b a; simp only []; omega))) (dca_e x y) s2)
  have KS3 := Aside0.mk (fun (w : World) {A0 A1 A2 : Option Addr} {m0 m1 m2 c0 c1 c2 B : Nat} (hE : Kd.R (Kd.int .u16) 24 w B (fun _ => True) (.slice A0 m0 c0) (atV 16484 x y).e) (hF : Kd.R (Kd.int .u16) 24 w B (fun _ => True) (.slice A1 m1 c1) (atV 16484 x y).f) (hG : Kd.R (Kd.int .u16) 24 w B (fun _ => True) (.slice A2 m2 c2) (atV 16484 x y).c) => step_k (⟨0, 0, 0, 2048, 0, 0, 0, true, 0, false, 0, false, false⟩ : Rg) (atV 16484 x y) (⟨(⟨(negAccI (extI x)), (negI y), 0, 2049, 0, 0, 0, false, 0, false, 0, false, false⟩ : Rg), [], [], [⟨2, 2048⟩, ⟨1, 101⟩, ⟨1, 100⟩], 3, 35, 100, ⟨1, 100⟩⟩ : St) w hE hF hG (atV_b (by decide) (by decide) (by omega) (by omega) (by omega) (by omega)) (by constructor <;> (first | omega | decide | (have := ext_b a; simp only []; omega))) (dcs_e x y) s3)
  have KX := Aside0.mk (fun (b : Int) (h0 : 0 ≤ b) (h1 : b ≤ 32767) (w : World) => ext_c b h0 (by omega) w)
  have HS := Aside0.mk (das_sum a0 a1 l0 l1 x0 x1 y0 y1)
  have HV := Aside0.mk (das_over a0 a1 l0 l1 x0 x1 y0 y1)
  have va := val_lo a; have vl := val_lo l; have vx := val_lo x; have vy := val_lo y
  have vu := val_lo (corI (dU a l x y)); have vt := val_lo (corI (dT l y)); have ub := unit_b (dU a l x y); have cu := cor_b ub.1 ub.2; have ct := cor_b bT.1 bT.2; have cv := cor_b bU.1 bU.2
  have CT := Aside0.mk ct
  have CU := Aside0.mk cv
  have CV := Aside0.mk cu
  have UB := Aside0.mk ub
  have zz1 : wrap64 (valI a + valI x) = valI a + valI x := by unfold wrap64; omega
  have zz2 : wrap64 (16384 * (valI a + valI x)) = 16384 * (valI a + valI x) := by unfold wrap64; omega
  have zz3 : wrap64 (16384 * (valI a + valI x) + valI l) = 16384 * (valI a + valI x) + valI l := by unfold wrap64; omega
  obtain ⟨S, hS⟩ : ∃ S, 16384 * (valI a + valI x) + valI l + valI y = S := ⟨_, rfl⟩
  obtain ⟨F, hF⟩ : ∃ F, 16384 * valI (corI (dU a l x y)) + valI (corI (dT l y)) = F := ⟨_, rfl⟩
  obtain ⟨O, hO⟩ : ∃ O, valI (corI (unitI (dU a l x y))) = O := ⟨_, rfl⟩
  have HT : S = F + O * 268435456 ∧ -1 ≤ O ∧ O ≤ 1 := by have h1 := HS.out; have h2 := HV.out; rw [hS, hF, hO] at h1; rw [hO] at h2; exact ⟨h1, h2⟩
  have zz4 : wrap64 (16384 * (valI a + valI x) + valI l + valI y) = S := by rw [hS]; unfold wrap64; omega
  have zz5 : wrap64 (16384 * valI (corI (dU a l x y))) = 16384 * valI (corI (dU a l x y)) := by unfold wrap64; omega
  have zz6 : wrap64 (16384 * valI (corI (dU a l x y)) + valI (corI (dT l y))) = F := by rw [hF]; unfold wrap64; omega
  have zz7 : wrap64 (O * 268435456) = O * 268435456 := by unfold wrap64; omega
  have zz8 : wrap64 (F + O * 268435456) = S := by rw [HT.1]; unfold wrap64; omega
  have zz9 : decide (O < -1) = false := decide_eq_false (by omega)
  have zz10 : decide (1 < O) = false := decide_eq_false (by omega)
  have zz11 : wrap64 S = S := by rw [← hS]; unfold wrap64; omega
  clear HS HV HT hF va vl vx vy vu vt cu ct cv ub bT bU s1 s2 s3 xm ym
  have RG := Aside0.mk (show (0 ≤ a ∧ a ≤ 32767) ∧ (0 ≤ l ∧ l ≤ 32767) ∧ (0 ≤ x ∧ x ≤ 32767) ∧ 0 ≤ y ∧ y ≤ 32767 from ⟨⟨a0, a1⟩, ⟨l0, l1⟩, ⟨x0, x1⟩, y0, y1⟩)
  clear a0 a1 l0 l1 x0 x1 y0 y1 b0 b1 b2 b3
  have hu0 := Tryz.underlying26
  have hu1 := Tryz.underlying29
  have hu2 := Tryz.underlying48
  have hu3 := Tryz.underlying64
  have hu4 := Tryz.underlying69
  go_enter Tryz.func10, Tryz.ntmps10
  go_upto_region 1 with (first | ((with_reducible refine gate_dst (N := 1) rfl ?_); refine box_event ?hg (N := 1) ?hd (cs := #[.int .u16 q0, .int .u16 q1, .int .u16 q2, .int .u16 q3]) (t := 69) ?hr ?_; (case hd => rfl); (case hg => rfl); (case hr => first | kernel_rfl | (go_simp; done) | (go_simp; rfl)); intro g1 hg wb K hb; (try have NE1_1 := Aside0.mk (show g1 ≠ g1 from by have := blk_lt K1.out; rw [hg]; omega)); (try have NE7_1 := Aside0.mk (show g7 ≠ g1 from by have := blk_lt K7.out; rw [hg]; omega)); (try have NE8_1 := Aside0.mk (show g8 ≠ g1 from by have := blk_lt K8.out; rw [hg]; omega)); (try have NE9_1 := Aside0.mk (show g9 ≠ g1 from by have := blk_lt K9.out; rw [hg]; omega)); (try have NE10_1 := Aside0.mk (show g10 ≠ g1 from by have := blk_lt K10.out; rw [hg]; omega)); (try have NE15_1 := Aside0.mk (show g15 ≠ g1 from by have := blk_lt K15.out; rw [hg]; omega)); (try have NE16_1 := Aside0.mk (show g16 ≠ g1 from by have := blk_lt K16.out; rw [hg]; omega)); have L1 := Aside0.mk (show w.heap.size ≤ g1 from by rw [hg]; exact HB.out.size); (try replace HE := Aside0.mk (Kd.R_below HE.out hb)); (try replace HF := Aside0.mk (Kd.R_below HF.out hb)); (try replace HG := Aside0.mk (Kd.R_below HG.out hb)); (try replace HC := Aside0.mk (Kd.R_below HC.out hb)); (try replace HO := Aside0.mk (Kd.R_below HO.out hb)); (try replace HR := Aside0.mk (Kd.R_below HR.out hb)); (try replace K1 := Aside0.mk (blk_below K1.out hb)); (try replace K7 := Aside0.mk (blk_below K7.out hb)); (try replace K8 := Aside0.mk (blk_below K8.out hb)); (try replace K9 := Aside0.mk (blk_below K9.out hb)); (try replace K10 := Aside0.mk (blk_below K10.out hb)); (try replace K15 := Aside0.mk (blk_below K15.out hb)); (try replace K16 := Aside0.mk (blk_below K16.out hb)); replace HB := Aside0.mk (below_step HB.out hb); have K1 := Aside0.mk K; clear K hb hg))
  have x1_0 : wb.cell? ⟨g1, 0, none⟩ = some (.int .u16 q0) := (blk_cell K1.out 0).trans rfl
  have x1_1 : wb.cell? ⟨g1, 1, none⟩ = some (.int .u16 q1) := (blk_cell K1.out 1).trans rfl
  have x1_2 : wb.cell? ⟨g1, 2, none⟩ = some (.int .u16 q2) := (blk_cell K1.out 2).trans rfl
  have x1_3 : wb.cell? ⟨g1, 3, none⟩ = some (.int .u16 q3) := (blk_cell K1.out 3).trans rfl
  go_quiet (fail)
  generalize hq : World.drewN wb _ = wq
  have hb : Below wb.heap.size wb wq := by rw [← hq]; exact pw_below_drewN (Below.refl _ _) _
  clear hq
  replace K1 := Aside0.mk (blk_below K1.out hb)
  replace HB := Aside0.mk (below_step HB.out hb)
  clear hb
  clear x1_0 x1_1 x1_2 x1_3
  go_upto_region 3 with (first | (go_at_call 31; (with_reducible refine at_args #[.string (⟨#[68, 65, 83]⟩ : ByteArray), .int .i64 100] ?_); (with_reducible refine (KC1.out _).mono ?_); rintro e wc ⟨rfl, hb⟩; (try replace HE := Aside0.mk (Kd.R_below HE.out hb)); (try replace HF := Aside0.mk (Kd.R_below HF.out hb)); (try replace HG := Aside0.mk (Kd.R_below HG.out hb)); (try replace HC := Aside0.mk (Kd.R_below HC.out hb)); (try replace HO := Aside0.mk (Kd.R_below HO.out hb)); (try replace HR := Aside0.mk (Kd.R_below HR.out hb)); (try replace K1 := Aside0.mk (blk_below K1.out hb)); (try replace K7 := Aside0.mk (blk_below K7.out hb)); (try replace K8 := Aside0.mk (blk_below K8.out hb)); (try replace K9 := Aside0.mk (blk_below K9.out hb)); (try replace K10 := Aside0.mk (blk_below K10.out hb)); (try replace K15 := Aside0.mk (blk_below K15.out hb)); (try replace K16 := Aside0.mk (blk_below K16.out hb)); replace HB := Aside0.mk (below_step HB.out hb); clear hb) | (go_at_call 32; (with_reducible refine at_args #[.int .u16 8292, .int .u16 x, .int .u16 y] ?_); (with_reducible refine (KA1.out _).mono ?_); rintro e wc ⟨A1_0, A1_1, A1_2, d1_0, d1_1, d1_2, rfl, hE, hF, hG, hb⟩; have HBo := HB; (try replace HE := Aside0.mk (Kd.R_below HE.out hb)); (try replace HF := Aside0.mk (Kd.R_below HF.out hb)); (try replace HG := Aside0.mk (Kd.R_below HG.out hb)); (try replace HC := Aside0.mk (Kd.R_below HC.out hb)); (try replace HO := Aside0.mk (Kd.R_below HO.out hb)); (try replace HR := Aside0.mk (Kd.R_below HR.out hb)); (try replace K1 := Aside0.mk (blk_below K1.out hb)); (try replace K7 := Aside0.mk (blk_below K7.out hb)); (try replace K8 := Aside0.mk (blk_below K8.out hb)); (try replace K9 := Aside0.mk (blk_below K9.out hb)); (try replace K10 := Aside0.mk (blk_below K10.out hb)); (try replace K15 := Aside0.mk (blk_below K15.out hb)); (try replace K16 := Aside0.mk (blk_below K16.out hb)); replace HB := Aside0.mk (below_step HB.out hb); (try clear HE HF HG); have HE := Aside0.mk (Kd.R_lower hE HBo.out.size); have HF := Aside0.mk (Kd.R_lower hF HBo.out.size); have HG := Aside0.mk (Kd.R_lower hG HBo.out.size); clear hE hF hG hb HBo) | ((with_reducible refine gate_dst (N := 7) rfl ?_); refine box_event ?hg (N := 7) ?hd (cs := #[.int .u16 0, .int .u16 0, .int .u16 0, .int .i64 0, .int .i64 0, .int .i64 0, .int .i64 0, .bool false, .int .u16 0, .bool false, .int .u16 0, .bool false, .bool false]) (t := 26) ?hr ?_; (case hd => rfl); (case hg => rfl); (case hr => first | kernel_rfl | (go_simp; done) | (go_simp; rfl)); intro g7 hg wb K hb; (try have NE1_7 := Aside0.mk (show g1 ≠ g7 from by have := blk_lt K1.out; rw [hg]; omega)); (try have NE7_7 := Aside0.mk (show g7 ≠ g7 from by have := blk_lt K7.out; rw [hg]; omega)); (try have NE8_7 := Aside0.mk (show g8 ≠ g7 from by have := blk_lt K8.out; rw [hg]; omega)); (try have NE9_7 := Aside0.mk (show g9 ≠ g7 from by have := blk_lt K9.out; rw [hg]; omega)); (try have NE10_7 := Aside0.mk (show g10 ≠ g7 from by have := blk_lt K10.out; rw [hg]; omega)); (try have NE15_7 := Aside0.mk (show g15 ≠ g7 from by have := blk_lt K15.out; rw [hg]; omega)); (try have NE16_7 := Aside0.mk (show g16 ≠ g7 from by have := blk_lt K16.out; rw [hg]; omega)); have L7 := Aside0.mk (show w.heap.size ≤ g7 from by rw [hg]; exact HB.out.size); (try replace HE := Aside0.mk (Kd.R_below HE.out hb)); (try replace HF := Aside0.mk (Kd.R_below HF.out hb)); (try replace HG := Aside0.mk (Kd.R_below HG.out hb)); (try replace HC := Aside0.mk (Kd.R_below HC.out hb)); (try replace HO := Aside0.mk (Kd.R_below HO.out hb)); (try replace HR := Aside0.mk (Kd.R_below HR.out hb)); (try replace K1 := Aside0.mk (blk_below K1.out hb)); (try replace K7 := Aside0.mk (blk_below K7.out hb)); (try replace K8 := Aside0.mk (blk_below K8.out hb)); (try replace K9 := Aside0.mk (blk_below K9.out hb)); (try replace K10 := Aside0.mk (blk_below K10.out hb)); (try replace K15 := Aside0.mk (blk_below K15.out hb)); (try replace K16 := Aside0.mk (blk_below K16.out hb)); replace HB := Aside0.mk (below_step HB.out hb); have K7 := Aside0.mk K; clear K hb hg) | ((with_reducible refine gate_dst (N := 8) rfl ?_); refine box_event ?hg (N := 8) ?hd (cs := #[.slice none 0 0, .slice none 0 0, .slice none 0 0]) (t := 29) ?hr ?_; (case hd => rfl); (case hg => rfl); (case hr => first | kernel_rfl | (go_simp; done) | (go_simp; rfl)); intro g8 hg wb K hb; (try have NE1_8 := Aside0.mk (show g1 ≠ g8 from by have := blk_lt K1.out; rw [hg]; omega)); (try have NE7_8 := Aside0.mk (show g7 ≠ g8 from by have := blk_lt K7.out; rw [hg]; omega)); (try have NE8_8 := Aside0.mk (show g8 ≠ g8 from by have := blk_lt K8.out; rw [hg]; omega)); (try have NE9_8 := Aside0.mk (show g9 ≠ g8 from by have := blk_lt K9.out; rw [hg]; omega)); (try have NE10_8 := Aside0.mk (show g10 ≠ g8 from by have := blk_lt K10.out; rw [hg]; omega)); (try have NE15_8 := Aside0.mk (show g15 ≠ g8 from by have := blk_lt K15.out; rw [hg]; omega)); (try have NE16_8 := Aside0.mk (show g16 ≠ g8 from by have := blk_lt K16.out; rw [hg]; omega)); have L8 := Aside0.mk (show w.heap.size ≤ g8 from by rw [hg]; exact HB.out.size); (try replace HE := Aside0.mk (Kd.R_below HE.out hb)); (try replace HF := Aside0.mk (Kd.R_below HF.out hb)); (try replace HG := Aside0.mk (Kd.R_below HG.out hb)); (try replace HC := Aside0.mk (Kd.R_below HC.out hb)); (try replace HO := Aside0.mk (Kd.R_below HO.out hb)); (try replace HR := Aside0.mk (Kd.R_below HR.out hb)); (try replace K1 := Aside0.mk (blk_below K1.out hb)); (try replace K7 := Aside0.mk (blk_below K7.out hb)); (try replace K8 := Aside0.mk (blk_below K8.out hb)); (try replace K9 := Aside0.mk (blk_below K9.out hb)); (try replace K10 := Aside0.mk (blk_below K10.out hb)); (try replace K15 := Aside0.mk (blk_below K15.out hb)); (try replace K16 := Aside0.mk (blk_below K16.out hb)); replace HB := Aside0.mk (below_step HB.out hb); have K8 := Aside0.mk K; clear K hb hg) | (refine store_row_g rfl 26 (.tmp 7) (.tmp 35) rfl g7 rfl 26 _ #[.int .u16 0, .int .u16 0, .int .u16 0, .int .i64 2048, .int .i64 0, .int .i64 0, .int .i64 0, .bool false, .int .u16 0, .bool false, .int .u16 0, .bool false, .bool false] rfl K7.out ?hi ?hs ?h1 ?_; (case hi => kernel_rfl); (case hs => rfl); (case h1 => kernel_rfl); intro ws hk hfar hbel hkp; (try replace HE := Aside0.mk (R_kb HE.out K7.out (fun q hq => by rw [ekI q hq]; decide) hkp)); (try replace HF := Aside0.mk (R_kb HF.out K7.out (fun q hq => by rw [ekI q hq]; decide) hkp)); (try replace HG := Aside0.mk (R_kb HG.out K7.out (fun q hq => by rw [ekI q hq]; decide) hkp)); (try replace HC := Aside0.mk (R_kb HC.out K7.out (fun q hq => by rw [ekC q hq]; decide) hkp)); (try replace HO := Aside0.mk (R_kb HO.out K7.out (fun q hq => by rw [ekC q hq]; decide) hkp)); (try replace HR := Aside0.mk (R_kb HR.out K7.out (fun q hq => by rw [ekS q hq]; decide) hkp)); replace HB := Aside0.mk (hbel _ _ HB.out L7.out); (try replace K1 := Aside0.mk ((hfar _ (by first | exact NE1_7.out | exact NE7_1.out.symm)).trans K1.out)); (try replace K7 := Aside0.mk ((hfar _ (by first | exact NE7_7.out | exact NE7_7.out.symm)).trans K7.out)); (try replace K8 := Aside0.mk ((hfar _ (by first | exact NE8_7.out | exact NE7_8.out.symm)).trans K8.out)); (try replace K9 := Aside0.mk ((hfar _ (by first | exact NE9_7.out | exact NE7_9.out.symm)).trans K9.out)); (try replace K10 := Aside0.mk ((hfar _ (by first | exact NE10_7.out | exact NE7_10.out.symm)).trans K10.out)); (try replace K15 := Aside0.mk ((hfar _ (by first | exact NE15_7.out | exact NE7_15.out.symm)).trans K15.out)); (try replace K16 := Aside0.mk ((hfar _ (by first | exact NE16_7.out | exact NE7_16.out.symm)).trans K16.out)); replace K7 := Aside0.mk hk; clear hk hfar hbel hkp) | (refine store_row_g rfl 29 (.tmp 8) (.tmp 36) rfl g8 rfl 29 _ #[.slice A1_0 102 d1_0, .slice A1_1 2049 d1_1, .slice A1_2 0 d1_2] rfl K8.out ?hi ?hs ?h1 ?_; (case hi => kernel_rfl); (case hs => rfl); (case h1 => kernel_rfl); intro ws hk hfar hbel hkp; (try replace HE := Aside0.mk (R_kb HE.out K8.out (fun q hq => by rw [ekI q hq]; decide) hkp)); (try replace HF := Aside0.mk (R_kb HF.out K8.out (fun q hq => by rw [ekI q hq]; decide) hkp)); (try replace HG := Aside0.mk (R_kb HG.out K8.out (fun q hq => by rw [ekI q hq]; decide) hkp)); (try replace HC := Aside0.mk (R_kb HC.out K8.out (fun q hq => by rw [ekC q hq]; decide) hkp)); (try replace HO := Aside0.mk (R_kb HO.out K8.out (fun q hq => by rw [ekC q hq]; decide) hkp)); (try replace HR := Aside0.mk (R_kb HR.out K8.out (fun q hq => by rw [ekS q hq]; decide) hkp)); replace HB := Aside0.mk (hbel _ _ HB.out L8.out); (try replace K1 := Aside0.mk ((hfar _ (by first | exact NE1_8.out | exact NE8_1.out.symm)).trans K1.out)); (try replace K7 := Aside0.mk ((hfar _ (by first | exact NE7_8.out | exact NE8_7.out.symm)).trans K7.out)); (try replace K8 := Aside0.mk ((hfar _ (by first | exact NE8_8.out | exact NE8_8.out.symm)).trans K8.out)); (try replace K9 := Aside0.mk ((hfar _ (by first | exact NE9_8.out | exact NE8_9.out.symm)).trans K9.out)); (try replace K10 := Aside0.mk ((hfar _ (by first | exact NE10_8.out | exact NE8_10.out.symm)).trans K10.out)); (try replace K15 := Aside0.mk ((hfar _ (by first | exact NE15_8.out | exact NE8_15.out.symm)).trans K15.out)); (try replace K16 := Aside0.mk ((hfar _ (by first | exact NE16_8.out | exact NE8_16.out.symm)).trans K16.out)); replace K8 := Aside0.mk hk; clear hk hfar hbel hkp))
  go_upto_region 4 with (first | (go_at_call 33; (with_reducible refine at_args #[.int .u16 a] ?_); (with_reducible refine (KX.out a RG.out.1.1 RG.out.1.2 _).mono ?_); rintro e wd ⟨rfl, ⟨nd, hd⟩⟩; have hb := drawn_below_ hd; clear hd; (try replace HE := Aside0.mk (Kd.R_below HE.out hb)); (try replace HF := Aside0.mk (Kd.R_below HF.out hb)); (try replace HG := Aside0.mk (Kd.R_below HG.out hb)); (try replace HC := Aside0.mk (Kd.R_below HC.out hb)); (try replace HO := Aside0.mk (Kd.R_below HO.out hb)); (try replace HR := Aside0.mk (Kd.R_below HR.out hb)); (try replace K1 := Aside0.mk (blk_below K1.out hb)); (try replace K7 := Aside0.mk (blk_below K7.out hb)); (try replace K8 := Aside0.mk (blk_below K8.out hb)); (try replace K9 := Aside0.mk (blk_below K9.out hb)); (try replace K10 := Aside0.mk (blk_below K10.out hb)); (try replace K15 := Aside0.mk (blk_below K15.out hb)); (try replace K16 := Aside0.mk (blk_below K16.out hb)); replace HB := Aside0.mk (below_step HB.out hb); clear hb) | (refine store_cell_ rfl _ _ _ rfl g7 0 rfl (.int .u16 (extI a)) rfl _ ((blk_cell K7.out 0).trans rfl) (blk_frozen K7.out 0) rfl rfl (by kernel_rfl) ?_; replace HE := Aside0.mk (show Kd.R _ _ (World.setCell _ ⟨g7, 0, none⟩ (.int .u16 (extI a))) _ _ _ _ from Kd.R_set HE.out K7.out (fun q hq => by rw [ekI q hq]; decide) 0 _); replace HF := Aside0.mk (show Kd.R _ _ (World.setCell _ ⟨g7, 0, none⟩ (.int .u16 (extI a))) _ _ _ _ from Kd.R_set HF.out K7.out (fun q hq => by rw [ekI q hq]; decide) 0 _); replace HG := Aside0.mk (show Kd.R _ _ (World.setCell _ ⟨g7, 0, none⟩ (.int .u16 (extI a))) _ _ _ _ from Kd.R_set HG.out K7.out (fun q hq => by rw [ekI q hq]; decide) 0 _); replace K8 := Aside0.mk (show (World.setCell _ ⟨g7, 0, none⟩ (.int .u16 (extI a))).heap[g8]? = _ from blk_far K8.out (by first | exact NE8_7.out | exact NE7_8.out.symm) _); replace HB := Aside0.mk (show Below _ _ (World.setCell _ ⟨g7, 0, none⟩ (.int .u16 (extI a))) from below_set HB.out L7.out); replace K7 := Aside0.mk (show (World.setCell _ ⟨g7, 0, none⟩ (.int .u16 (extI a))).heap[g7]? = some (.cells #[.int .u16 (extI a), .int .u16 0, .int .u16 0, .int .i64 2048, .int .i64 0, .int .i64 0, .int .i64 0, .bool false, .int .u16 0, .bool false, .int .u16 0, .bool false, .bool false] 26 (0, 0)) from blk_put K7.out 0 _ rfl); generalize World.setCell _ ⟨g7, 0, none⟩ (.int .u16 (extI a)) = ws at K7 K8 HB HE HF HG ⊢) | (refine store_cell_ rfl _ _ _ rfl g7 1 rfl (.int .u16 l) rfl _ ((blk_cell K7.out 1).trans rfl) (blk_frozen K7.out 1) rfl rfl (by kernel_rfl) ?_; replace HE := Aside0.mk (show Kd.R _ _ (World.setCell _ ⟨g7, 1, none⟩ (.int .u16 l)) _ _ _ _ from Kd.R_set HE.out K7.out (fun q hq => by rw [ekI q hq]; decide) 1 _); replace HF := Aside0.mk (show Kd.R _ _ (World.setCell _ ⟨g7, 1, none⟩ (.int .u16 l)) _ _ _ _ from Kd.R_set HF.out K7.out (fun q hq => by rw [ekI q hq]; decide) 1 _); replace HG := Aside0.mk (show Kd.R _ _ (World.setCell _ ⟨g7, 1, none⟩ (.int .u16 l)) _ _ _ _ from Kd.R_set HG.out K7.out (fun q hq => by rw [ekI q hq]; decide) 1 _); replace K8 := Aside0.mk (show (World.setCell _ ⟨g7, 1, none⟩ (.int .u16 l)).heap[g8]? = _ from blk_far K8.out (by first | exact NE8_7.out | exact NE7_8.out.symm) _); replace HB := Aside0.mk (show Below _ _ (World.setCell _ ⟨g7, 1, none⟩ (.int .u16 l)) from below_set HB.out L7.out); replace K7 := Aside0.mk (show (World.setCell _ ⟨g7, 1, none⟩ (.int .u16 l)).heap[g7]? = some (.cells #[.int .u16 (extI a), .int .u16 l, .int .u16 0, .int .i64 2048, .int .i64 0, .int .i64 0, .int .i64 0, .bool false, .int .u16 0, .bool false, .int .u16 0, .bool false, .bool false] 26 (0, 0)) from blk_put K7.out 1 _ rfl); generalize World.setCell _ ⟨g7, 1, none⟩ (.int .u16 l) = ws at K7 K8 HB HE HF HG ⊢))
  go_upto_region 5 with (first | (refine load_row_ rfl 26 _ rfl g7 rfl #[.int .u16 (extI a), .int .u16 l, .int .u16 0, .int .i64 2048, .int .i64 0, .int .i64 0, .int .i64 0, .bool false, .int .u16 0, .bool false, .int .u16 0, .bool false, .bool false] _ K7.out _ Tryz.underlying26 rfl (by kernel_rfl) ?_) | (refine load_row_ rfl 29 _ rfl g8 rfl #[.slice A1_0 102 d1_0, .slice A1_1 2049 d1_1, .slice A1_2 0 d1_2] _ K8.out _ Tryz.underlying29 rfl (by kernel_rfl) ?_) | (go_at_call 21; (with_reducible refine at_args #[.agg #[.int .u16 ((extI a)), .int .u16 l, .int .u16 0, .int .i64 2048, .int .i64 0, .int .i64 0, .int .i64 0, .bool false, .int .u16 0, .bool false, .int .u16 0, .bool false, .bool false], .agg #[.slice A1_0 _ d1_0, .slice A1_1 _ d1_1, .slice A1_2 _ d1_2]] ?_); (with_reducible refine (KS1.out _ HE.out HF.out HG.out).mono ?_); rintro e wc ⟨vC, vO, vR, rfl, hC, hO, hR, hb⟩; obtain ⟨AC1, eC1, rfl⟩ := Kd.R_slice hC; obtain ⟨AO1, eO1, rfl⟩ := Kd.R_slice hO; obtain ⟨AR1, eR1, rfl⟩ := Kd.R_slice hR; have HBo := HB; (try replace HE := Aside0.mk (Kd.R_below HE.out hb)); (try replace HF := Aside0.mk (Kd.R_below HF.out hb)); (try replace HG := Aside0.mk (Kd.R_below HG.out hb)); (try replace HC := Aside0.mk (Kd.R_below HC.out hb)); (try replace HO := Aside0.mk (Kd.R_below HO.out hb)); (try replace HR := Aside0.mk (Kd.R_below HR.out hb)); (try replace K1 := Aside0.mk (blk_below K1.out hb)); (try replace K7 := Aside0.mk (blk_below K7.out hb)); (try replace K8 := Aside0.mk (blk_below K8.out hb)); (try replace K9 := Aside0.mk (blk_below K9.out hb)); (try replace K10 := Aside0.mk (blk_below K10.out hb)); (try replace K15 := Aside0.mk (blk_below K15.out hb)); (try replace K16 := Aside0.mk (blk_below K16.out hb)); replace HB := Aside0.mk (below_step HB.out hb); (try clear HC HO HR); have HC := Aside0.mk (Kd.R_mono (Kd.R_lower hC HBo.out.size) (fun _ _ => trivial)); have HO := Aside0.mk (Kd.R_mono (Kd.R_lower hO HBo.out.size) (fun _ _ => trivial)); have HR := Aside0.mk (Kd.R_lower hR HBo.out.size); clear hC hO hR hb HBo) | ((with_reducible refine gate_dst (N := 9) rfl ?_); refine box_event ?hg (N := 9) ?hd (cs := #[.int .u16 0, .int .u16 0, .int .u16 0, .int .i64 0, .int .i64 0, .int .i64 0, .int .i64 0, .bool false, .int .u16 0, .bool false, .int .u16 0, .bool false, .bool false]) (t := 26) ?hr ?_; (case hd => rfl); (case hg => rfl); (case hr => first | kernel_rfl | (go_simp; done) | (go_simp; rfl)); intro g9 hg wb K hb; (try have NE1_9 := Aside0.mk (show g1 ≠ g9 from by have := blk_lt K1.out; rw [hg]; omega)); (try have NE7_9 := Aside0.mk (show g7 ≠ g9 from by have := blk_lt K7.out; rw [hg]; omega)); (try have NE8_9 := Aside0.mk (show g8 ≠ g9 from by have := blk_lt K8.out; rw [hg]; omega)); (try have NE9_9 := Aside0.mk (show g9 ≠ g9 from by have := blk_lt K9.out; rw [hg]; omega)); (try have NE10_9 := Aside0.mk (show g10 ≠ g9 from by have := blk_lt K10.out; rw [hg]; omega)); (try have NE15_9 := Aside0.mk (show g15 ≠ g9 from by have := blk_lt K15.out; rw [hg]; omega)); (try have NE16_9 := Aside0.mk (show g16 ≠ g9 from by have := blk_lt K16.out; rw [hg]; omega)); have L9 := Aside0.mk (show w.heap.size ≤ g9 from by rw [hg]; exact HB.out.size); (try replace HE := Aside0.mk (Kd.R_below HE.out hb)); (try replace HF := Aside0.mk (Kd.R_below HF.out hb)); (try replace HG := Aside0.mk (Kd.R_below HG.out hb)); (try replace HC := Aside0.mk (Kd.R_below HC.out hb)); (try replace HO := Aside0.mk (Kd.R_below HO.out hb)); (try replace HR := Aside0.mk (Kd.R_below HR.out hb)); (try replace K1 := Aside0.mk (blk_below K1.out hb)); (try replace K7 := Aside0.mk (blk_below K7.out hb)); (try replace K8 := Aside0.mk (blk_below K8.out hb)); (try replace K9 := Aside0.mk (blk_below K9.out hb)); (try replace K10 := Aside0.mk (blk_below K10.out hb)); (try replace K15 := Aside0.mk (blk_below K15.out hb)); (try replace K16 := Aside0.mk (blk_below K16.out hb)); replace HB := Aside0.mk (below_step HB.out hb); have K9 := Aside0.mk K; clear K hb hg) | ((with_reducible refine gate_dst (N := 10) rfl ?_); refine box_event ?hg (N := 10) ?hd (cs := #[.slice none 0 0, .slice none 0 0, .slice none 0 0, .int .i64 0, .int .u8 0]) (t := 48) ?hr ?_; (case hd => rfl); (case hg => rfl); (case hr => first | kernel_rfl | (go_simp; done) | (go_simp; rfl)); intro g10 hg wb K hb; (try have NE1_10 := Aside0.mk (show g1 ≠ g10 from by have := blk_lt K1.out; rw [hg]; omega)); (try have NE7_10 := Aside0.mk (show g7 ≠ g10 from by have := blk_lt K7.out; rw [hg]; omega)); (try have NE8_10 := Aside0.mk (show g8 ≠ g10 from by have := blk_lt K8.out; rw [hg]; omega)); (try have NE9_10 := Aside0.mk (show g9 ≠ g10 from by have := blk_lt K9.out; rw [hg]; omega)); (try have NE10_10 := Aside0.mk (show g10 ≠ g10 from by have := blk_lt K10.out; rw [hg]; omega)); (try have NE15_10 := Aside0.mk (show g15 ≠ g10 from by have := blk_lt K15.out; rw [hg]; omega)); (try have NE16_10 := Aside0.mk (show g16 ≠ g10 from by have := blk_lt K16.out; rw [hg]; omega)); have L10 := Aside0.mk (show w.heap.size ≤ g10 from by rw [hg]; exact HB.out.size); (try replace HE := Aside0.mk (Kd.R_below HE.out hb)); (try replace HF := Aside0.mk (Kd.R_below HF.out hb)); (try replace HG := Aside0.mk (Kd.R_below HG.out hb)); (try replace HC := Aside0.mk (Kd.R_below HC.out hb)); (try replace HO := Aside0.mk (Kd.R_below HO.out hb)); (try replace HR := Aside0.mk (Kd.R_below HR.out hb)); (try replace K1 := Aside0.mk (blk_below K1.out hb)); (try replace K7 := Aside0.mk (blk_below K7.out hb)); (try replace K8 := Aside0.mk (blk_below K8.out hb)); (try replace K9 := Aside0.mk (blk_below K9.out hb)); (try replace K10 := Aside0.mk (blk_below K10.out hb)); (try replace K15 := Aside0.mk (blk_below K15.out hb)); (try replace K16 := Aside0.mk (blk_below K16.out hb)); replace HB := Aside0.mk (below_step HB.out hb); have K10 := Aside0.mk K; clear K hb hg) | (refine store_row_g rfl 26 (.tmp 9) (.tmp 46) rfl g9 rfl 26 _ #[.int .u16 ((unitI (dU a l x y))), .int .u16 0, .int .u16 0, .int .i64 2049, .int .i64 0, .int .i64 0, .int .i64 0, .bool false, .int .u16 0, .bool false, .int .u16 0, .bool false, .bool false] rfl K9.out ?hi ?hs ?h1 ?_; (case hi => kernel_rfl); (case hs => rfl); (case h1 => kernel_rfl); intro ws hk hfar hbel hkp; (try replace HE := Aside0.mk (R_kb HE.out K9.out (fun q hq => by rw [ekI q hq]; decide) hkp)); (try replace HF := Aside0.mk (R_kb HF.out K9.out (fun q hq => by rw [ekI q hq]; decide) hkp)); (try replace HG := Aside0.mk (R_kb HG.out K9.out (fun q hq => by rw [ekI q hq]; decide) hkp)); (try replace HC := Aside0.mk (R_kb HC.out K9.out (fun q hq => by rw [ekC q hq]; decide) hkp)); (try replace HO := Aside0.mk (R_kb HO.out K9.out (fun q hq => by rw [ekC q hq]; decide) hkp)); (try replace HR := Aside0.mk (R_kb HR.out K9.out (fun q hq => by rw [ekS q hq]; decide) hkp)); replace HB := Aside0.mk (hbel _ _ HB.out L9.out); (try replace K1 := Aside0.mk ((hfar _ (by first | exact NE1_9.out | exact NE9_1.out.symm)).trans K1.out)); (try replace K7 := Aside0.mk ((hfar _ (by first | exact NE7_9.out | exact NE9_7.out.symm)).trans K7.out)); (try replace K8 := Aside0.mk ((hfar _ (by first | exact NE8_9.out | exact NE9_8.out.symm)).trans K8.out)); (try replace K9 := Aside0.mk ((hfar _ (by first | exact NE9_9.out | exact NE9_9.out.symm)).trans K9.out)); (try replace K10 := Aside0.mk ((hfar _ (by first | exact NE10_9.out | exact NE9_10.out.symm)).trans K10.out)); (try replace K15 := Aside0.mk ((hfar _ (by first | exact NE15_9.out | exact NE9_15.out.symm)).trans K15.out)); (try replace K16 := Aside0.mk ((hfar _ (by first | exact NE16_9.out | exact NE9_16.out.symm)).trans K16.out)); replace K9 := Aside0.mk hk; clear hk hfar hbel hkp) | (refine store_row_g rfl 48 (.tmp 10) (.tmp 47) rfl g10 rfl 48 _ #[.slice AC1 2 eC1, .slice AO1 0 eO1, .slice AR1 3 eR1, .int .i64 3, .int .u8 7] rfl K10.out ?hi ?hs ?h1 ?_; (case hi => kernel_rfl); (case hs => rfl); (case h1 => kernel_rfl); intro ws hk hfar hbel hkp; (try replace HE := Aside0.mk (R_kb HE.out K10.out (fun q hq => by rw [ekI q hq]; decide) hkp)); (try replace HF := Aside0.mk (R_kb HF.out K10.out (fun q hq => by rw [ekI q hq]; decide) hkp)); (try replace HG := Aside0.mk (R_kb HG.out K10.out (fun q hq => by rw [ekI q hq]; decide) hkp)); (try replace HC := Aside0.mk (R_kb HC.out K10.out (fun q hq => by rw [ekC q hq]; decide) hkp)); (try replace HO := Aside0.mk (R_kb HO.out K10.out (fun q hq => by rw [ekC q hq]; decide) hkp)); (try replace HR := Aside0.mk (R_kb HR.out K10.out (fun q hq => by rw [ekS q hq]; decide) hkp)); replace HB := Aside0.mk (hbel _ _ HB.out L10.out); (try replace K1 := Aside0.mk ((hfar _ (by first | exact NE1_10.out | exact NE10_1.out.symm)).trans K1.out)); (try replace K7 := Aside0.mk ((hfar _ (by first | exact NE7_10.out | exact NE10_7.out.symm)).trans K7.out)); (try replace K8 := Aside0.mk ((hfar _ (by first | exact NE8_10.out | exact NE10_8.out.symm)).trans K8.out)); (try replace K9 := Aside0.mk ((hfar _ (by first | exact NE9_10.out | exact NE10_9.out.symm)).trans K9.out)); (try replace K10 := Aside0.mk ((hfar _ (by first | exact NE10_10.out | exact NE10_10.out.symm)).trans K10.out)); (try replace K15 := Aside0.mk ((hfar _ (by first | exact NE15_10.out | exact NE10_15.out.symm)).trans K15.out)); (try replace K16 := Aside0.mk ((hfar _ (by first | exact NE16_10.out | exact NE10_16.out.symm)).trans K16.out)); replace K10 := Aside0.mk hk; clear hk hfar hbel hkp))
  obtain ⟨gC, rfl⟩ := R_some HC.out (by exact Nat.succ_pos _)
  obtain ⟨e0, e1⟩ := cellR_at HC.out ⟨0, 0⟩ 0 (by exact Nat.succ_pos _)
  obtain ⟨e2, e3⟩ := cellR_at HC.out ⟨0, 0⟩ 1 (by exact Nat.lt_succ_self 1)
  simp only [List.getD_cons_zero, List.getD_cons_succ] at e0 e1 e2 e3
  have x9_0 : ws.cell? ⟨g9, 0, none⟩ = some (.int .u16 ((unitI (dU a l x y)))) := (blk_cell K9.out 0).trans rfl
  have x9_1 : ws.cell? ⟨g9, 1, none⟩ = some (.int .u16 0) := (blk_cell K9.out 1).trans rfl
  have x10_0 : ws.cell? ⟨g10, 0, none⟩ = some (.slice (some ⟨gC, 0, none⟩) 2 eC1) := (blk_cell K10.out 0).trans rfl
  go_upto_region 7 with (first | fail)
  go_upto_region 8 with (first | (go_at_call 29; (with_reducible refine at_args #[.int .u16 a] ?_); (with_reducible refine (value_c _ RG.out.1.1 (by have := RG.out.1.2; omega) _).mono ?_); rintro e wd ⟨rfl, ⟨nd, hd⟩⟩; have hb := drawn_below_ hd; clear hd; (try replace HE := Aside0.mk (Kd.R_below HE.out hb)); (try replace HF := Aside0.mk (Kd.R_below HF.out hb)); (try replace HG := Aside0.mk (Kd.R_below HG.out hb)); (try replace HC := Aside0.mk (Kd.R_below HC.out hb)); (try replace HO := Aside0.mk (Kd.R_below HO.out hb)); (try replace HR := Aside0.mk (Kd.R_below HR.out hb)); (try replace K1 := Aside0.mk (blk_below K1.out hb)); (try replace K7 := Aside0.mk (blk_below K7.out hb)); (try replace K8 := Aside0.mk (blk_below K8.out hb)); (try replace K9 := Aside0.mk (blk_below K9.out hb)); (try replace K10 := Aside0.mk (blk_below K10.out hb)); (try replace K15 := Aside0.mk (blk_below K15.out hb)); (try replace K16 := Aside0.mk (blk_below K16.out hb)); replace HB := Aside0.mk (below_step HB.out hb); clear hb) | (go_at_call 29; (with_reducible refine at_args #[.int .u16 x] ?_); (with_reducible refine (value_c _ RG.out.2.2.1.1 (by have := RG.out.2.2.1.2; omega) _).mono ?_); rintro e wd ⟨rfl, ⟨nd, hd⟩⟩; have hb := drawn_below_ hd; clear hd; (try replace HE := Aside0.mk (Kd.R_below HE.out hb)); (try replace HF := Aside0.mk (Kd.R_below HF.out hb)); (try replace HG := Aside0.mk (Kd.R_below HG.out hb)); (try replace HC := Aside0.mk (Kd.R_below HC.out hb)); (try replace HO := Aside0.mk (Kd.R_below HO.out hb)); (try replace HR := Aside0.mk (Kd.R_below HR.out hb)); (try replace K1 := Aside0.mk (blk_below K1.out hb)); (try replace K7 := Aside0.mk (blk_below K7.out hb)); (try replace K8 := Aside0.mk (blk_below K8.out hb)); (try replace K9 := Aside0.mk (blk_below K9.out hb)); (try replace K10 := Aside0.mk (blk_below K10.out hb)); (try replace K15 := Aside0.mk (blk_below K15.out hb)); (try replace K16 := Aside0.mk (blk_below K16.out hb)); replace HB := Aside0.mk (below_step HB.out hb); clear hb) | (go_at_call 29; (with_reducible refine at_args #[.int .u16 l] ?_); (with_reducible refine (value_c _ RG.out.2.1.1 (by have := RG.out.2.1.2; omega) _).mono ?_); rintro e wd ⟨rfl, ⟨nd, hd⟩⟩; have hb := drawn_below_ hd; clear hd; (try replace HE := Aside0.mk (Kd.R_below HE.out hb)); (try replace HF := Aside0.mk (Kd.R_below HF.out hb)); (try replace HG := Aside0.mk (Kd.R_below HG.out hb)); (try replace HC := Aside0.mk (Kd.R_below HC.out hb)); (try replace HO := Aside0.mk (Kd.R_below HO.out hb)); (try replace HR := Aside0.mk (Kd.R_below HR.out hb)); (try replace K1 := Aside0.mk (blk_below K1.out hb)); (try replace K7 := Aside0.mk (blk_below K7.out hb)); (try replace K8 := Aside0.mk (blk_below K8.out hb)); (try replace K9 := Aside0.mk (blk_below K9.out hb)); (try replace K10 := Aside0.mk (blk_below K10.out hb)); (try replace K15 := Aside0.mk (blk_below K15.out hb)); (try replace K16 := Aside0.mk (blk_below K16.out hb)); replace HB := Aside0.mk (below_step HB.out hb); clear hb) | (go_at_call 29; (with_reducible refine at_args #[.int .u16 y] ?_); (with_reducible refine (value_c _ RG.out.2.2.2.1 (by have := RG.out.2.2.2.2; omega) _).mono ?_); rintro e wd ⟨rfl, ⟨nd, hd⟩⟩; have hb := drawn_below_ hd; clear hd; (try replace HE := Aside0.mk (Kd.R_below HE.out hb)); (try replace HF := Aside0.mk (Kd.R_below HF.out hb)); (try replace HG := Aside0.mk (Kd.R_below HG.out hb)); (try replace HC := Aside0.mk (Kd.R_below HC.out hb)); (try replace HO := Aside0.mk (Kd.R_below HO.out hb)); (try replace HR := Aside0.mk (Kd.R_below HR.out hb)); (try replace K1 := Aside0.mk (blk_below K1.out hb)); (try replace K7 := Aside0.mk (blk_below K7.out hb)); (try replace K8 := Aside0.mk (blk_below K8.out hb)); (try replace K9 := Aside0.mk (blk_below K9.out hb)); (try replace K10 := Aside0.mk (blk_below K10.out hb)); (try replace K15 := Aside0.mk (blk_below K15.out hb)); (try replace K16 := Aside0.mk (blk_below K16.out hb)); replace HB := Aside0.mk (below_step HB.out hb); clear hb))
  replace e0 : wd.cell? ⟨gC, 0, none⟩ = some (.int .i64 101) := (cellR_at HC.out ⟨0, 0⟩ 0 (by exact Nat.succ_pos _)).1
  replace e1 : wd.cell? ⟨gC, 1, none⟩ = some (.int .u16 (corI (dT l y))) := (cellR_at HC.out ⟨0, 0⟩ 0 (by exact Nat.succ_pos _)).2
  replace e2 : wd.cell? ⟨gC, 2, none⟩ = some (.int .i64 100) := (cellR_at HC.out ⟨0, 0⟩ 1 (by exact Nat.lt_succ_self 1)).1
  replace e3 : wd.cell? ⟨gC, 3, none⟩ = some (.int .u16 (corI (dU a l x y))) := (cellR_at HC.out ⟨0, 0⟩ 1 (by exact Nat.lt_succ_self 1)).2
  clear x9_0 x9_1 x10_0
  have x10_0 : wd.cell? ⟨g10, 0, none⟩ = some (.slice (some ⟨gC, 0, none⟩) 2 eC1) := (blk_cell K10.out 0).trans rfl
  go_quiet (first | (go_at_call 29; (with_reducible refine at_args #[.int .u16 (corI (dU a l x y))] ?_); exact dq_ (value_c _ CU.out.1 (by have := CU.out.2; omega) _)) | (go_at_call 29; (with_reducible refine at_args #[.int .u16 (corI (dT l y))] ?_); exact dq_ (value_c _ CT.out.1 (by have := CT.out.2; omega) _)))
  generalize hq : World.drewN wd _ = wq
  have hb : Below wd.heap.size wd wq := by rw [← hq]; exact pw_below_drewN (Below.refl _ _) _
  clear hq
  replace K7 := Aside0.mk (blk_below K7.out hb)
  replace K8 := Aside0.mk (blk_below K8.out hb)
  replace K9 := Aside0.mk (blk_below K9.out hb)
  replace K10 := Aside0.mk (blk_below K10.out hb)
  (try replace HE := Aside0.mk (Kd.R_below HE.out hb))
  (try replace HF := Aside0.mk (Kd.R_below HF.out hb))
  (try replace HG := Aside0.mk (Kd.R_below HG.out hb))
  (try replace HC := Aside0.mk (Kd.R_below HC.out hb))
  (try replace HO := Aside0.mk (Kd.R_below HO.out hb))
  (try replace HR := Aside0.mk (Kd.R_below HR.out hb))
  replace HB := Aside0.mk (below_step HB.out hb)
  clear hb
  clear x10_0 e0 e1 e2 e3
  go_upto_region 10 with (first | (refine load_cell_ rfl 23 _ rfl g9 0 rfl (.int .u16 ((unitI (dU a l x y)))) ((blk_cell K9.out 0).trans rfl) (fun _ => by kernel_rfl) ?_) | (go_at_call 34; (with_reducible refine at_args #[.int .u16 ((unitI (dU a l x y)))] ?_); (with_reducible refine (cor_c _ UB.out.1 (by have := UB.out.2; omega) _).mono ?_); rintro e wd ⟨rfl, ⟨nd, hd⟩⟩; have hb := drawn_below_ hd; clear hd; (try replace HE := Aside0.mk (Kd.R_below HE.out hb)); (try replace HF := Aside0.mk (Kd.R_below HF.out hb)); (try replace HG := Aside0.mk (Kd.R_below HG.out hb)); (try replace HC := Aside0.mk (Kd.R_below HC.out hb)); (try replace HO := Aside0.mk (Kd.R_below HO.out hb)); (try replace HR := Aside0.mk (Kd.R_below HR.out hb)); (try replace K1 := Aside0.mk (blk_below K1.out hb)); (try replace K7 := Aside0.mk (blk_below K7.out hb)); (try replace K8 := Aside0.mk (blk_below K8.out hb)); (try replace K9 := Aside0.mk (blk_below K9.out hb)); (try replace K10 := Aside0.mk (blk_below K10.out hb)); (try replace K15 := Aside0.mk (blk_below K15.out hb)); (try replace K16 := Aside0.mk (blk_below K16.out hb)); replace HB := Aside0.mk (below_step HB.out hb); clear hb) | (go_at_call 29; (with_reducible refine at_args #[.int .u16 (corI (unitI (dU a l x y)))] ?_); (with_reducible refine (value_c _ CV.out.1 (by have := CV.out.2; omega) _).mono ?_); rintro e wd ⟨rfl, ⟨nd, hd⟩⟩; have hb := drawn_below_ hd; clear hd; (try replace HE := Aside0.mk (Kd.R_below HE.out hb)); (try replace HF := Aside0.mk (Kd.R_below HF.out hb)); (try replace HG := Aside0.mk (Kd.R_below HG.out hb)); (try replace HC := Aside0.mk (Kd.R_below HC.out hb)); (try replace HO := Aside0.mk (Kd.R_below HO.out hb)); (try replace HR := Aside0.mk (Kd.R_below HR.out hb)); (try replace K1 := Aside0.mk (blk_below K1.out hb)); (try replace K7 := Aside0.mk (blk_below K7.out hb)); (try replace K8 := Aside0.mk (blk_below K8.out hb)); (try replace K9 := Aside0.mk (blk_below K9.out hb)); (try replace K10 := Aside0.mk (blk_below K10.out hb)); (try replace K15 := Aside0.mk (blk_below K15.out hb)); (try replace K16 := Aside0.mk (blk_below K16.out hb)); replace HB := Aside0.mk (below_step HB.out hb); clear hb))
  go_upto_region 12 with (first | fail)
  (try clear zz1 zz2 zz3 zz4 zz5 zz6 zz7 zz8 zz9 zz10 zz11 hS hO)
  go_upto_region 13 with (first | (go_at_call 31; (with_reducible refine at_args #[.string (⟨#[68, 67, 65]⟩ : ByteArray), .int .i64 100] ?_); (with_reducible refine (KC2.out _).mono ?_); rintro e wc ⟨rfl, hb⟩; (try replace HE := Aside0.mk (Kd.R_below HE.out hb)); (try replace HF := Aside0.mk (Kd.R_below HF.out hb)); (try replace HG := Aside0.mk (Kd.R_below HG.out hb)); (try replace HC := Aside0.mk (Kd.R_below HC.out hb)); (try replace HO := Aside0.mk (Kd.R_below HO.out hb)); (try replace HR := Aside0.mk (Kd.R_below HR.out hb)); (try replace K1 := Aside0.mk (blk_below K1.out hb)); (try replace K7 := Aside0.mk (blk_below K7.out hb)); (try replace K8 := Aside0.mk (blk_below K8.out hb)); (try replace K9 := Aside0.mk (blk_below K9.out hb)); (try replace K10 := Aside0.mk (blk_below K10.out hb)); (try replace K15 := Aside0.mk (blk_below K15.out hb)); (try replace K16 := Aside0.mk (blk_below K16.out hb)); replace HB := Aside0.mk (below_step HB.out hb); clear hb) | (go_at_call 32; (with_reducible refine at_args #[.int .u16 12388, .int .u16 x, .int .u16 y] ?_); (with_reducible refine (KA2.out _).mono ?_); rintro e wc ⟨A2_0, A2_1, A2_2, d2_0, d2_1, d2_2, rfl, hE, hF, hG, hb⟩; have HBo := HB; (try replace HE := Aside0.mk (Kd.R_below HE.out hb)); (try replace HF := Aside0.mk (Kd.R_below HF.out hb)); (try replace HG := Aside0.mk (Kd.R_below HG.out hb)); (try replace HC := Aside0.mk (Kd.R_below HC.out hb)); (try replace HO := Aside0.mk (Kd.R_below HO.out hb)); (try replace HR := Aside0.mk (Kd.R_below HR.out hb)); (try replace K1 := Aside0.mk (blk_below K1.out hb)); (try replace K7 := Aside0.mk (blk_below K7.out hb)); (try replace K8 := Aside0.mk (blk_below K8.out hb)); (try replace K9 := Aside0.mk (blk_below K9.out hb)); (try replace K10 := Aside0.mk (blk_below K10.out hb)); (try replace K15 := Aside0.mk (blk_below K15.out hb)); (try replace K16 := Aside0.mk (blk_below K16.out hb)); replace HB := Aside0.mk (below_step HB.out hb); (try clear HE HF HG); have HE := Aside0.mk (Kd.R_lower hE HBo.out.size); have HF := Aside0.mk (Kd.R_lower hF HBo.out.size); have HG := Aside0.mk (Kd.R_lower hG HBo.out.size); clear hE hF hG hb HBo) | (refine store_row_g rfl 26 (.tmp 7) (.tmp 127) rfl g7 rfl 26 _ #[.int .u16 0, .int .u16 0, .int .u16 0, .int .i64 2048, .int .i64 0, .int .i64 0, .int .i64 0, .bool false, .int .u16 0, .bool false, .int .u16 0, .bool false, .bool false] rfl K7.out ?hi ?hs ?h1 ?_; (case hi => kernel_rfl); (case hs => rfl); (case h1 => kernel_rfl); intro ws hk hfar hbel hkp; (try replace HE := Aside0.mk (R_kb HE.out K7.out (fun q hq => by rw [ekI q hq]; decide) hkp)); (try replace HF := Aside0.mk (R_kb HF.out K7.out (fun q hq => by rw [ekI q hq]; decide) hkp)); (try replace HG := Aside0.mk (R_kb HG.out K7.out (fun q hq => by rw [ekI q hq]; decide) hkp)); (try replace HC := Aside0.mk (R_kb HC.out K7.out (fun q hq => by rw [ekC q hq]; decide) hkp)); (try replace HO := Aside0.mk (R_kb HO.out K7.out (fun q hq => by rw [ekC q hq]; decide) hkp)); (try replace HR := Aside0.mk (R_kb HR.out K7.out (fun q hq => by rw [ekS q hq]; decide) hkp)); replace HB := Aside0.mk (hbel _ _ HB.out L7.out); (try replace K1 := Aside0.mk ((hfar _ (by first | exact NE1_7.out | exact NE7_1.out.symm)).trans K1.out)); (try replace K7 := Aside0.mk ((hfar _ (by first | exact NE7_7.out | exact NE7_7.out.symm)).trans K7.out)); (try replace K8 := Aside0.mk ((hfar _ (by first | exact NE8_7.out | exact NE7_8.out.symm)).trans K8.out)); (try replace K9 := Aside0.mk ((hfar _ (by first | exact NE9_7.out | exact NE7_9.out.symm)).trans K9.out)); (try replace K10 := Aside0.mk ((hfar _ (by first | exact NE10_7.out | exact NE7_10.out.symm)).trans K10.out)); (try replace K15 := Aside0.mk ((hfar _ (by first | exact NE15_7.out | exact NE7_15.out.symm)).trans K15.out)); (try replace K16 := Aside0.mk ((hfar _ (by first | exact NE16_7.out | exact NE7_16.out.symm)).trans K16.out)); replace K7 := Aside0.mk hk; clear hk hfar hbel hkp) | (refine store_row_g rfl 29 (.tmp 8) (.tmp 128) rfl g8 rfl 29 _ #[.slice A2_0 102 d2_0, .slice A2_1 2049 d2_1, .slice A2_2 0 d2_2] rfl K8.out ?hi ?hs ?h1 ?_; (case hi => kernel_rfl); (case hs => rfl); (case h1 => kernel_rfl); intro ws hk hfar hbel hkp; (try replace HE := Aside0.mk (R_kb HE.out K8.out (fun q hq => by rw [ekI q hq]; decide) hkp)); (try replace HF := Aside0.mk (R_kb HF.out K8.out (fun q hq => by rw [ekI q hq]; decide) hkp)); (try replace HG := Aside0.mk (R_kb HG.out K8.out (fun q hq => by rw [ekI q hq]; decide) hkp)); (try replace HC := Aside0.mk (R_kb HC.out K8.out (fun q hq => by rw [ekC q hq]; decide) hkp)); (try replace HO := Aside0.mk (R_kb HO.out K8.out (fun q hq => by rw [ekC q hq]; decide) hkp)); (try replace HR := Aside0.mk (R_kb HR.out K8.out (fun q hq => by rw [ekS q hq]; decide) hkp)); replace HB := Aside0.mk (hbel _ _ HB.out L8.out); (try replace K1 := Aside0.mk ((hfar _ (by first | exact NE1_8.out | exact NE8_1.out.symm)).trans K1.out)); (try replace K7 := Aside0.mk ((hfar _ (by first | exact NE7_8.out | exact NE8_7.out.symm)).trans K7.out)); (try replace K8 := Aside0.mk ((hfar _ (by first | exact NE8_8.out | exact NE8_8.out.symm)).trans K8.out)); (try replace K9 := Aside0.mk ((hfar _ (by first | exact NE9_8.out | exact NE8_9.out.symm)).trans K9.out)); (try replace K10 := Aside0.mk ((hfar _ (by first | exact NE10_8.out | exact NE8_10.out.symm)).trans K10.out)); (try replace K15 := Aside0.mk ((hfar _ (by first | exact NE15_8.out | exact NE8_15.out.symm)).trans K15.out)); (try replace K16 := Aside0.mk ((hfar _ (by first | exact NE16_8.out | exact NE8_16.out.symm)).trans K16.out)); replace K8 := Aside0.mk hk; clear hk hfar hbel hkp))
  (try clear HC HO HR)
  go_upto_region 14 with (first | (refine store_cell_ rfl _ _ _ rfl g7 7 rfl (.bool true) rfl _ ((blk_cell K7.out 7).trans rfl) (blk_frozen K7.out 7) rfl rfl (by kernel_rfl) ?_; replace HE := Aside0.mk (show Kd.R _ _ (World.setCell _ ⟨g7, 7, none⟩ (.bool true)) _ _ _ _ from Kd.R_set HE.out K7.out (fun q hq => by rw [ekI q hq]; decide) 7 _); replace HF := Aside0.mk (show Kd.R _ _ (World.setCell _ ⟨g7, 7, none⟩ (.bool true)) _ _ _ _ from Kd.R_set HF.out K7.out (fun q hq => by rw [ekI q hq]; decide) 7 _); replace HG := Aside0.mk (show Kd.R _ _ (World.setCell _ ⟨g7, 7, none⟩ (.bool true)) _ _ _ _ from Kd.R_set HG.out K7.out (fun q hq => by rw [ekI q hq]; decide) 7 _); replace K8 := Aside0.mk (show (World.setCell _ ⟨g7, 7, none⟩ (.bool true)).heap[g8]? = _ from blk_far K8.out (by first | exact NE8_7.out | exact NE7_8.out.symm) _); replace K9 := Aside0.mk (show (World.setCell _ ⟨g7, 7, none⟩ (.bool true)).heap[g9]? = _ from blk_far K9.out (by first | exact NE9_7.out | exact NE7_9.out.symm) _); replace K10 := Aside0.mk (show (World.setCell _ ⟨g7, 7, none⟩ (.bool true)).heap[g10]? = _ from blk_far K10.out (by first | exact NE10_7.out | exact NE7_10.out.symm) _); replace HB := Aside0.mk (show Below _ _ (World.setCell _ ⟨g7, 7, none⟩ (.bool true)) from below_set HB.out L7.out); replace K7 := Aside0.mk (show (World.setCell _ ⟨g7, 7, none⟩ (.bool true)).heap[g7]? = some (.cells #[.int .u16 0, .int .u16 0, .int .u16 0, .int .i64 2048, .int .i64 0, .int .i64 0, .int .i64 0, .bool true, .int .u16 0, .bool false, .int .u16 0, .bool false, .bool false] 26 (0, 0)) from blk_put K7.out 7 _ rfl); generalize World.setCell _ ⟨g7, 7, none⟩ (.bool true) = ws at K10 K7 K8 K9 HB HE HF HG ⊢))
  go_upto_region 15 with (first | (refine load_row_ rfl 26 _ rfl g7 rfl #[.int .u16 0, .int .u16 0, .int .u16 0, .int .i64 2048, .int .i64 0, .int .i64 0, .int .i64 0, .bool true, .int .u16 0, .bool false, .int .u16 0, .bool false, .bool false] _ K7.out _ Tryz.underlying26 rfl (by kernel_rfl) ?_) | (refine load_row_ rfl 29 _ rfl g8 rfl #[.slice A2_0 102 d2_0, .slice A2_1 2049 d2_1, .slice A2_2 0 d2_2] _ K8.out _ Tryz.underlying29 rfl (by kernel_rfl) ?_) | (go_at_call 21; (with_reducible refine at_args #[.agg #[.int .u16 0, .int .u16 0, .int .u16 0, .int .i64 2048, .int .i64 0, .int .i64 0, .int .i64 0, .bool true, .int .u16 0, .bool false, .int .u16 0, .bool false, .bool false], .agg #[.slice A2_0 _ d2_0, .slice A2_1 _ d2_1, .slice A2_2 _ d2_2]] ?_); (with_reducible refine (KS2.out _ HE.out HF.out HG.out).mono ?_); rintro e wc ⟨vC, vO, vR, rfl, hC, hO, hR, hb⟩; obtain ⟨AC2, eC2, rfl⟩ := Kd.R_slice hC; obtain ⟨AO2, eO2, rfl⟩ := Kd.R_slice hO; obtain ⟨AR2, eR2, rfl⟩ := Kd.R_slice hR; have HBo := HB; (try replace HE := Aside0.mk (Kd.R_below HE.out hb)); (try replace HF := Aside0.mk (Kd.R_below HF.out hb)); (try replace HG := Aside0.mk (Kd.R_below HG.out hb)); (try replace HC := Aside0.mk (Kd.R_below HC.out hb)); (try replace HO := Aside0.mk (Kd.R_below HO.out hb)); (try replace HR := Aside0.mk (Kd.R_below HR.out hb)); (try replace K1 := Aside0.mk (blk_below K1.out hb)); (try replace K7 := Aside0.mk (blk_below K7.out hb)); (try replace K8 := Aside0.mk (blk_below K8.out hb)); (try replace K9 := Aside0.mk (blk_below K9.out hb)); (try replace K10 := Aside0.mk (blk_below K10.out hb)); (try replace K15 := Aside0.mk (blk_below K15.out hb)); (try replace K16 := Aside0.mk (blk_below K16.out hb)); replace HB := Aside0.mk (below_step HB.out hb); (try clear HC HO HR); have HC := Aside0.mk (Kd.R_mono (Kd.R_lower hC HBo.out.size) (fun _ _ => trivial)); have HO := Aside0.mk (Kd.R_mono (Kd.R_lower hO HBo.out.size) (fun _ _ => trivial)); have HR := Aside0.mk (Kd.R_lower hR HBo.out.size); clear hC hO hR hb HBo) | (refine store_row_g rfl 26 (.tmp 9) (.tmp 134) rfl g9 rfl 26 _ #[.int .u16 ((extI x)), .int .u16 y, .int .u16 0, .int .i64 2049, .int .i64 0, .int .i64 0, .int .i64 0, .bool false, .int .u16 0, .bool false, .int .u16 0, .bool false, .bool false] rfl K9.out ?hi ?hs ?h1 ?_; (case hi => kernel_rfl); (case hs => rfl); (case h1 => kernel_rfl); intro ws hk hfar hbel hkp; (try replace HE := Aside0.mk (R_kb HE.out K9.out (fun q hq => by rw [ekI q hq]; decide) hkp)); (try replace HF := Aside0.mk (R_kb HF.out K9.out (fun q hq => by rw [ekI q hq]; decide) hkp)); (try replace HG := Aside0.mk (R_kb HG.out K9.out (fun q hq => by rw [ekI q hq]; decide) hkp)); (try replace HC := Aside0.mk (R_kb HC.out K9.out (fun q hq => by rw [ekC q hq]; decide) hkp)); (try replace HO := Aside0.mk (R_kb HO.out K9.out (fun q hq => by rw [ekC q hq]; decide) hkp)); (try replace HR := Aside0.mk (R_kb HR.out K9.out (fun q hq => by rw [ekS q hq]; decide) hkp)); replace HB := Aside0.mk (hbel _ _ HB.out L9.out); (try replace K1 := Aside0.mk ((hfar _ (by first | exact NE1_9.out | exact NE9_1.out.symm)).trans K1.out)); (try replace K7 := Aside0.mk ((hfar _ (by first | exact NE7_9.out | exact NE9_7.out.symm)).trans K7.out)); (try replace K8 := Aside0.mk ((hfar _ (by first | exact NE8_9.out | exact NE9_8.out.symm)).trans K8.out)); (try replace K9 := Aside0.mk ((hfar _ (by first | exact NE9_9.out | exact NE9_9.out.symm)).trans K9.out)); (try replace K10 := Aside0.mk ((hfar _ (by first | exact NE10_9.out | exact NE9_10.out.symm)).trans K10.out)); (try replace K15 := Aside0.mk ((hfar _ (by first | exact NE15_9.out | exact NE9_15.out.symm)).trans K15.out)); (try replace K16 := Aside0.mk ((hfar _ (by first | exact NE16_9.out | exact NE9_16.out.symm)).trans K16.out)); replace K9 := Aside0.mk hk; clear hk hfar hbel hkp))
  go_upto_region 16 with (first | (go_at_call 31; (with_reducible refine at_args #[.string (⟨#[68, 67, 83]⟩ : ByteArray), .int .i64 100] ?_); (with_reducible refine (KC3.out _).mono ?_); rintro e wc ⟨rfl, hb⟩; (try replace HE := Aside0.mk (Kd.R_below HE.out hb)); (try replace HF := Aside0.mk (Kd.R_below HF.out hb)); (try replace HG := Aside0.mk (Kd.R_below HG.out hb)); (try replace HC := Aside0.mk (Kd.R_below HC.out hb)); (try replace HO := Aside0.mk (Kd.R_below HO.out hb)); (try replace HR := Aside0.mk (Kd.R_below HR.out hb)); (try replace K1 := Aside0.mk (blk_below K1.out hb)); (try replace K7 := Aside0.mk (blk_below K7.out hb)); (try replace K8 := Aside0.mk (blk_below K8.out hb)); (try replace K9 := Aside0.mk (blk_below K9.out hb)); (try replace K10 := Aside0.mk (blk_below K10.out hb)); (try replace K15 := Aside0.mk (blk_below K15.out hb)); (try replace K16 := Aside0.mk (blk_below K16.out hb)); replace HB := Aside0.mk (below_step HB.out hb); clear hb) | (go_at_call 32; (with_reducible refine at_args #[.int .u16 16484, .int .u16 x, .int .u16 y] ?_); (with_reducible refine (KA3.out _).mono ?_); rintro e wc ⟨A3_0, A3_1, A3_2, d3_0, d3_1, d3_2, rfl, hE, hF, hG, hb⟩; have HBo := HB; (try replace HE := Aside0.mk (Kd.R_below HE.out hb)); (try replace HF := Aside0.mk (Kd.R_below HF.out hb)); (try replace HG := Aside0.mk (Kd.R_below HG.out hb)); (try replace HC := Aside0.mk (Kd.R_below HC.out hb)); (try replace HO := Aside0.mk (Kd.R_below HO.out hb)); (try replace HR := Aside0.mk (Kd.R_below HR.out hb)); (try replace K1 := Aside0.mk (blk_below K1.out hb)); (try replace K7 := Aside0.mk (blk_below K7.out hb)); (try replace K8 := Aside0.mk (blk_below K8.out hb)); (try replace K9 := Aside0.mk (blk_below K9.out hb)); (try replace K10 := Aside0.mk (blk_below K10.out hb)); (try replace K15 := Aside0.mk (blk_below K15.out hb)); (try replace K16 := Aside0.mk (blk_below K16.out hb)); replace HB := Aside0.mk (below_step HB.out hb); (try clear HE HF HG); have HE := Aside0.mk (Kd.R_lower hE HBo.out.size); have HF := Aside0.mk (Kd.R_lower hF HBo.out.size); have HG := Aside0.mk (Kd.R_lower hG HBo.out.size); clear hE hF hG hb HBo) | (refine store_row_g rfl 26 (.tmp 7) (.tmp 142) rfl g7 rfl 26 _ #[.int .u16 0, .int .u16 0, .int .u16 0, .int .i64 2048, .int .i64 0, .int .i64 0, .int .i64 0, .bool false, .int .u16 0, .bool false, .int .u16 0, .bool false, .bool false] rfl K7.out ?hi ?hs ?h1 ?_; (case hi => kernel_rfl); (case hs => rfl); (case h1 => kernel_rfl); intro ws hk hfar hbel hkp; (try replace HE := Aside0.mk (R_kb HE.out K7.out (fun q hq => by rw [ekI q hq]; decide) hkp)); (try replace HF := Aside0.mk (R_kb HF.out K7.out (fun q hq => by rw [ekI q hq]; decide) hkp)); (try replace HG := Aside0.mk (R_kb HG.out K7.out (fun q hq => by rw [ekI q hq]; decide) hkp)); (try replace HC := Aside0.mk (R_kb HC.out K7.out (fun q hq => by rw [ekC q hq]; decide) hkp)); (try replace HO := Aside0.mk (R_kb HO.out K7.out (fun q hq => by rw [ekC q hq]; decide) hkp)); (try replace HR := Aside0.mk (R_kb HR.out K7.out (fun q hq => by rw [ekS q hq]; decide) hkp)); replace HB := Aside0.mk (hbel _ _ HB.out L7.out); (try replace K1 := Aside0.mk ((hfar _ (by first | exact NE1_7.out | exact NE7_1.out.symm)).trans K1.out)); (try replace K7 := Aside0.mk ((hfar _ (by first | exact NE7_7.out | exact NE7_7.out.symm)).trans K7.out)); (try replace K8 := Aside0.mk ((hfar _ (by first | exact NE8_7.out | exact NE7_8.out.symm)).trans K8.out)); (try replace K9 := Aside0.mk ((hfar _ (by first | exact NE9_7.out | exact NE7_9.out.symm)).trans K9.out)); (try replace K10 := Aside0.mk ((hfar _ (by first | exact NE10_7.out | exact NE7_10.out.symm)).trans K10.out)); (try replace K15 := Aside0.mk ((hfar _ (by first | exact NE15_7.out | exact NE7_15.out.symm)).trans K15.out)); (try replace K16 := Aside0.mk ((hfar _ (by first | exact NE16_7.out | exact NE7_16.out.symm)).trans K16.out)); replace K7 := Aside0.mk hk; clear hk hfar hbel hkp) | (refine store_row_g rfl 29 (.tmp 8) (.tmp 143) rfl g8 rfl 29 _ #[.slice A3_0 102 d3_0, .slice A3_1 2049 d3_1, .slice A3_2 0 d3_2] rfl K8.out ?hi ?hs ?h1 ?_; (case hi => kernel_rfl); (case hs => rfl); (case h1 => kernel_rfl); intro ws hk hfar hbel hkp; (try replace HE := Aside0.mk (R_kb HE.out K8.out (fun q hq => by rw [ekI q hq]; decide) hkp)); (try replace HF := Aside0.mk (R_kb HF.out K8.out (fun q hq => by rw [ekI q hq]; decide) hkp)); (try replace HG := Aside0.mk (R_kb HG.out K8.out (fun q hq => by rw [ekI q hq]; decide) hkp)); (try replace HC := Aside0.mk (R_kb HC.out K8.out (fun q hq => by rw [ekC q hq]; decide) hkp)); (try replace HO := Aside0.mk (R_kb HO.out K8.out (fun q hq => by rw [ekC q hq]; decide) hkp)); (try replace HR := Aside0.mk (R_kb HR.out K8.out (fun q hq => by rw [ekS q hq]; decide) hkp)); replace HB := Aside0.mk (hbel _ _ HB.out L8.out); (try replace K1 := Aside0.mk ((hfar _ (by first | exact NE1_8.out | exact NE8_1.out.symm)).trans K1.out)); (try replace K7 := Aside0.mk ((hfar _ (by first | exact NE7_8.out | exact NE8_7.out.symm)).trans K7.out)); (try replace K8 := Aside0.mk ((hfar _ (by first | exact NE8_8.out | exact NE8_8.out.symm)).trans K8.out)); (try replace K9 := Aside0.mk ((hfar _ (by first | exact NE9_8.out | exact NE8_9.out.symm)).trans K9.out)); (try replace K10 := Aside0.mk ((hfar _ (by first | exact NE10_8.out | exact NE8_10.out.symm)).trans K10.out)); (try replace K15 := Aside0.mk ((hfar _ (by first | exact NE15_8.out | exact NE8_15.out.symm)).trans K15.out)); (try replace K16 := Aside0.mk ((hfar _ (by first | exact NE16_8.out | exact NE8_16.out.symm)).trans K16.out)); replace K8 := Aside0.mk hk; clear hk hfar hbel hkp))
  (try clear HC HO HR)
  go_upto_region 17 with (first | (refine store_cell_ rfl _ _ _ rfl g7 7 rfl (.bool true) rfl _ ((blk_cell K7.out 7).trans rfl) (blk_frozen K7.out 7) rfl rfl (by kernel_rfl) ?_; replace HE := Aside0.mk (show Kd.R _ _ (World.setCell _ ⟨g7, 7, none⟩ (.bool true)) _ _ _ _ from Kd.R_set HE.out K7.out (fun q hq => by rw [ekI q hq]; decide) 7 _); replace HF := Aside0.mk (show Kd.R _ _ (World.setCell _ ⟨g7, 7, none⟩ (.bool true)) _ _ _ _ from Kd.R_set HF.out K7.out (fun q hq => by rw [ekI q hq]; decide) 7 _); replace HG := Aside0.mk (show Kd.R _ _ (World.setCell _ ⟨g7, 7, none⟩ (.bool true)) _ _ _ _ from Kd.R_set HG.out K7.out (fun q hq => by rw [ekI q hq]; decide) 7 _); replace K8 := Aside0.mk (show (World.setCell _ ⟨g7, 7, none⟩ (.bool true)).heap[g8]? = _ from blk_far K8.out (by first | exact NE8_7.out | exact NE7_8.out.symm) _); replace K9 := Aside0.mk (show (World.setCell _ ⟨g7, 7, none⟩ (.bool true)).heap[g9]? = _ from blk_far K9.out (by first | exact NE9_7.out | exact NE7_9.out.symm) _); replace K10 := Aside0.mk (show (World.setCell _ ⟨g7, 7, none⟩ (.bool true)).heap[g10]? = _ from blk_far K10.out (by first | exact NE10_7.out | exact NE7_10.out.symm) _); replace HB := Aside0.mk (show Below _ _ (World.setCell _ ⟨g7, 7, none⟩ (.bool true)) from below_set HB.out L7.out); replace K7 := Aside0.mk (show (World.setCell _ ⟨g7, 7, none⟩ (.bool true)).heap[g7]? = some (.cells #[.int .u16 0, .int .u16 0, .int .u16 0, .int .i64 2048, .int .i64 0, .int .i64 0, .int .i64 0, .bool true, .int .u16 0, .bool false, .int .u16 0, .bool false, .bool false] 26 (0, 0)) from blk_put K7.out 7 _ rfl); generalize World.setCell _ ⟨g7, 7, none⟩ (.bool true) = ws at K10 K7 K8 K9 HB HE HF HG ⊢))
  go_upto_region 18 with (first | (refine load_row_ rfl 26 _ rfl g7 rfl #[.int .u16 0, .int .u16 0, .int .u16 0, .int .i64 2048, .int .i64 0, .int .i64 0, .int .i64 0, .bool true, .int .u16 0, .bool false, .int .u16 0, .bool false, .bool false] _ K7.out _ Tryz.underlying26 rfl (by kernel_rfl) ?_) | (refine load_row_ rfl 29 _ rfl g8 rfl #[.slice A3_0 102 d3_0, .slice A3_1 2049 d3_1, .slice A3_2 0 d3_2] _ K8.out _ Tryz.underlying29 rfl (by kernel_rfl) ?_) | (go_at_call 21; (with_reducible refine at_args #[.agg #[.int .u16 0, .int .u16 0, .int .u16 0, .int .i64 2048, .int .i64 0, .int .i64 0, .int .i64 0, .bool true, .int .u16 0, .bool false, .int .u16 0, .bool false, .bool false], .agg #[.slice A3_0 _ d3_0, .slice A3_1 _ d3_1, .slice A3_2 _ d3_2]] ?_); (with_reducible refine (KS3.out _ HE.out HF.out HG.out).mono ?_); rintro e wc ⟨vC, vO, vR, rfl, hC, hO, hR, hb⟩; obtain ⟨AC3, eC3, rfl⟩ := Kd.R_slice hC; obtain ⟨AO3, eO3, rfl⟩ := Kd.R_slice hO; obtain ⟨AR3, eR3, rfl⟩ := Kd.R_slice hR; have HBo := HB; (try replace HE := Aside0.mk (Kd.R_below HE.out hb)); (try replace HF := Aside0.mk (Kd.R_below HF.out hb)); (try replace HG := Aside0.mk (Kd.R_below HG.out hb)); (try replace HC := Aside0.mk (Kd.R_below HC.out hb)); (try replace HO := Aside0.mk (Kd.R_below HO.out hb)); (try replace HR := Aside0.mk (Kd.R_below HR.out hb)); (try replace K1 := Aside0.mk (blk_below K1.out hb)); (try replace K7 := Aside0.mk (blk_below K7.out hb)); (try replace K8 := Aside0.mk (blk_below K8.out hb)); (try replace K9 := Aside0.mk (blk_below K9.out hb)); (try replace K10 := Aside0.mk (blk_below K10.out hb)); (try replace K15 := Aside0.mk (blk_below K15.out hb)); (try replace K16 := Aside0.mk (blk_below K16.out hb)); replace HB := Aside0.mk (below_step HB.out hb); (try clear HC HO HR); have HC := Aside0.mk (Kd.R_mono (Kd.R_lower hC HBo.out.size) (fun _ _ => trivial)); have HO := Aside0.mk (Kd.R_mono (Kd.R_lower hO HBo.out.size) (fun _ _ => trivial)); have HR := Aside0.mk (Kd.R_lower hR HBo.out.size); clear hC hO hR hb HBo) | ((with_reducible refine gate_dst (N := 15) rfl ?_); refine box_event ?hg (N := 15) ?hd (cs := #[.int .u16 0, .int .u16 0, .int .u16 0, .int .i64 0, .int .i64 0, .int .i64 0, .int .i64 0, .bool false, .int .u16 0, .bool false, .int .u16 0, .bool false, .bool false]) (t := 26) ?hr ?_; (case hd => rfl); (case hg => rfl); (case hr => first | kernel_rfl | (go_simp; done) | (go_simp; rfl)); intro g15 hg wb K hb; (try have NE1_15 := Aside0.mk (show g1 ≠ g15 from by have := blk_lt K1.out; rw [hg]; omega)); (try have NE7_15 := Aside0.mk (show g7 ≠ g15 from by have := blk_lt K7.out; rw [hg]; omega)); (try have NE8_15 := Aside0.mk (show g8 ≠ g15 from by have := blk_lt K8.out; rw [hg]; omega)); (try have NE9_15 := Aside0.mk (show g9 ≠ g15 from by have := blk_lt K9.out; rw [hg]; omega)); (try have NE10_15 := Aside0.mk (show g10 ≠ g15 from by have := blk_lt K10.out; rw [hg]; omega)); (try have NE15_15 := Aside0.mk (show g15 ≠ g15 from by have := blk_lt K15.out; rw [hg]; omega)); (try have NE16_15 := Aside0.mk (show g16 ≠ g15 from by have := blk_lt K16.out; rw [hg]; omega)); have L15 := Aside0.mk (show w.heap.size ≤ g15 from by rw [hg]; exact HB.out.size); (try replace HE := Aside0.mk (Kd.R_below HE.out hb)); (try replace HF := Aside0.mk (Kd.R_below HF.out hb)); (try replace HG := Aside0.mk (Kd.R_below HG.out hb)); (try replace HC := Aside0.mk (Kd.R_below HC.out hb)); (try replace HO := Aside0.mk (Kd.R_below HO.out hb)); (try replace HR := Aside0.mk (Kd.R_below HR.out hb)); (try replace K1 := Aside0.mk (blk_below K1.out hb)); (try replace K7 := Aside0.mk (blk_below K7.out hb)); (try replace K8 := Aside0.mk (blk_below K8.out hb)); (try replace K9 := Aside0.mk (blk_below K9.out hb)); (try replace K10 := Aside0.mk (blk_below K10.out hb)); (try replace K15 := Aside0.mk (blk_below K15.out hb)); (try replace K16 := Aside0.mk (blk_below K16.out hb)); replace HB := Aside0.mk (below_step HB.out hb); have K15 := Aside0.mk K; clear K hb hg) | ((with_reducible refine gate_dst (N := 16) rfl ?_); refine box_event ?hg (N := 16) ?hd (cs := #[.slice none 0 0, .slice none 0 0, .slice none 0 0, .int .i64 0, .int .u8 0]) (t := 48) ?hr ?_; (case hd => rfl); (case hg => rfl); (case hr => first | kernel_rfl | (go_simp; done) | (go_simp; rfl)); intro g16 hg wb K hb; (try have NE1_16 := Aside0.mk (show g1 ≠ g16 from by have := blk_lt K1.out; rw [hg]; omega)); (try have NE7_16 := Aside0.mk (show g7 ≠ g16 from by have := blk_lt K7.out; rw [hg]; omega)); (try have NE8_16 := Aside0.mk (show g8 ≠ g16 from by have := blk_lt K8.out; rw [hg]; omega)); (try have NE9_16 := Aside0.mk (show g9 ≠ g16 from by have := blk_lt K9.out; rw [hg]; omega)); (try have NE10_16 := Aside0.mk (show g10 ≠ g16 from by have := blk_lt K10.out; rw [hg]; omega)); (try have NE15_16 := Aside0.mk (show g15 ≠ g16 from by have := blk_lt K15.out; rw [hg]; omega)); (try have NE16_16 := Aside0.mk (show g16 ≠ g16 from by have := blk_lt K16.out; rw [hg]; omega)); have L16 := Aside0.mk (show w.heap.size ≤ g16 from by rw [hg]; exact HB.out.size); (try replace HE := Aside0.mk (Kd.R_below HE.out hb)); (try replace HF := Aside0.mk (Kd.R_below HF.out hb)); (try replace HG := Aside0.mk (Kd.R_below HG.out hb)); (try replace HC := Aside0.mk (Kd.R_below HC.out hb)); (try replace HO := Aside0.mk (Kd.R_below HO.out hb)); (try replace HR := Aside0.mk (Kd.R_below HR.out hb)); (try replace K1 := Aside0.mk (blk_below K1.out hb)); (try replace K7 := Aside0.mk (blk_below K7.out hb)); (try replace K8 := Aside0.mk (blk_below K8.out hb)); (try replace K9 := Aside0.mk (blk_below K9.out hb)); (try replace K10 := Aside0.mk (blk_below K10.out hb)); (try replace K15 := Aside0.mk (blk_below K15.out hb)); (try replace K16 := Aside0.mk (blk_below K16.out hb)); replace HB := Aside0.mk (below_step HB.out hb); have K16 := Aside0.mk K; clear K hb hg) | (refine store_row_g rfl 26 (.tmp 15) (.tmp 149) rfl g15 rfl 26 _ #[.int .u16 ((negAccI (extI x))), .int .u16 ((negI y)), .int .u16 0, .int .i64 2049, .int .i64 0, .int .i64 0, .int .i64 0, .bool false, .int .u16 0, .bool false, .int .u16 0, .bool false, .bool false] rfl K15.out ?hi ?hs ?h1 ?_; (case hi => kernel_rfl); (case hs => rfl); (case h1 => kernel_rfl); intro ws hk hfar hbel hkp; (try replace HE := Aside0.mk (R_kb HE.out K15.out (fun q hq => by rw [ekI q hq]; decide) hkp)); (try replace HF := Aside0.mk (R_kb HF.out K15.out (fun q hq => by rw [ekI q hq]; decide) hkp)); (try replace HG := Aside0.mk (R_kb HG.out K15.out (fun q hq => by rw [ekI q hq]; decide) hkp)); (try replace HC := Aside0.mk (R_kb HC.out K15.out (fun q hq => by rw [ekC q hq]; decide) hkp)); (try replace HO := Aside0.mk (R_kb HO.out K15.out (fun q hq => by rw [ekC q hq]; decide) hkp)); (try replace HR := Aside0.mk (R_kb HR.out K15.out (fun q hq => by rw [ekS q hq]; decide) hkp)); replace HB := Aside0.mk (hbel _ _ HB.out L15.out); (try replace K1 := Aside0.mk ((hfar _ (by first | exact NE1_15.out | exact NE15_1.out.symm)).trans K1.out)); (try replace K7 := Aside0.mk ((hfar _ (by first | exact NE7_15.out | exact NE15_7.out.symm)).trans K7.out)); (try replace K8 := Aside0.mk ((hfar _ (by first | exact NE8_15.out | exact NE15_8.out.symm)).trans K8.out)); (try replace K9 := Aside0.mk ((hfar _ (by first | exact NE9_15.out | exact NE15_9.out.symm)).trans K9.out)); (try replace K10 := Aside0.mk ((hfar _ (by first | exact NE10_15.out | exact NE15_10.out.symm)).trans K10.out)); (try replace K15 := Aside0.mk ((hfar _ (by first | exact NE15_15.out | exact NE15_15.out.symm)).trans K15.out)); (try replace K16 := Aside0.mk ((hfar _ (by first | exact NE16_15.out | exact NE15_16.out.symm)).trans K16.out)); replace K15 := Aside0.mk hk; clear hk hfar hbel hkp) | (refine store_row_g rfl 48 (.tmp 16) (.tmp 150) rfl g16 rfl 48 _ #[.slice AC3 0 eC3, .slice AO3 0 eO3, .slice AR3 3 eR3, .int .i64 3, .int .u8 35] rfl K16.out ?hi ?hs ?h1 ?_; (case hi => kernel_rfl); (case hs => rfl); (case h1 => kernel_rfl); intro ws hk hfar hbel hkp; (try replace HE := Aside0.mk (R_kb HE.out K16.out (fun q hq => by rw [ekI q hq]; decide) hkp)); (try replace HF := Aside0.mk (R_kb HF.out K16.out (fun q hq => by rw [ekI q hq]; decide) hkp)); (try replace HG := Aside0.mk (R_kb HG.out K16.out (fun q hq => by rw [ekI q hq]; decide) hkp)); (try replace HC := Aside0.mk (R_kb HC.out K16.out (fun q hq => by rw [ekC q hq]; decide) hkp)); (try replace HO := Aside0.mk (R_kb HO.out K16.out (fun q hq => by rw [ekC q hq]; decide) hkp)); (try replace HR := Aside0.mk (R_kb HR.out K16.out (fun q hq => by rw [ekS q hq]; decide) hkp)); replace HB := Aside0.mk (hbel _ _ HB.out L16.out); (try replace K1 := Aside0.mk ((hfar _ (by first | exact NE1_16.out | exact NE16_1.out.symm)).trans K1.out)); (try replace K7 := Aside0.mk ((hfar _ (by first | exact NE7_16.out | exact NE16_7.out.symm)).trans K7.out)); (try replace K8 := Aside0.mk ((hfar _ (by first | exact NE8_16.out | exact NE16_8.out.symm)).trans K8.out)); (try replace K9 := Aside0.mk ((hfar _ (by first | exact NE9_16.out | exact NE16_9.out.symm)).trans K9.out)); (try replace K10 := Aside0.mk ((hfar _ (by first | exact NE10_16.out | exact NE16_10.out.symm)).trans K10.out)); (try replace K15 := Aside0.mk ((hfar _ (by first | exact NE15_16.out | exact NE16_15.out.symm)).trans K15.out)); (try replace K16 := Aside0.mk ((hfar _ (by first | exact NE16_16.out | exact NE16_16.out.symm)).trans K16.out)); replace K16 := Aside0.mk hk; clear hk hfar hbel hkp))
  refine start_ (n := 43) (S := fun w' => w'.cell? ⟨g9, 0, none⟩ = some (.int .u16 ((extI x))) ∧ w'.cell? ⟨g9, 1, none⟩ = some (.int .u16 y) ∧ w'.cell? ⟨g9, 7, none⟩ = some (.bool false) ∧ w'.cell? ⟨g15, 0, none⟩ = some (.int .u16 ((negAccI (extI x)))) ∧ w'.cell? ⟨g15, 1, none⟩ = some (.int .u16 ((negI y)))) (ds := []) #[false, false, false, false, false, false, false, false, false, false, false, false, false, false, false, false, false, false, false, false, false, false, false, false, false, false, false, false, false, false, false, false, false, false, false, false, false, false, false, false, false, false, false] (by kernel_rfl) rfl rfl ⟨(blk_cell K9.out 0).trans rfl, (blk_cell K9.out 1).trans rfl, (blk_cell K9.out 7).trans rfl, (blk_cell K15.out 0).trans rfl, (blk_cell K15.out 1).trans rfl⟩ (fun hHeld => ?_)
  clear HE HF HG HC HO HR
  replace K9 := Aside0.mk (blk_drew K9.out)
  replace K15 := Aside0.mk (blk_drew K15.out)
  replace HB := Aside0.mk (below_drew1 HB.out)
  generalize ws.drew = wd at K9 K15 HB hHeld ⊢
  refine pure_ (i := 0) (N := some 152) (v := ?_) (a' := ?_) #[true, false, false, false, false, false, false, false, false, false, false, false, false, false, false, false, false, false, false, false, false, false, false, false, false, false, false, false, false, false, false, false, false, false, false, false, false, false, false, false, false, false, false] rfl rfl (by kernel_rfl) (fun _ _ _ h => h) (Or.inl ⟨by rfl, ?_⟩) ?_ ?_
  rotate_left
  · intro w'
    go_simp
    with_reducible rfl
  rotate_left
  · simp only [Act.put, List.setIfInBounds_toArray, List.set_cons_zero, List.set_cons_succ, i64_w, i32_w]
    rfl
  refine pure_ (i := 1) (N := some 153) (v := ?_) (a' := ?_) #[true, true, false, false, false, false, false, false, false, false, false, false, false, false, false, false, false, false, false, false, false, false, false, false, false, false, false, false, false, false, false, false, false, false, false, false, false, false, false, false, false, false, false] rfl rfl (by kernel_rfl) (fun _ _ _ h => h) (Or.inl ⟨by rfl, ?_⟩) ?_ ?_
  rotate_left
  · intro w'
    go_simp
    with_reducible rfl
  rotate_left
  · simp only [Act.put, List.setIfInBounds_toArray, List.set_cons_zero, List.set_cons_succ, i64_w, i32_w]
    rfl
  refine pure_ (i := 2) (N := some 154) (v := ?_) (a' := ?_) #[true, true, true, false, false, false, false, false, false, false, false, false, false, false, false, false, false, false, false, false, false, false, false, false, false, false, false, false, false, false, false, false, false, false, false, false, false, false, false, false, false, false, false] rfl rfl (by kernel_rfl) (fun _ _ _ h => h) (Or.inl ⟨by rfl, ?_⟩) ?_ ?_
  rotate_left
  · intro w'
    go_simp
    with_reducible rfl
  rotate_left
  · simp only [Act.put, List.setIfInBounds_toArray, List.set_cons_zero, List.set_cons_succ, i64_w, i32_w]
    rfl
  refine pure_ (i := 3) (N := some 155) (v := ?_) (a' := ?_) #[true, true, true, true, false, false, false, false, false, false, false, false, false, false, false, false, false, false, false, false, false, false, false, false, false, false, false, false, false, false, false, false, false, false, false, false, false, false, false, false, false, false, false] rfl rfl (by kernel_rfl) (fun _ _ _ h => h) (Or.inl ⟨by rfl, ?_⟩) ?_ ?_
  rotate_left
  · intro w'
    go_simp
    with_reducible rfl
  rotate_left
  · simp only [Act.put, List.setIfInBounds_toArray, List.set_cons_zero, List.set_cons_succ, i64_w, i32_w]
    rfl
  refine pure_ (i := 4) (N := some 156) (v := ?_) (a' := ?_) #[true, true, true, true, true, false, false, false, false, false, false, false, false, false, false, false, false, false, false, false, false, false, false, false, false, false, false, false, false, false, false, false, false, false, false, false, false, false, false, false, false, false, false] rfl rfl (by kernel_rfl) (fun _ _ _ h => h) (Or.inl ⟨by rfl, ?_⟩) ?_ ?_
  rotate_left
  · intro w'
    go_simp
    with_reducible rfl
  rotate_left
  · simp only [Act.put, List.setIfInBounds_toArray, List.set_cons_zero, List.set_cons_succ, i64_w, i32_w]
    rfl
  refine pure_ (i := 5) (N := some 157) (v := ?_) (a' := ?_) #[true, true, true, true, true, true, false, false, false, false, false, false, false, false, false, false, false, false, false, false, false, false, false, false, false, false, false, false, false, false, false, false, false, false, false, false, false, false, false, false, false, false, false] rfl rfl (by kernel_rfl) (fun _ _ _ h => h) (Or.inl ⟨by rfl, ?_⟩) ?_ ?_
  rotate_left
  · intro w'
    go_simp
    with_reducible rfl
  rotate_left
  · simp only [Act.put, List.setIfInBounds_toArray, List.set_cons_zero, List.set_cons_succ, i64_w, i32_w]
    rfl
  refine pure_ (i := 6) (N := some 158) (v := ?_) (a' := ?_) #[true, true, true, true, true, true, true, false, false, false, false, false, false, false, false, false, false, false, false, false, false, false, false, false, false, false, false, false, false, false, false, false, false, false, false, false, false, false, false, false, false, false, false] rfl rfl (by kernel_rfl) (fun _ _ _ h => h) (Or.inl ⟨by rfl, ?_⟩) ?_ ?_
  rotate_left
  · intro w'
    go_simp
    with_reducible rfl
  rotate_left
  · simp only [Act.put, List.setIfInBounds_toArray, List.set_cons_zero, List.set_cons_succ, i64_w, i32_w]
    rfl
  refine pure_ (i := 7) (N := some 159) (v := ?_) (a' := ?_) #[true, true, true, true, true, true, true, true, false, false, false, false, false, false, false, false, false, false, false, false, false, false, false, false, false, false, false, false, false, false, false, false, false, false, false, false, false, false, false, false, false, false, false] rfl rfl (by kernel_rfl) (fun _ _ _ h => h) (Or.inl ⟨by rfl, ?_⟩) ?_ ?_
  rotate_left
  · intro w'
    go_simp
    with_reducible rfl
  rotate_left
  · simp only [Act.put, List.setIfInBounds_toArray, List.set_cons_zero, List.set_cons_succ, i64_w, i32_w]
    rfl
  refine pure_ (i := 9) (N := some 161) (v := ?_) (a' := ?_) #[true, true, true, true, true, true, true, true, false, true, false, false, false, false, false, false, false, false, false, false, false, false, false, false, false, false, false, false, false, false, false, false, false, false, false, false, false, false, false, false, false, false, false] rfl rfl (by kernel_rfl) (fun _ _ _ h => h) (Or.inl ⟨by rfl, ?_⟩) ?_ ?_
  rotate_left
  · intro w'
    go_simp
    with_reducible rfl
  rotate_left
  · simp only [Act.put, List.setIfInBounds_toArray, List.set_cons_zero, List.set_cons_succ, i64_w, i32_w]
    rfl
  refine take_ (i := 8) (N := some 160) (v := ?_) (a' := ?_) #[true, true, true, true, true, true, true, true, true, true, false, false, false, false, false, false, false, false, false, false, false, false, false, false, false, false, false, false, false, false, false, false, false, false, false, false, false, false, false, false, false, false, false] rfl rfl (by kernel_rfl) (fun _ _ _ h => h) (Or.inl ⟨by rfl, ?_⟩) hHeld ?_ ?_
  rotate_left
  · rintro w' ⟨s0, s1, s2, s3, s4⟩
    go_simp
    with_reducible rfl
  rotate_left
  · simp only [Act.put, List.setIfInBounds_toArray, List.set_cons_zero, List.set_cons_succ, i64_w, i32_w]
    rfl
  refine one_ (i := 10) (N := some 162) #[true, true, true, true, true, true, true, true, true, true, true, false, false, false, false, false, false, false, false, false, false, false, false, false, false, false, false, false, false, false, false, false, false, false, false, false, false, false, false, false, false, false, false] rfl rfl (by kernel_rfl) (by decide) (fun K hK => ?_)
  refine goes_ Tryz.func33 (by kernel_rfl) rfl #[.int .u16 x] (by rfl) rfl rfl (by simp only [List.map_toArray, List.map_cons, List.map_nil]; rfl) ?_
  with_reducible refine (KX.out x RG.out.2.2.1.1 RG.out.2.2.1.2 _).mono ?_
  rintro e wc ⟨rfl, hd⟩
  refine ⟨_, rfl, ?_⟩
  have hb := drawn_below hd
  clear hd
  replace K9 := Aside0.mk (blk_below K9.out hb)
  replace K15 := Aside0.mk (blk_below K15.out hb)
  replace HB := Aside0.mk (below_step HB.out hb)
  clear hb
  refine hK.out _ _ ⟨(blk_cell K9.out 0).trans rfl, (blk_cell K9.out 1).trans rfl, (blk_cell K9.out 7).trans rfl, (blk_cell K15.out 0).trans rfl, (blk_cell K15.out 1).trans rfl⟩ (fun hHeld => ?_)
  clear hK K
  refine norm_ (a' := ?_) ?_ ?_
  rotate_left
  · show Act.put _ (some 162) _ = _
    simp only [Act.put, List.setIfInBounds_toArray, List.set_cons_zero, List.set_cons_succ, i64_w, i32_w]
    rfl
  refine pure_ (i := 11) (N := some 163) (v := ?_) (a' := ?_) #[true, true, true, true, true, true, true, true, true, true, true, true, false, false, false, false, false, false, false, false, false, false, false, false, false, false, false, false, false, false, false, false, false, false, false, false, false, false, false, false, false, false, false] rfl rfl (by kernel_rfl) (fun _ _ _ h => h) (Or.inl ⟨by rfl, ?_⟩) ?_ ?_
  rotate_left
  · intro w'
    go_simp
    with_reducible rfl
  rotate_left
  · simp only [Act.put, List.setIfInBounds_toArray, List.set_cons_zero, List.set_cons_succ, i64_w, i32_w]
    rfl
  refine pure_ (i := 12) (N := some 164) (v := ?_) (a' := ?_) #[true, true, true, true, true, true, true, true, true, true, true, true, true, false, false, false, false, false, false, false, false, false, false, false, false, false, false, false, false, false, false, false, false, false, false, false, false, false, false, false, false, false, false] rfl rfl (by kernel_rfl) (fun _ _ _ h => h) (Or.inl ⟨by rfl, ?_⟩) ?_ ?_
  rotate_left
  · intro w'
    go_simp
    with_reducible rfl
  rotate_left
  · simp only [Act.put, List.setIfInBounds_toArray, List.set_cons_zero, List.set_cons_succ, i64_w, i32_w]
    rfl
  refine pure_ (i := 13) (N := some 165) (v := ?_) (a' := ?_) #[true, true, true, true, true, true, true, true, true, true, true, true, true, true, false, false, false, false, false, false, false, false, false, false, false, false, false, false, false, false, false, false, false, false, false, false, false, false, false, false, false, false, false] rfl rfl (by kernel_rfl) (fun _ _ _ h => h) (Or.inl ⟨by rfl, ?_⟩) ?_ ?_
  rotate_left
  · intro w'
    go_simp
    with_reducible rfl
  rotate_left
  · simp only [Act.put, List.setIfInBounds_toArray, List.set_cons_zero, List.set_cons_succ, i64_w, i32_w]
    rfl
  refine pure_ (i := 14) (N := some 166) (v := ?_) (a' := ?_) #[true, true, true, true, true, true, true, true, true, true, true, true, true, true, true, false, false, false, false, false, false, false, false, false, false, false, false, false, false, false, false, false, false, false, false, false, false, false, false, false, false, false, false] rfl rfl (by kernel_rfl) (fun _ _ _ h => h) (Or.inl ⟨by rfl, ?_⟩) ?_ ?_
  rotate_left
  · intro w'
    go_simp
    with_reducible rfl
  rotate_left
  · simp only [Act.put, List.setIfInBounds_toArray, List.set_cons_zero, List.set_cons_succ, i64_w, i32_w]
    rfl
  refine pure_ (i := 16) (N := some 168) (v := ?_) (a' := ?_) #[true, true, true, true, true, true, true, true, true, true, true, true, true, true, true, false, true, false, false, false, false, false, false, false, false, false, false, false, false, false, false, false, false, false, false, false, false, false, false, false, false, false, false] rfl rfl (by kernel_rfl) (fun _ _ _ h => h) (Or.inl ⟨by rfl, ?_⟩) ?_ ?_
  rotate_left
  · intro w'
    go_simp
    with_reducible rfl
  rotate_left
  · simp only [Act.put, List.setIfInBounds_toArray, List.set_cons_zero, List.set_cons_succ, i64_w, i32_w]
    rfl
  refine take_ (i := 15) (N := some 167) (v := ?_) (a' := ?_) #[true, true, true, true, true, true, true, true, true, true, true, true, true, true, true, true, true, false, false, false, false, false, false, false, false, false, false, false, false, false, false, false, false, false, false, false, false, false, false, false, false, false, false] rfl rfl (by kernel_rfl) (fun _ _ _ h => h) (Or.inl ⟨by rfl, ?_⟩) hHeld ?_ ?_
  rotate_left
  · rintro w' ⟨s0, s1, s2, s3, s4⟩
    go_simp
    with_reducible rfl
  rotate_left
  · simp only [Act.put, List.setIfInBounds_toArray, List.set_cons_zero, List.set_cons_succ, i64_w, i32_w]
    rfl
  refine pure_ (i := 17) (N := some 169) (v := ?_) (a' := ?_) #[true, true, true, true, true, true, true, true, true, true, true, true, true, true, true, true, true, true, false, false, false, false, false, false, false, false, false, false, false, false, false, false, false, false, false, false, false, false, false, false, false, false, false] rfl rfl (by kernel_rfl) (fun _ _ _ h => h) (Or.inl ⟨by rfl, ?_⟩) ?_ ?_
  rotate_left
  · intro w'
    go_simp
    with_reducible rfl
  rotate_left
  · simp only [Act.put, List.setIfInBounds_toArray, List.set_cons_zero, List.set_cons_succ, i64_w, i32_w]
    rfl
  refine pure_ (i := 18) (N := some 170) (v := ?_) (a' := ?_) #[true, true, true, true, true, true, true, true, true, true, true, true, true, true, true, true, true, true, true, false, false, false, false, false, false, false, false, false, false, false, false, false, false, false, false, false, false, false, false, false, false, false, false] rfl rfl (by kernel_rfl) (fun _ _ _ h => h) (Or.inl ⟨by rfl, ?_⟩) ?_ ?_
  rotate_left
  · intro w'
    go_simp
    with_reducible rfl
  rotate_left
  · simp only [Act.put, List.setIfInBounds_toArray, List.set_cons_zero, List.set_cons_succ, i64_w, i32_w]
    rfl
  refine pure_ (i := 19) (N := some 171) (v := ?_) (a' := ?_) #[true, true, true, true, true, true, true, true, true, true, true, true, true, true, true, true, true, true, true, true, false, false, false, false, false, false, false, false, false, false, false, false, false, false, false, false, false, false, false, false, false, false, false] rfl rfl (by kernel_rfl) (fun _ _ _ h => h) (Or.inl ⟨by rfl, ?_⟩) ?_ ?_
  rotate_left
  · intro w'
    go_simp
    with_reducible rfl
  rotate_left
  · simp only [Act.put, List.setIfInBounds_toArray, List.set_cons_zero, List.set_cons_succ, i64_w, i32_w]
    rfl
  refine pure_ (i := 20) (N := some 172) (v := ?_) (a' := ?_) #[true, true, true, true, true, true, true, true, true, true, true, true, true, true, true, true, true, true, true, true, true, false, false, false, false, false, false, false, false, false, false, false, false, false, false, false, false, false, false, false, false, false, false] rfl rfl (by kernel_rfl) (fun _ _ _ h => h) (Or.inl ⟨by rfl, ?_⟩) ?_ ?_
  rotate_left
  · intro w'
    go_simp
    with_reducible rfl
  rotate_left
  · simp only [Act.put, List.setIfInBounds_toArray, List.set_cons_zero, List.set_cons_succ, i64_w, i32_w]
    rfl
  refine pure_ (i := 22) (N := some 174) (v := ?_) (a' := ?_) #[true, true, true, true, true, true, true, true, true, true, true, true, true, true, true, true, true, true, true, true, true, false, true, false, false, false, false, false, false, false, false, false, false, false, false, false, false, false, false, false, false, false, false] rfl rfl (by kernel_rfl) (fun _ _ _ h => h) (Or.inl ⟨by rfl, ?_⟩) ?_ ?_
  rotate_left
  · intro w'
    go_simp
    with_reducible rfl
  rotate_left
  · simp only [Act.put, List.setIfInBounds_toArray, List.set_cons_zero, List.set_cons_succ, i64_w, i32_w]
    rfl
  refine take_ (i := 21) (N := some 173) (v := ?_) (a' := ?_) #[true, true, true, true, true, true, true, true, true, true, true, true, true, true, true, true, true, true, true, true, true, true, true, false, false, false, false, false, false, false, false, false, false, false, false, false, false, false, false, false, false, false, false] rfl rfl (by kernel_rfl) (fun _ _ _ h => h) (Or.inl ⟨by rfl, ?_⟩) hHeld ?_ ?_
  rotate_left
  · rintro w' ⟨s0, s1, s2, s3, s4⟩
    go_simp
    with_reducible rfl
  rotate_left
  · simp only [Act.put, List.setIfInBounds_toArray, List.set_cons_zero, List.set_cons_succ, i64_w, i32_w]
    rfl
  refine one_ (i := 23) (N := some 175) #[true, true, true, true, true, true, true, true, true, true, true, true, true, true, true, true, true, true, true, true, true, true, true, true, false, false, false, false, false, false, false, false, false, false, false, false, false, false, false, false, false, false, false] rfl rfl (by kernel_rfl) (by decide) (fun K hK => ?_)
  refine goes_ Tryz.func33 (by kernel_rfl) rfl #[.int .u16 x] (by rfl) rfl rfl (by simp only [List.map_toArray, List.map_cons, List.map_nil]; rfl) ?_
  with_reducible refine (KX.out x RG.out.2.2.1.1 RG.out.2.2.1.2 _).mono ?_
  rintro e wc ⟨rfl, hd⟩
  refine ⟨_, rfl, ?_⟩
  have hb := drawn_below hd
  clear hd
  replace K9 := Aside0.mk (blk_below K9.out hb)
  replace K15 := Aside0.mk (blk_below K15.out hb)
  replace HB := Aside0.mk (below_step HB.out hb)
  clear hb
  refine hK.out _ _ ⟨(blk_cell K9.out 0).trans rfl, (blk_cell K9.out 1).trans rfl, (blk_cell K9.out 7).trans rfl, (blk_cell K15.out 0).trans rfl, (blk_cell K15.out 1).trans rfl⟩ (fun hHeld => ?_)
  clear hK K
  refine norm_ (a' := ?_) ?_ ?_
  rotate_left
  · show Act.put _ (some 175) _ = _
    simp only [Act.put, List.setIfInBounds_toArray, List.set_cons_zero, List.set_cons_succ, i64_w, i32_w]
    rfl
  refine one_ (i := 24) (N := some 176) #[true, true, true, true, true, true, true, true, true, true, true, true, true, true, true, true, true, true, true, true, true, true, true, true, true, false, false, false, false, false, false, false, false, false, false, false, false, false, false, false, false, false, false] rfl rfl (by kernel_rfl) (by decide) (fun K hK => ?_)
  refine goes_ Tryz.func35 (by kernel_rfl) rfl #[.int .u16 (extI x)] (by rfl) rfl rfl (by simp only [List.map_toArray, List.map_cons, List.map_nil]; rfl) ?_
  with_reducible refine (negAcc_c _ (ext_b x).1 (by have := (ext_b x).2; omega) _).mono ?_
  rintro e wc ⟨rfl, hd⟩
  refine ⟨_, rfl, ?_⟩
  have hb := drawn_below hd
  clear hd
  replace K9 := Aside0.mk (blk_below K9.out hb)
  replace K15 := Aside0.mk (blk_below K15.out hb)
  replace HB := Aside0.mk (below_step HB.out hb)
  clear hb
  refine hK.out _ _ ⟨(blk_cell K9.out 0).trans rfl, (blk_cell K9.out 1).trans rfl, (blk_cell K9.out 7).trans rfl, (blk_cell K15.out 0).trans rfl, (blk_cell K15.out 1).trans rfl⟩ (fun hHeld => ?_)
  clear hK K
  refine norm_ (a' := ?_) ?_ ?_
  rotate_left
  · show Act.put _ (some 176) _ = _
    simp only [Act.put, List.setIfInBounds_toArray, List.set_cons_zero, List.set_cons_succ, i64_w, i32_w]
    rfl
  refine pure_ (i := 25) (N := some 177) (v := ?_) (a' := ?_) #[true, true, true, true, true, true, true, true, true, true, true, true, true, true, true, true, true, true, true, true, true, true, true, true, true, true, false, false, false, false, false, false, false, false, false, false, false, false, false, false, false, false, false] rfl rfl (by kernel_rfl) (fun _ _ _ h => h) (Or.inl ⟨by rfl, ?_⟩) ?_ ?_
  rotate_left
  · intro w'
    go_simp
    with_reducible rfl
  rotate_left
  · simp only [Act.put, List.setIfInBounds_toArray, List.set_cons_zero, List.set_cons_succ, i64_w, i32_w]
    rfl
  refine pure_ (i := 26) (N := some 178) (v := ?_) (a' := ?_) #[true, true, true, true, true, true, true, true, true, true, true, true, true, true, true, true, true, true, true, true, true, true, true, true, true, true, true, false, false, false, false, false, false, false, false, false, false, false, false, false, false, false, false] rfl rfl (by kernel_rfl) (fun _ _ _ h => h) (Or.inl ⟨by rfl, ?_⟩) ?_ ?_
  rotate_left
  · intro w'
    go_simp
    with_reducible rfl
  rotate_left
  · simp only [Act.put, List.setIfInBounds_toArray, List.set_cons_zero, List.set_cons_succ, i64_w, i32_w]
    rfl
  refine pure_ (i := 27) (N := some 179) (v := ?_) (a' := ?_) #[true, true, true, true, true, true, true, true, true, true, true, true, true, true, true, true, true, true, true, true, true, true, true, true, true, true, true, true, false, false, false, false, false, false, false, false, false, false, false, false, false, false, false] rfl rfl (by kernel_rfl) (fun _ _ _ h => h) (Or.inl ⟨by rfl, ?_⟩) ?_ ?_
  rotate_left
  · intro w'
    go_simp
    with_reducible rfl
  rotate_left
  · simp only [Act.put, List.setIfInBounds_toArray, List.set_cons_zero, List.set_cons_succ, i64_w, i32_w]
    rfl
  refine pure_ (i := 28) (N := some 180) (v := ?_) (a' := ?_) #[true, true, true, true, true, true, true, true, true, true, true, true, true, true, true, true, true, true, true, true, true, true, true, true, true, true, true, true, true, false, false, false, false, false, false, false, false, false, false, false, false, false, false] rfl rfl (by kernel_rfl) (fun _ _ _ h => h) (Or.inl ⟨by rfl, ?_⟩) ?_ ?_
  rotate_left
  · intro w'
    go_simp
    with_reducible rfl
  rotate_left
  · simp only [Act.put, List.setIfInBounds_toArray, List.set_cons_zero, List.set_cons_succ, i64_w, i32_w]
    rfl
  refine pure_ (i := 30) (N := some 182) (v := ?_) (a' := ?_) #[true, true, true, true, true, true, true, true, true, true, true, true, true, true, true, true, true, true, true, true, true, true, true, true, true, true, true, true, true, false, true, false, false, false, false, false, false, false, false, false, false, false, false] rfl rfl (by kernel_rfl) (fun _ _ _ h => h) (Or.inl ⟨by rfl, ?_⟩) ?_ ?_
  rotate_left
  · intro w'
    go_simp
    with_reducible rfl
  rotate_left
  · simp only [Act.put, List.setIfInBounds_toArray, List.set_cons_zero, List.set_cons_succ, i64_w, i32_w]
    rfl
  refine take_ (i := 29) (N := some 181) (v := ?_) (a' := ?_) #[true, true, true, true, true, true, true, true, true, true, true, true, true, true, true, true, true, true, true, true, true, true, true, true, true, true, true, true, true, true, true, false, false, false, false, false, false, false, false, false, false, false, false] rfl rfl (by kernel_rfl) (fun _ _ _ h => h) (Or.inl ⟨by rfl, ?_⟩) hHeld ?_ ?_
  rotate_left
  · rintro w' ⟨s0, s1, s2, s3, s4⟩
    go_simp
    with_reducible rfl
  rotate_left
  · simp only [Act.put, List.setIfInBounds_toArray, List.set_cons_zero, List.set_cons_succ, i64_w, i32_w]
    rfl
  refine one_ (i := 31) (N := some 183) #[true, true, true, true, true, true, true, true, true, true, true, true, true, true, true, true, true, true, true, true, true, true, true, true, true, true, true, true, true, true, true, true, false, false, false, false, false, false, false, false, false, false, false] rfl rfl (by kernel_rfl) (by decide) (fun K hK => ?_)
  refine goes_ Tryz.func36 (by kernel_rfl) rfl #[.int .u16 y] (by rfl) rfl rfl (by simp only [List.map_toArray, List.map_cons, List.map_nil]; rfl) ?_
  with_reducible refine (neg_c _ RG.out.2.2.2.1 (by have := RG.out.2.2.2.2; omega) _).mono ?_
  rintro e wc ⟨rfl, hd⟩
  refine ⟨_, rfl, ?_⟩
  have hb := drawn_below hd
  clear hd
  replace K9 := Aside0.mk (blk_below K9.out hb)
  replace K15 := Aside0.mk (blk_below K15.out hb)
  replace HB := Aside0.mk (below_step HB.out hb)
  clear hb
  refine hK.out _ _ ⟨(blk_cell K9.out 0).trans rfl, (blk_cell K9.out 1).trans rfl, (blk_cell K9.out 7).trans rfl, (blk_cell K15.out 0).trans rfl, (blk_cell K15.out 1).trans rfl⟩ (fun hHeld => ?_)
  clear hK K
  refine norm_ (a' := ?_) ?_ ?_
  rotate_left
  · show Act.put _ (some 183) _ = _
    simp only [Act.put, List.setIfInBounds_toArray, List.set_cons_zero, List.set_cons_succ, i64_w, i32_w]
    rfl
  refine pure_ (i := 32) (N := some 184) (v := ?_) (a' := ?_) #[true, true, true, true, true, true, true, true, true, true, true, true, true, true, true, true, true, true, true, true, true, true, true, true, true, true, true, true, true, true, true, true, true, false, false, false, false, false, false, false, false, false, false] rfl rfl (by kernel_rfl) (fun _ _ _ h => h) (Or.inl ⟨by rfl, ?_⟩) ?_ ?_
  rotate_left
  · intro w'
    go_simp
    with_reducible rfl
  rotate_left
  · simp only [Act.put, List.setIfInBounds_toArray, List.set_cons_zero, List.set_cons_succ, i64_w, i32_w]
    rfl
  refine pure_ (i := 33) (N := some 185) (v := ?_) (a' := ?_) #[true, true, true, true, true, true, true, true, true, true, true, true, true, true, true, true, true, true, true, true, true, true, true, true, true, true, true, true, true, true, true, true, true, true, false, false, false, false, false, false, false, false, false] rfl rfl (by kernel_rfl) (fun _ _ _ h => h) (Or.inl ⟨by rfl, ?_⟩) ?_ ?_
  rotate_left
  · intro w'
    go_simp
    with_reducible rfl
  rotate_left
  · simp only [Act.put, List.setIfInBounds_toArray, List.set_cons_zero, List.set_cons_succ, i64_w, i32_w]
    rfl
  refine pure_ (i := 34) (N := some 186) (v := ?_) (a' := ?_) #[true, true, true, true, true, true, true, true, true, true, true, true, true, true, true, true, true, true, true, true, true, true, true, true, true, true, true, true, true, true, true, true, true, true, true, false, false, false, false, false, false, false, false] rfl rfl (by kernel_rfl) (fun _ _ _ h => h) (Or.inl ⟨by rfl, ?_⟩) ?_ ?_
  rotate_left
  · intro w'
    go_simp
    with_reducible rfl
  rotate_left
  · simp only [Act.put, List.setIfInBounds_toArray, List.set_cons_zero, List.set_cons_succ, i64_w, i32_w]
    rfl
  refine pure_ (i := 35) (N := some 187) (v := ?_) (a' := ?_) #[true, true, true, true, true, true, true, true, true, true, true, true, true, true, true, true, true, true, true, true, true, true, true, true, true, true, true, true, true, true, true, true, true, true, true, true, false, false, false, false, false, false, false] rfl rfl (by kernel_rfl) (fun _ _ _ h => h) (Or.inl ⟨by rfl, ?_⟩) ?_ ?_
  rotate_left
  · intro w'
    go_simp
    with_reducible rfl
  rotate_left
  · simp only [Act.put, List.setIfInBounds_toArray, List.set_cons_zero, List.set_cons_succ, i64_w, i32_w]
    rfl
  refine take_ (i := 36) (N := some 188) (v := ?_) (a' := ?_) #[true, true, true, true, true, true, true, true, true, true, true, true, true, true, true, true, true, true, true, true, true, true, true, true, true, true, true, true, true, true, true, true, true, true, true, true, true, false, false, false, false, false, false] rfl rfl (by kernel_rfl) (fun _ _ _ h => h) (Or.inl ⟨by rfl, ?_⟩) hHeld ?_ ?_
  rotate_left
  · rintro w' ⟨s0, s1, s2, s3, s4⟩
    go_simp
    with_reducible rfl
  rotate_left
  · simp only [Act.put, List.setIfInBounds_toArray, List.set_cons_zero, List.set_cons_succ, i64_w, i32_w]
    rfl
  refine pure_ (i := 37) (N := some 189) (v := ?_) (a' := ?_) #[true, true, true, true, true, true, true, true, true, true, true, true, true, true, true, true, true, true, true, true, true, true, true, true, true, true, true, true, true, true, true, true, true, true, true, true, true, true, false, false, false, false, false] rfl rfl (by kernel_rfl) (fun _ _ _ h => h) (Or.inl ⟨by rfl, ?_⟩) ?_ ?_
  rotate_left
  · intro w'
    go_simp
    with_reducible rfl
  rotate_left
  · simp only [Act.put, List.setIfInBounds_toArray, List.set_cons_zero, List.set_cons_succ, i64_w, i32_w]
    rfl
  refine pure_ (i := 38) (N := some 190) (v := ?_) (a' := ?_) #[true, true, true, true, true, true, true, true, true, true, true, true, true, true, true, true, true, true, true, true, true, true, true, true, true, true, true, true, true, true, true, true, true, true, true, true, true, true, true, false, false, false, false] rfl rfl (by kernel_rfl) (fun _ _ _ h => h) (Or.inl ⟨by rfl, ?_⟩) ?_ ?_
  rotate_left
  · intro w'
    go_simp
    with_reducible rfl
  rotate_left
  · simp only [Act.put, List.setIfInBounds_toArray, List.set_cons_zero, List.set_cons_succ, i64_w, i32_w]
    rfl
  refine pure_ (i := 39) (N := some 191) (v := ?_) (a' := ?_) #[true, true, true, true, true, true, true, true, true, true, true, true, true, true, true, true, true, true, true, true, true, true, true, true, true, true, true, true, true, true, true, true, true, true, true, true, true, true, true, true, false, false, false] rfl rfl (by kernel_rfl) (fun _ _ _ h => h) (Or.inl ⟨by rfl, ?_⟩) ?_ ?_
  rotate_left
  · intro w'
    go_simp
    with_reducible rfl
  rotate_left
  · simp only [Act.put, List.setIfInBounds_toArray, List.set_cons_zero, List.set_cons_succ, i64_w, i32_w]
    rfl
  refine one_ (i := 40) (N := some 192) #[true, true, true, true, true, true, true, true, true, true, true, true, true, true, true, true, true, true, true, true, true, true, true, true, true, true, true, true, true, true, true, true, true, true, true, true, true, true, true, true, true, false, false] rfl rfl (by kernel_rfl) (by decide) (fun K hK => ?_)
  refine goes_ Tryz.func20 (by kernel_rfl) rfl #[] (by rfl) rfl rfl (by first | exact Array.map_empty | simp) ?_
  with_reducible refine (works_c _).mono ?_
  rintro e wc ⟨rfl, hb⟩
  refine ⟨_, rfl, ?_⟩
  replace K9 := Aside0.mk (blk_below K9.out hb)
  replace K15 := Aside0.mk (blk_below K15.out hb)
  replace HB := Aside0.mk (below_step HB.out hb)
  clear hb
  refine hK.out _ _ ⟨(blk_cell K9.out 0).trans rfl, (blk_cell K9.out 1).trans rfl, (blk_cell K9.out 7).trans rfl, (blk_cell K15.out 0).trans rfl, (blk_cell K15.out 1).trans rfl⟩ (fun hHeld => ?_)
  clear hK K
  refine norm_ (a' := ?_) ?_ ?_
  rotate_left
  · show Act.put _ (some 192) _ = _
    simp only [Act.put, List.setIfInBounds_toArray, List.set_cons_zero, List.set_cons_succ, i64_w, i32_w]
    rfl
  refine pure_ (i := 41) (N := some 193) (v := ?_) (a' := ?_) #[true, true, true, true, true, true, true, true, true, true, true, true, true, true, true, true, true, true, true, true, true, true, true, true, true, true, true, true, true, true, true, true, true, true, true, true, true, true, true, true, true, true, false] rfl rfl (by kernel_rfl) (fun _ _ _ h => h) (Or.inl ⟨by rfl, ?_⟩) ?_ ?_
  rotate_left
  · intro w'
    go_simp
    with_reducible rfl
  rotate_left
  · simp only [Act.put, List.setIfInBounds_toArray, List.set_cons_zero, List.set_cons_succ, i64_w, i32_w]
    rfl
  refine pure_ (i := 42) (N := some 2) (v := ?_) (a' := ?_) #[true, true, true, true, true, true, true, true, true, true, true, true, true, true, true, true, true, true, true, true, true, true, true, true, true, true, true, true, true, true, true, true, true, true, true, true, true, true, true, true, true, true, true] rfl rfl (by kernel_rfl) (fun _ _ _ h => h) (Or.inl ⟨by rfl, ?_⟩) ?_ ?_
  rotate_left
  · intro w'
    go_simp
    with_reducible rfl
  rotate_left
  · simp only [Act.put, List.setIfInBounds_toArray, List.set_cons_zero, List.set_cons_succ, i64_w, i32_w]
    rfl
  refine done_ (by kernel_rfl) ?_
  go_wp2
  go_ret
  exact ⟨rfl, HB.out⟩
theorem doubles_law (ws : List Int) (w : World) (w0 : ws.length = 4) (b0 : ∀ y ∈ ws, (Lit.int .u16 y).wf = true) : Calls Tryz.prog 10 #[.agg (ws.map (Value.int .u16)).toArray] w fun e w' => e = .returned (.bool true) ∧ Below w.heap.size w w' := by
  match ws, w0, b0 with
  | [q0, q1, q2, q3], _, b0 =>
    have h0 := b0 q0 (by simp); have h1 := b0 q1 (by simp); have h2 := b0 q2 (by simp); have h3 := b0 q3 (by simp)
    simp [Lit.wf, IntKind.min, IntKind.max, IntKind.signed, IntKind.bits] at h0 h1 h2 h3
    exact doubles_walk q0 q1 q2 q3 _ _ _ _ rfl rfl rfl rfl (by omega) (by omega) (by omega) (by omega) w
end Go.Proofs.YthfobpkdloejfaaGreat.Cpu
end
