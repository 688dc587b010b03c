/- Chapter 5: a part of its proof (cut by program out of CpuJ, CpuK, CpuL, CpuL2); no condition. -/
import Derived.BigQuiet
import Derived.Deep.QuietTactic
import Derived.Test.YtgbmaajfbbilhaaGreatKn19
import Derived.Test.YtgbmaajfbbilhaaGreatKn22
set_option linter.unusedVariables false
set_option linter.unusedSimpArgs false
set_option linter.unusedSectionVars false
set_option maxRecDepth 100000
set_option maxHeartbeats 8000000
section
namespace Go.Proofs.YtgbmaajfbbilhaaGreat.Cpu
open Go.RowKit Go.Proofs.YtgbmaajfbbilhaaGreat.PAll Go.Proofs.YtgbmaajfbbilhaaGreat.One Go.Proofs.YtgbmaajfbbilhaaGreat.Mem Go.Proofs.YtgbmaajfbbilhaaGreat.Row Go.Proofs.YtgbmaajfbbilhaaGreatW.PrintWords Go.Proofs.YtgbmaajfbbilhaaGreatW.PrintLast Go.Proofs.YtgbmaajfbbilhaaGreatW.PrintMore Go.Proofs.YtgbmaajfbbilhaaGreat.Plain
section
variable {c : Cx} {n : Nat} {st : St} {w : World}
theorem put_sp (st : St) (i x : Int) : (st.put i x).sp = st.sp := by unfold St.put; split <;> rfl
theorem fldSp (a b : Int) (W : World) : (Instr.field 103 (.agg #[.int .u8 a, .int .i64 b]) 1).run Tryz.prog W = .ok (.int .i64 b) W := by kernel_rfl
theorem nextSp_b (x : Sp) (h : 0 ≤ x.f1) : 0 ≤ (nextSp x).f1 := by unfold nextSp; simp only []; split <;> omega
theorem das_0 (h : c.P n st w) (ok : st.r.Ok) (h0 : 0 ≤ st.sp.f1) (h9 : st.sp.f1 < 40000) (hn : n ≤ 80) (hf : st.sp.f1 = 0) : Calls Tryz.prog 111 #[.pointer (some ⟨c.p, 0, none⟩)] w fun e w' => e = .returned (.tuple #[]) ∧ c.P (n + 1 + 1) (xDas st c.v) w' := by
 have HR := Aside0.mk h
 clear h
 have x0 := HR.out.c0
 have x1 := HR.out.c1
 have x23 := HR.out.c23
 have hfd := fldSp
 have BY := Aside0.mk (look_b ok c.v (nextSp st.sp))
 have BA := Aside0.mk (look_b ok c.v st.sp)
 have BT := Aside0.mk (addAcc_b BY.out.1 BY.out.2 (ext_b st.r.l).1 (ext_b st.r.l).2)
 have BV := Aside0.mk (addAcc_b (a := rdA st c.v) (b := st.r.a) BA.out.1 BA.out.2 ok.a0 ok.a1)
 have BU := Aside0.mk (addAcc_b BV.out.1 BV.out.2 (unit_b (addAccI ((lookN st.r c.v (nextSp st.sp)).1) (extI st.r.l))).1 (unit_b (addAccI ((lookN st.r c.v (nextSp st.sp)).1) (extI st.r.l))).2)
 have y0 : (st.sp.f1 == 0) = true := by simpa using hf
 have HF := Aside0.mk hf
 clear hf
 have hu0 := Tryz.underlying124
 have hu1 := Tryz.underlying26
 have hu2 := Tryz.underlying34
 have hu3 := Tryz.underlying103
 have hu4 := Tryz.underlying29
 go_enter Tryz.func111, Tryz.ntmps111
 go_wp2_with (first | (go_at_call 215; (with_reducible refine at_args #[.pointer (some ⟨c.p, 0, none⟩)] ?_); (with_reducible refine (next_c HR.out h0 h9).mono ?_); rintro e wc ⟨rfl, hR⟩; replace HR := Aside0.mk hR; clear hR; (try replace x0 : wc.cell? ⟨c.p, 0, none⟩ = some (.int .u16 st.r.a) := by first | exact HR.out.c0 | (have := HR.out.c0; simpa only [put_sp] using this)); (try replace x1 : wc.cell? ⟨c.p, 1, none⟩ = some (.int .u16 st.r.l) := by first | exact HR.out.c1 | (have := HR.out.c1; simpa only [put_sp] using this)); (try replace x23 : wc.cell? ⟨c.p, 23, none⟩ = some (.int .i64 st.sp.f1) := by first | exact HR.out.c23 | (have := HR.out.c23; simpa only [put_sp] using this))) | (go_at_call 214; (with_reducible refine at_args #[.pointer (some ⟨c.p, 0, none⟩), .agg #[.int .u8 (nextSp st.sp).f0, .int .i64 (nextSp st.sp).f1]] ?_); (with_reducible refine (at_c HR.out ok (nextSp st.sp) (nextSp_b _ h0) (by omega)).mono ?_); rintro e wc ⟨rfl, hR⟩; replace HR := Aside0.mk hR; clear hR; (try replace x0 : wc.cell? ⟨c.p, 0, none⟩ = some (.int .u16 st.r.a) := by first | exact HR.out.c0 | (have := HR.out.c0; simpa only [put_sp] using this)); (try replace x1 : wc.cell? ⟨c.p, 1, none⟩ = some (.int .u16 st.r.l) := by first | exact HR.out.c1 | (have := HR.out.c1; simpa only [put_sp] using this)); (try replace x23 : wc.cell? ⟨c.p, 23, none⟩ = some (.int .i64 st.sp.f1) := by first | exact HR.out.c23 | (have := HR.out.c23; simpa only [put_sp] using this))) | (go_at_call 118; (with_reducible refine at_args #[.pointer (some ⟨c.p, 0, none⟩)] ?_); (with_reducible refine (read_c HR.out ok h0 (by omega)).mono ?_); rintro e wc ⟨rfl, hR⟩; replace HR := Aside0.mk hR; clear hR; (try replace x0 : wc.cell? ⟨c.p, 0, none⟩ = some (.int .u16 st.r.a) := by first | exact HR.out.c0 | (have := HR.out.c0; simpa only [put_sp] using this)); (try replace x1 : wc.cell? ⟨c.p, 1, none⟩ = some (.int .u16 st.r.l) := by first | exact HR.out.c1 | (have := HR.out.c1; simpa only [put_sp] using this)); (try replace x23 : wc.cell? ⟨c.p, 23, none⟩ = some (.int .i64 st.sp.f1) := by first | exact HR.out.c23 | (have := HR.out.c23; simpa only [put_sp] using this))) | (go_at_call 186; (with_reducible refine at_args #[.int .u16 st.r.l] ?_); (with_reducible refine (ext_c _ ok.l0 (by have := ok.l1; omega) _).mono ?_); rintro e wc ⟨rfl, hd⟩; replace HR := Aside0.mk (HR.out.drawn hd); clear hd; (try replace x0 : wc.cell? ⟨c.p, 0, none⟩ = some (.int .u16 st.r.a) := by first | exact HR.out.c0 | (have := HR.out.c0; simpa only [put_sp] using this)); (try replace x1 : wc.cell? ⟨c.p, 1, none⟩ = some (.int .u16 st.r.l) := by first | exact HR.out.c1 | (have := HR.out.c1; simpa only [put_sp] using this)); (try replace x23 : wc.cell? ⟨c.p, 23, none⟩ = some (.int .i64 st.sp.f1) := by first | exact HR.out.c23 | (have := HR.out.c23; simpa only [put_sp] using this))) | (go_at_call 129; (with_reducible refine at_args #[.int .u16 ((lookN st.r c.v (nextSp st.sp)).1), .int .u16 (extI st.r.l)] ?_); (with_reducible refine (addAcc_c _ _ BY.out.1 (by have := BY.out.2; omega) (ext_b _).1 (ext_lt _) _).mono ?_); rintro e wc ⟨rfl, hd⟩; replace HR := Aside0.mk (HR.out.drawn hd); clear hd; (try replace x0 : wc.cell? ⟨c.p, 0, none⟩ = some (.int .u16 st.r.a) := by first | exact HR.out.c0 | (have := HR.out.c0; simpa only [put_sp] using this)); (try replace x1 : wc.cell? ⟨c.p, 1, none⟩ = some (.int .u16 st.r.l) := by first | exact HR.out.c1 | (have := HR.out.c1; simpa only [put_sp] using this)); (try replace x23 : wc.cell? ⟨c.p, 23, none⟩ = some (.int .i64 st.sp.f1) := by first | exact HR.out.c23 | (have := HR.out.c23; simpa only [put_sp] using this))) | (go_at_call 129; (with_reducible refine at_args #[.int .u16 (rdA st c.v), .int .u16 st.r.a] ?_); (with_reducible refine (addAcc_c _ _ (rdA_b ok c.v).1 (rdA_b ok c.v).2 ok.a0 (by have := ok.a1; omega) _).mono ?_); rintro e wc ⟨rfl, hd⟩; replace HR := Aside0.mk (HR.out.drawn hd); clear hd; (try replace x0 : wc.cell? ⟨c.p, 0, none⟩ = some (.int .u16 st.r.a) := by first | exact HR.out.c0 | (have := HR.out.c0; simpa only [put_sp] using this)); (try replace x1 : wc.cell? ⟨c.p, 1, none⟩ = some (.int .u16 st.r.l) := by first | exact HR.out.c1 | (have := HR.out.c1; simpa only [put_sp] using this)); (try replace x23 : wc.cell? ⟨c.p, 23, none⟩ = some (.int .i64 st.sp.f1) := by first | exact HR.out.c23 | (have := HR.out.c23; simpa only [put_sp] using this))) | (go_at_call 216; (with_reducible refine at_args #[.int .u16 (addAccI ((lookN st.r c.v (nextSp st.sp)).1) (extI st.r.l))] ?_); (with_reducible refine (unit_c _ BT.out.1 BT.out.2 _).mono ?_); rintro e wc ⟨rfl, hd⟩; replace HR := Aside0.mk (HR.out.drawn hd); clear hd; (try replace x0 : wc.cell? ⟨c.p, 0, none⟩ = some (.int .u16 st.r.a) := by first | exact HR.out.c0 | (have := HR.out.c0; simpa only [put_sp] using this)); (try replace x1 : wc.cell? ⟨c.p, 1, none⟩ = some (.int .u16 st.r.l) := by first | exact HR.out.c1 | (have := HR.out.c1; simpa only [put_sp] using this)); (try replace x23 : wc.cell? ⟨c.p, 23, none⟩ = some (.int .i64 st.sp.f1) := by first | exact HR.out.c23 | (have := HR.out.c23; simpa only [put_sp] using this))) | (go_at_call 129; (with_reducible refine at_args #[.int .u16 (addAccI (rdA st c.v) st.r.a), .int .u16 (unitI (addAccI ((lookN st.r c.v (nextSp st.sp)).1) (extI st.r.l)))] ?_); (with_reducible refine (addAcc_c _ _ BV.out.1 (by have := BV.out.2; omega) (unit_b _).1 (by have := (unit_b (addAccI ((lookN st.r c.v (nextSp st.sp)).1) (extI st.r.l))).2; omega) _).mono ?_); rintro e wc ⟨rfl, hd⟩; replace HR := Aside0.mk (HR.out.drawn hd); clear hd; (try replace x0 : wc.cell? ⟨c.p, 0, none⟩ = some (.int .u16 st.r.a) := by first | exact HR.out.c0 | (have := HR.out.c0; simpa only [put_sp] using this)); (try replace x1 : wc.cell? ⟨c.p, 1, none⟩ = some (.int .u16 st.r.l) := by first | exact HR.out.c1 | (have := HR.out.c1; simpa only [put_sp] using this)); (try replace x23 : wc.cell? ⟨c.p, 23, none⟩ = some (.int .i64 st.sp.f1) := by first | exact HR.out.c23 | (have := HR.out.c23; simpa only [put_sp] using this))) | (go_at_call 93; (with_reducible refine at_args #[.int .u16 (addAccI ((lookN st.r c.v (nextSp st.sp)).1) (extI st.r.l))] ?_); (with_reducible refine (cor_c _ BT.out.1 (by have := BT.out.2; omega) _).mono ?_); rintro e wc ⟨rfl, hd⟩; replace HR := Aside0.mk (HR.out.drawn hd); clear hd; (try replace x0 : wc.cell? ⟨c.p, 0, none⟩ = some (.int .u16 st.r.a) := by first | exact HR.out.c0 | (have := HR.out.c0; simpa only [put_sp] using this)); (try replace x1 : wc.cell? ⟨c.p, 1, none⟩ = some (.int .u16 st.r.l) := by first | exact HR.out.c1 | (have := HR.out.c1; simpa only [put_sp] using this)); (try replace x23 : wc.cell? ⟨c.p, 23, none⟩ = some (.int .i64 st.sp.f1) := by first | exact HR.out.c23 | (have := HR.out.c23; simpa only [put_sp] using this))) | (go_at_call 216; (with_reducible refine at_args #[.int .u16 (addAccI (addAccI (rdA st c.v) st.r.a) (unitI (addAccI ((lookN st.r c.v (nextSp st.sp)).1) (extI st.r.l))))] ?_); (with_reducible refine (unit_c _ BU.out.1 BU.out.2 _).mono ?_); rintro e wc ⟨rfl, hd⟩; replace HR := Aside0.mk (HR.out.drawn hd); clear hd; (try replace x0 : wc.cell? ⟨c.p, 0, none⟩ = some (.int .u16 st.r.a) := by first | exact HR.out.c0 | (have := HR.out.c0; simpa only [put_sp] using this)); (try replace x1 : wc.cell? ⟨c.p, 1, none⟩ = some (.int .u16 st.r.l) := by first | exact HR.out.c1 | (have := HR.out.c1; simpa only [put_sp] using this)); (try replace x23 : wc.cell? ⟨c.p, 23, none⟩ = some (.int .i64 st.sp.f1) := by first | exact HR.out.c23 | (have := HR.out.c23; simpa only [put_sp] using this))) | (go_at_call 217; (with_reducible refine at_args #[.pointer (some ⟨c.p, 0, none⟩), .int .i64 (nextSp st.sp).f1, .int .u16 (addAccI ((lookN st.r c.v (nextSp st.sp)).1) (extI st.r.l))] ?_); (with_reducible refine (store_c HR.out _ (addAccI ((lookN st.r c.v (nextSp st.sp)).1) (extI st.r.l)) (nextSp_b _ h0) BT.out.1 BT.out.2 (by omega)).mono ?_); rintro e wc ⟨rfl, hR⟩; replace HR := Aside0.mk hR; clear hR; (try replace x0 : wc.cell? ⟨c.p, 0, none⟩ = some (.int .u16 st.r.a) := by first | exact HR.out.c0 | (have := HR.out.c0; simpa only [put_sp] using this)); (try replace x1 : wc.cell? ⟨c.p, 1, none⟩ = some (.int .u16 st.r.l) := by first | exact HR.out.c1 | (have := HR.out.c1; simpa only [put_sp] using this)); (try replace x23 : wc.cell? ⟨c.p, 23, none⟩ = some (.int .i64 st.sp.f1) := by first | exact HR.out.c23 | (have := HR.out.c23; simpa only [put_sp] using this))) | (go_at_call 217; (with_reducible refine at_args #[.pointer (some ⟨c.p, 0, none⟩), .int .i64 st.sp.f1, .int .u16 (addAccI (addAccI (rdA st c.v) st.r.a) (unitI (addAccI ((lookN st.r c.v (nextSp st.sp)).1) (extI st.r.l))))] ?_); (with_reducible refine (store_c HR.out _ (addAccI (addAccI (rdA st c.v) st.r.a) (unitI (addAccI ((lookN st.r c.v (nextSp st.sp)).1) (extI st.r.l)))) h0 BU.out.1 BU.out.2 (by omega)).mono ?_); rintro e wc ⟨rfl, hR⟩; replace HR := Aside0.mk hR; clear hR; (try replace x0 : wc.cell? ⟨c.p, 0, none⟩ = some (.int .u16 st.r.a) := by first | exact HR.out.c0 | (have := HR.out.c0; simpa only [put_sp] using this)); (try replace x1 : wc.cell? ⟨c.p, 1, none⟩ = some (.int .u16 st.r.l) := by first | exact HR.out.c1 | (have := HR.out.c1; simpa only [put_sp] using this)); (try replace x23 : wc.cell? ⟨c.p, 23, none⟩ = some (.int .i64 st.sp.f1) := by first | exact HR.out.c23 | (have := HR.out.c23; simpa only [put_sp] using this))) | (refine HR.out.e0 rfl _ _ _ rfl rfl _ rfl ?hi ?_; (case hi => kernel_rfl); intro wc hR; replace HR := Aside0.mk hR; clear hR; (try replace x0 : wc.cell? ⟨c.p, 0, none⟩ = some (.int .u16 st.r.a) := by first | exact HR.out.c0 | (have := HR.out.c0; simpa only [put_sp] using this)); (try replace x1 : wc.cell? ⟨c.p, 1, none⟩ = some (.int .u16 st.r.l) := by first | exact HR.out.c1 | (have := HR.out.c1; simpa only [put_sp] using this)); (try replace x23 : wc.cell? ⟨c.p, 23, none⟩ = some (.int .i64 st.sp.f1) := by first | exact HR.out.c23 | (have := HR.out.c23; simpa only [put_sp] using this))) | (refine HR.out.e1 rfl _ _ _ rfl rfl _ rfl ?hi ?_; (case hi => kernel_rfl); intro wc hR; replace HR := Aside0.mk hR; clear hR; (try replace x0 : wc.cell? ⟨c.p, 0, none⟩ = some (.int .u16 st.r.a) := by first | exact HR.out.c0 | (have := HR.out.c0; simpa only [put_sp] using this)); (try replace x1 : wc.cell? ⟨c.p, 1, none⟩ = some (.int .u16 st.r.l) := by first | exact HR.out.c1 | (have := HR.out.c1; simpa only [put_sp] using this)); (try replace x23 : wc.cell? ⟨c.p, 23, none⟩ = some (.int .i64 st.sp.f1) := by first | exact HR.out.c23 | (have := HR.out.c23; simpa only [put_sp] using this))))
 first | go_end0 | ((try simp only [Exit.inBlock, Exit.then]); refine bodyPost_ret (results_none rfl _ _ _) rfl ?_)
 refine ⟨rfl, ?_⟩
 unfold xDas
 simp only [if_pos HF.out]
 exact HR.out
theorem das_1 (h : c.P n st w) (ok : st.r.Ok) (h0 : 0 ≤ st.sp.f1) (h9 : st.sp.f1 < 40000) (hn : n ≤ 80) (hf : st.sp.f1 ≠ 0) : Calls Tryz.prog 111 #[.pointer (some ⟨c.p, 0, none⟩)] w fun e w' => e = .returned (.tuple #[]) ∧ c.P (n + 1 + 1 + 1 + 1) (xDas st c.v) w' := by
 have HR := Aside0.mk h
 clear h
 have x0 := HR.out.c0
 have x1 := HR.out.c1
 have x23 := HR.out.c23
 have hfd := fldSp
 have BY := Aside0.mk (look_b ok c.v (nextSp st.sp))
 have BA := Aside0.mk (look_b ok c.v st.sp)
 have BT := Aside0.mk (addAcc_b BY.out.1 BY.out.2 (ext_b st.r.l).1 (ext_b st.r.l).2)
 have BV := Aside0.mk (addAcc_b (a := rdA st c.v) (b := st.r.a) BA.out.1 BA.out.2 ok.a0 ok.a1)
 have BU := Aside0.mk (addAcc_b BV.out.1 BV.out.2 (unit_b (addAccI ((lookN st.r c.v (nextSp st.sp)).1) (extI st.r.l))).1 (unit_b (addAccI ((lookN st.r c.v (nextSp st.sp)).1) (extI st.r.l))).2)
 have y0 : (st.sp.f1 == 0) = false := by simpa using hf
 have HF := Aside0.mk hf
 clear hf
 have hu0 := Tryz.underlying124
 have hu1 := Tryz.underlying26
 have hu2 := Tryz.underlying34
 have hu3 := Tryz.underlying103
 have hu4 := Tryz.underlying29
 go_enter Tryz.func111, Tryz.ntmps111
 go_wp2_with (first | (go_at_call 215; (with_reducible refine at_args #[.pointer (some ⟨c.p, 0, none⟩)] ?_); (with_reducible refine (next_c HR.out h0 h9).mono ?_); rintro e wc ⟨rfl, hR⟩; replace HR := Aside0.mk hR; clear hR; (try replace x0 : wc.cell? ⟨c.p, 0, none⟩ = some (.int .u16 st.r.a) := by first | exact HR.out.c0 | (have := HR.out.c0; simpa only [put_sp] using this)); (try replace x1 : wc.cell? ⟨c.p, 1, none⟩ = some (.int .u16 st.r.l) := by first | exact HR.out.c1 | (have := HR.out.c1; simpa only [put_sp] using this)); (try replace x23 : wc.cell? ⟨c.p, 23, none⟩ = some (.int .i64 st.sp.f1) := by first | exact HR.out.c23 | (have := HR.out.c23; simpa only [put_sp] using this))) | (go_at_call 214; (with_reducible refine at_args #[.pointer (some ⟨c.p, 0, none⟩), .agg #[.int .u8 (nextSp st.sp).f0, .int .i64 (nextSp st.sp).f1]] ?_); (with_reducible refine (at_c HR.out ok (nextSp st.sp) (nextSp_b _ h0) (by omega)).mono ?_); rintro e wc ⟨rfl, hR⟩; replace HR := Aside0.mk hR; clear hR; (try replace x0 : wc.cell? ⟨c.p, 0, none⟩ = some (.int .u16 st.r.a) := by first | exact HR.out.c0 | (have := HR.out.c0; simpa only [put_sp] using this)); (try replace x1 : wc.cell? ⟨c.p, 1, none⟩ = some (.int .u16 st.r.l) := by first | exact HR.out.c1 | (have := HR.out.c1; simpa only [put_sp] using this)); (try replace x23 : wc.cell? ⟨c.p, 23, none⟩ = some (.int .i64 st.sp.f1) := by first | exact HR.out.c23 | (have := HR.out.c23; simpa only [put_sp] using this))) | (go_at_call 118; (with_reducible refine at_args #[.pointer (some ⟨c.p, 0, none⟩)] ?_); (with_reducible refine (read_c HR.out ok h0 (by omega)).mono ?_); rintro e wc ⟨rfl, hR⟩; replace HR := Aside0.mk hR; clear hR; (try replace x0 : wc.cell? ⟨c.p, 0, none⟩ = some (.int .u16 st.r.a) := by first | exact HR.out.c0 | (have := HR.out.c0; simpa only [put_sp] using this)); (try replace x1 : wc.cell? ⟨c.p, 1, none⟩ = some (.int .u16 st.r.l) := by first | exact HR.out.c1 | (have := HR.out.c1; simpa only [put_sp] using this)); (try replace x23 : wc.cell? ⟨c.p, 23, none⟩ = some (.int .i64 st.sp.f1) := by first | exact HR.out.c23 | (have := HR.out.c23; simpa only [put_sp] using this))) | (go_at_call 186; (with_reducible refine at_args #[.int .u16 st.r.l] ?_); (with_reducible refine (ext_c _ ok.l0 (by have := ok.l1; omega) _).mono ?_); rintro e wc ⟨rfl, hd⟩; replace HR := Aside0.mk (HR.out.drawn hd); clear hd; (try replace x0 : wc.cell? ⟨c.p, 0, none⟩ = some (.int .u16 st.r.a) := by first | exact HR.out.c0 | (have := HR.out.c0; simpa only [put_sp] using this)); (try replace x1 : wc.cell? ⟨c.p, 1, none⟩ = some (.int .u16 st.r.l) := by first | exact HR.out.c1 | (have := HR.out.c1; simpa only [put_sp] using this)); (try replace x23 : wc.cell? ⟨c.p, 23, none⟩ = some (.int .i64 st.sp.f1) := by first | exact HR.out.c23 | (have := HR.out.c23; simpa only [put_sp] using this))) | (go_at_call 129; (with_reducible refine at_args #[.int .u16 ((lookN st.r c.v (nextSp st.sp)).1), .int .u16 (extI st.r.l)] ?_); (with_reducible refine (addAcc_c _ _ BY.out.1 (by have := BY.out.2; omega) (ext_b _).1 (ext_lt _) _).mono ?_); rintro e wc ⟨rfl, hd⟩; replace HR := Aside0.mk (HR.out.drawn hd); clear hd; (try replace x0 : wc.cell? ⟨c.p, 0, none⟩ = some (.int .u16 st.r.a) := by first | exact HR.out.c0 | (have := HR.out.c0; simpa only [put_sp] using this)); (try replace x1 : wc.cell? ⟨c.p, 1, none⟩ = some (.int .u16 st.r.l) := by first | exact HR.out.c1 | (have := HR.out.c1; simpa only [put_sp] using this)); (try replace x23 : wc.cell? ⟨c.p, 23, none⟩ = some (.int .i64 st.sp.f1) := by first | exact HR.out.c23 | (have := HR.out.c23; simpa only [put_sp] using this))) | (go_at_call 129; (with_reducible refine at_args #[.int .u16 (rdA st c.v), .int .u16 st.r.a] ?_); (with_reducible refine (addAcc_c _ _ (rdA_b ok c.v).1 (rdA_b ok c.v).2 ok.a0 (by have := ok.a1; omega) _).mono ?_); rintro e wc ⟨rfl, hd⟩; replace HR := Aside0.mk (HR.out.drawn hd); clear hd; (try replace x0 : wc.cell? ⟨c.p, 0, none⟩ = some (.int .u16 st.r.a) := by first | exact HR.out.c0 | (have := HR.out.c0; simpa only [put_sp] using this)); (try replace x1 : wc.cell? ⟨c.p, 1, none⟩ = some (.int .u16 st.r.l) := by first | exact HR.out.c1 | (have := HR.out.c1; simpa only [put_sp] using this)); (try replace x23 : wc.cell? ⟨c.p, 23, none⟩ = some (.int .i64 st.sp.f1) := by first | exact HR.out.c23 | (have := HR.out.c23; simpa only [put_sp] using this))) | (go_at_call 216; (with_reducible refine at_args #[.int .u16 (addAccI ((lookN st.r c.v (nextSp st.sp)).1) (extI st.r.l))] ?_); (with_reducible refine (unit_c _ BT.out.1 BT.out.2 _).mono ?_); rintro e wc ⟨rfl, hd⟩; replace HR := Aside0.mk (HR.out.drawn hd); clear hd; (try replace x0 : wc.cell? ⟨c.p, 0, none⟩ = some (.int .u16 st.r.a) := by first | exact HR.out.c0 | (have := HR.out.c0; simpa only [put_sp] using this)); (try replace x1 : wc.cell? ⟨c.p, 1, none⟩ = some (.int .u16 st.r.l) := by first | exact HR.out.c1 | (have := HR.out.c1; simpa only [put_sp] using this)); (try replace x23 : wc.cell? ⟨c.p, 23, none⟩ = some (.int .i64 st.sp.f1) := by first | exact HR.out.c23 | (have := HR.out.c23; simpa only [put_sp] using this))) | (go_at_call 129; (with_reducible refine at_args #[.int .u16 (addAccI (rdA st c.v) st.r.a), .int .u16 (unitI (addAccI ((lookN st.r c.v (nextSp st.sp)).1) (extI st.r.l)))] ?_); (with_reducible refine (addAcc_c _ _ BV.out.1 (by have := BV.out.2; omega) (unit_b _).1 (by have := (unit_b (addAccI ((lookN st.r c.v (nextSp st.sp)).1) (extI st.r.l))).2; omega) _).mono ?_); rintro e wc ⟨rfl, hd⟩; replace HR := Aside0.mk (HR.out.drawn hd); clear hd; (try replace x0 : wc.cell? ⟨c.p, 0, none⟩ = some (.int .u16 st.r.a) := by first | exact HR.out.c0 | (have := HR.out.c0; simpa only [put_sp] using this)); (try replace x1 : wc.cell? ⟨c.p, 1, none⟩ = some (.int .u16 st.r.l) := by first | exact HR.out.c1 | (have := HR.out.c1; simpa only [put_sp] using this)); (try replace x23 : wc.cell? ⟨c.p, 23, none⟩ = some (.int .i64 st.sp.f1) := by first | exact HR.out.c23 | (have := HR.out.c23; simpa only [put_sp] using this))) | (go_at_call 93; (with_reducible refine at_args #[.int .u16 (addAccI ((lookN st.r c.v (nextSp st.sp)).1) (extI st.r.l))] ?_); (with_reducible refine (cor_c _ BT.out.1 (by have := BT.out.2; omega) _).mono ?_); rintro e wc ⟨rfl, hd⟩; replace HR := Aside0.mk (HR.out.drawn hd); clear hd; (try replace x0 : wc.cell? ⟨c.p, 0, none⟩ = some (.int .u16 st.r.a) := by first | exact HR.out.c0 | (have := HR.out.c0; simpa only [put_sp] using this)); (try replace x1 : wc.cell? ⟨c.p, 1, none⟩ = some (.int .u16 st.r.l) := by first | exact HR.out.c1 | (have := HR.out.c1; simpa only [put_sp] using this)); (try replace x23 : wc.cell? ⟨c.p, 23, none⟩ = some (.int .i64 st.sp.f1) := by first | exact HR.out.c23 | (have := HR.out.c23; simpa only [put_sp] using this))) | (go_at_call 216; (with_reducible refine at_args #[.int .u16 (addAccI (addAccI (rdA st c.v) st.r.a) (unitI (addAccI ((lookN st.r c.v (nextSp st.sp)).1) (extI st.r.l))))] ?_); (with_reducible refine (unit_c _ BU.out.1 BU.out.2 _).mono ?_); rintro e wc ⟨rfl, hd⟩; replace HR := Aside0.mk (HR.out.drawn hd); clear hd; (try replace x0 : wc.cell? ⟨c.p, 0, none⟩ = some (.int .u16 st.r.a) := by first | exact HR.out.c0 | (have := HR.out.c0; simpa only [put_sp] using this)); (try replace x1 : wc.cell? ⟨c.p, 1, none⟩ = some (.int .u16 st.r.l) := by first | exact HR.out.c1 | (have := HR.out.c1; simpa only [put_sp] using this)); (try replace x23 : wc.cell? ⟨c.p, 23, none⟩ = some (.int .i64 st.sp.f1) := by first | exact HR.out.c23 | (have := HR.out.c23; simpa only [put_sp] using this))) | (go_at_call 217; (with_reducible refine at_args #[.pointer (some ⟨c.p, 0, none⟩), .int .i64 (nextSp st.sp).f1, .int .u16 (addAccI ((lookN st.r c.v (nextSp st.sp)).1) (extI st.r.l))] ?_); (with_reducible refine (store_c HR.out _ (addAccI ((lookN st.r c.v (nextSp st.sp)).1) (extI st.r.l)) (nextSp_b _ h0) BT.out.1 BT.out.2 (by omega)).mono ?_); rintro e wc ⟨rfl, hR⟩; replace HR := Aside0.mk hR; clear hR; (try replace x0 : wc.cell? ⟨c.p, 0, none⟩ = some (.int .u16 st.r.a) := by first | exact HR.out.c0 | (have := HR.out.c0; simpa only [put_sp] using this)); (try replace x1 : wc.cell? ⟨c.p, 1, none⟩ = some (.int .u16 st.r.l) := by first | exact HR.out.c1 | (have := HR.out.c1; simpa only [put_sp] using this)); (try replace x23 : wc.cell? ⟨c.p, 23, none⟩ = some (.int .i64 st.sp.f1) := by first | exact HR.out.c23 | (have := HR.out.c23; simpa only [put_sp] using this))) | (go_at_call 217; (with_reducible refine at_args #[.pointer (some ⟨c.p, 0, none⟩), .int .i64 st.sp.f1, .int .u16 (addAccI (addAccI (rdA st c.v) st.r.a) (unitI (addAccI ((lookN st.r c.v (nextSp st.sp)).1) (extI st.r.l))))] ?_); (with_reducible refine (store_c HR.out _ (addAccI (addAccI (rdA st c.v) st.r.a) (unitI (addAccI ((lookN st.r c.v (nextSp st.sp)).1) (extI st.r.l)))) h0 BU.out.1 BU.out.2 (by omega)).mono ?_); rintro e wc ⟨rfl, hR⟩; replace HR := Aside0.mk hR; clear hR; (try replace x0 : wc.cell? ⟨c.p, 0, none⟩ = some (.int .u16 st.r.a) := by first | exact HR.out.c0 | (have := HR.out.c0; simpa only [put_sp] using this)); (try replace x1 : wc.cell? ⟨c.p, 1, none⟩ = some (.int .u16 st.r.l) := by first | exact HR.out.c1 | (have := HR.out.c1; simpa only [put_sp] using this)); (try replace x23 : wc.cell? ⟨c.p, 23, none⟩ = some (.int .i64 st.sp.f1) := by first | exact HR.out.c23 | (have := HR.out.c23; simpa only [put_sp] using this))) | (refine HR.out.e0 rfl _ _ _ rfl rfl _ rfl ?hi ?_; (case hi => kernel_rfl); intro wc hR; replace HR := Aside0.mk hR; clear hR; (try replace x0 : wc.cell? ⟨c.p, 0, none⟩ = some (.int .u16 st.r.a) := by first | exact HR.out.c0 | (have := HR.out.c0; simpa only [put_sp] using this)); (try replace x1 : wc.cell? ⟨c.p, 1, none⟩ = some (.int .u16 st.r.l) := by first | exact HR.out.c1 | (have := HR.out.c1; simpa only [put_sp] using this)); (try replace x23 : wc.cell? ⟨c.p, 23, none⟩ = some (.int .i64 st.sp.f1) := by first | exact HR.out.c23 | (have := HR.out.c23; simpa only [put_sp] using this))) | (refine HR.out.e1 rfl _ _ _ rfl rfl _ rfl ?hi ?_; (case hi => kernel_rfl); intro wc hR; replace HR := Aside0.mk hR; clear hR; (try replace x0 : wc.cell? ⟨c.p, 0, none⟩ = some (.int .u16 st.r.a) := by first | exact HR.out.c0 | (have := HR.out.c0; simpa only [put_sp] using this)); (try replace x1 : wc.cell? ⟨c.p, 1, none⟩ = some (.int .u16 st.r.l) := by first | exact HR.out.c1 | (have := HR.out.c1; simpa only [put_sp] using this)); (try replace x23 : wc.cell? ⟨c.p, 23, none⟩ = some (.int .i64 st.sp.f1) := by first | exact HR.out.c23 | (have := HR.out.c23; simpa only [put_sp] using this))))
 first | go_end0 | ((try simp only [Exit.inBlock, Exit.then]); refine bodyPost_ret (results_none rfl _ _ _) rfl ?_)
 refine ⟨rfl, ?_⟩
 unfold xDas
 simp only [if_neg HF.out]
 exact HR.out
theorem resume_c (h : c.P n st w) (ok : st.r.Ok) (hn : n ≤ 80) : Calls Tryz.prog 124 #[.pointer (some ⟨c.p, 0, none⟩)] w fun e w' => e = .returned (.tuple #[]) ∧ c.P (n + 1 + 1) (xResume st c.v) w' := by
 have HR := Aside0.mk h
 clear h
 have e3 : Go.bits .and .u16 (lookN st.r c.v ⟨1, 13⟩).1 4095 = (lookN st.r c.v ⟨1, 13⟩).1 % 4096 := and_4095 (look_b ok c.v ⟨1, 13⟩).1 (by have := (look_b ok c.v ⟨1, 13⟩).2; omega)
 have hu0 := Tryz.underlying124
 have hu1 := Tryz.underlying26
 have hu2 := Tryz.underlying34
 have hu3 := Tryz.underlying103
 have hu4 := Tryz.underlying29
 go_enter Tryz.func124, Tryz.ntmps124
 go_wp2_with (first | (go_at_call 214; (with_reducible refine at_args #[.pointer (some ⟨c.p, 0, none⟩), .agg #[.int .u8 1, .int .i64 13]] ?_); (with_reducible refine (at_c HR.out ok ⟨1, 13⟩ (by decide) (by omega)).mono ?_); rintro e wc ⟨rfl, hR⟩; replace HR := Aside0.mk hR; clear hR) | (go_at_call 214; (with_reducible refine at_args #[.pointer (some ⟨c.p, 0, none⟩), .agg #[.int .u8 1, .int .i64 15]] ?_); (with_reducible refine (at_c HR.out ok ⟨1, 15⟩ (by decide) (by omega)).mono ?_); rintro e wc ⟨rfl, hR⟩; replace HR := Aside0.mk hR; clear hR) | (go_at_call 93; (with_reducible refine at_args #[.int .u16 (lookN st.r c.v ⟨1, 15⟩).1] ?_); (with_reducible refine (cor_c _ (look_b ok c.v ⟨1, 15⟩).1 (by have := (look_b ok c.v ⟨1, 15⟩).2; omega) _).mono ?_); rintro e wc ⟨rfl, hd⟩; replace HR := Aside0.mk (HR.out.drawn hd); clear hd) | (refine HR.out.e3 rfl _ _ _ rfl rfl _ rfl ?hi ?_; (case hi => kernel_rfl); intro wc hR; replace HR := Aside0.mk hR; clear hR) | (refine HR.out.e10 rfl _ _ _ rfl rfl _ rfl ?hi ?_; (case hi => kernel_rfl); intro wc hR; replace HR := Aside0.mk hR; clear hR) | (refine HR.out.e9 rfl _ _ _ rfl rfl _ rfl ?hi ?_; (case hi => kernel_rfl); intro wc hR; replace HR := Aside0.mk hR; clear hR) | (refine HR.out.e12 rfl _ _ _ rfl rfl _ rfl ?hi ?_; (case hi => kernel_rfl); intro wc hR; replace HR := Aside0.mk hR; clear hR))
 first | (go_end0; exact ⟨rfl, HR.out⟩) | ((try simp only [Exit.inBlock, Exit.then]); refine bodyPost_ret (results_none rfl _ _ _) rfl ⟨rfl, HR.out⟩) | (go_ret; exact ⟨rfl, HR.out⟩)
theorem bzf_0 (h : c.P n st w) (ok : st.r.Ok) (ha : st.r.a = 0) : Calls Tryz.prog 148 #[.pointer (some ⟨c.g, 0, none⟩)] w fun e w' => e = .returned (.tuple #[]) ∧ c.P (n) (xBranch st true) w' := by
 have HR := Aside0.mk h
 clear h
 have xb := HR.out.bx
 have y0 : (st.r.a == 0) = true := by simpa using ha
 clear ha
 have hu0 := Tryz.underlying124
 have hu1 := Tryz.underlying26
 have hu2 := Tryz.underlying34
 have hu3 := Tryz.underlying103
 have hu4 := Tryz.underlying29
 go_enter Tryz.func148, Tryz.ntmps148
 replace HR := Aside0.mk HR.out.drew
 refine start_ (n := 16) (S := fun w' => w'.cell? ⟨c.g, 0, none⟩ = some (.pointer (some ⟨c.p, 0, none⟩)) ∧ w'.cell? ⟨c.p, 0, none⟩ = some (.int .u16 st.r.a)) (ds := [15]) #[false, false, false, false, false, false, false, false, false, false, false, false, false, false, false, false] (by kernel_rfl) rfl rfl ⟨HR.out.bx, HR.out.c0⟩ (fun hHeld => ?_)
 generalize w.drew = wd at HR hHeld ⊢
 refine tkq_ 0 (some 1) rfl rfl hHeld ?_
 refine tkq_ 1 (some 2) rfl rfl hHeld ?_
 refine pvq_ 2 (some 3) rfl rfl ?_
 refine pvq_ 3 (some 4) rfl rfl ?_
 refine pvq_ 4 (some 5) rfl rfl ?_
 refine tkq_ 5 (some 6) rfl rfl hHeld ?_
 refine pvq_ 6 (some 7) rfl rfl ?_
 refine pvq_ 7 (some 8) rfl rfl ?_
 refine pure_ (i := 8) (N := some 9) (v := undef) (a' := ?_) #[true, true, true, true, true, true, true, true, true, false, false, false, false, false, false, false] rfl rfl (by kernel_rfl) (fun _ _ _ h => h) (Or.inr ⟨by rfl, rfl⟩) ?_ ?_
 rotate_left
 · simp only [Act.put, List.setIfInBounds_toArray, List.set_cons_zero, List.set_cons_succ, i64_w, i32_w]
   rfl
 refine pure_ (i := 9) (N := some 10) (v := undef) (a' := ?_) #[true, true, true, true, true, true, true, true, true, true, false, false, false, false, false, false] rfl rfl (by kernel_rfl) (fun _ _ _ h => h) (Or.inr ⟨by rfl, rfl⟩) ?_ ?_
 rotate_left
 · simp only [Act.put, List.setIfInBounds_toArray, List.set_cons_zero, List.set_cons_succ, i64_w, i32_w]
   rfl
 refine pure_ (i := 10) (N := some 11) (v := undef) (a' := ?_) #[true, true, true, true, true, true, true, true, true, true, true, false, false, false, false, false] rfl rfl (by kernel_rfl) (fun _ _ _ h => h) (Or.inr ⟨by rfl, rfl⟩) ?_ ?_
 rotate_left
 · simp only [Act.put, List.setIfInBounds_toArray, List.set_cons_zero, List.set_cons_succ, i64_w, i32_w]
   rfl
 refine pure_ (i := 11) (N := some 12) (v := undef) (a' := ?_) #[true, true, true, true, true, true, true, true, true, true, true, true, false, false, false, false] rfl rfl (by kernel_rfl) (fun _ _ _ h => h) (Or.inr ⟨by rfl, rfl⟩) ?_ ?_
 rotate_left
 · simp only [Act.put, List.setIfInBounds_toArray, List.set_cons_zero, List.set_cons_succ, i64_w, i32_w]
   rfl
 refine pure_ (i := 12) (N := some 13) (v := undef) (a' := ?_) #[true, true, true, true, true, true, true, true, true, true, true, true, true, false, false, false] rfl rfl (by kernel_rfl) (fun _ _ _ h => h) (Or.inr ⟨by rfl, rfl⟩) ?_ ?_
 rotate_left
 · simp only [Act.put, List.setIfInBounds_toArray, List.set_cons_zero, List.set_cons_succ, i64_w, i32_w]
   rfl
 refine pure_ (i := 13) (N := some 14) (v := undef) (a' := ?_) #[true, true, true, true, true, true, true, true, true, true, true, true, true, true, false, false] rfl rfl (by kernel_rfl) (fun _ _ _ h => h) (Or.inr ⟨by rfl, rfl⟩) ?_ ?_
 rotate_left
 · simp only [Act.put, List.setIfInBounds_toArray, List.set_cons_zero, List.set_cons_succ, i64_w, i32_w]
   rfl
 refine pvq_ 14 (some 15) rfl rfl ?_
 refine laq_ 15 (some 16) rfl rfl (fun K hK => ?_)
 refine goq_ Tryz.func149 #[.pointer (some ⟨c.p, 0, none⟩), .bool true] ?_
 with_reducible refine (branch_c HR.out true).mono ?_
 rintro e wc ⟨rfl, hR⟩
 refine ⟨_, rfl, ?_⟩
 replace HR := Aside0.mk hR
 clear hR
 refine hK.out _ _ ?_
 clear hK K
 refine nmq_ (some 16) ?_
 refine done_ (by kernel_rfl) ?_
 go_wp2
 first | (go_end0; exact ⟨rfl, HR.out⟩) | ((try simp only [Exit.inBlock, Exit.then]); refine bodyPost_ret (results_none rfl _ _ _) rfl ⟨rfl, HR.out⟩) | (go_ret; exact ⟨rfl, HR.out⟩)
theorem bzf_1 (h : c.P n st w) (ok : st.r.Ok) (ha : st.r.a ≠ 0) : Calls Tryz.prog 148 #[.pointer (some ⟨c.g, 0, none⟩)] w fun e w' => e = .returned (.tuple #[]) ∧ c.P (n) (xBranch st (st.r.a == 65535)) w' := by
 have HR := Aside0.mk h
 clear h
 have xb := HR.out.bx
 have y0 : (st.r.a == 0) = false := by simpa using ha
 clear ha
 have hu0 := Tryz.underlying124
 have hu1 := Tryz.underlying26
 have hu2 := Tryz.underlying34
 have hu3 := Tryz.underlying103
 have hu4 := Tryz.underlying29
 go_enter Tryz.func148, Tryz.ntmps148
 replace HR := Aside0.mk HR.out.drew
 refine start_ (n := 16) (S := fun w' => w'.cell? ⟨c.g, 0, none⟩ = some (.pointer (some ⟨c.p, 0, none⟩)) ∧ w'.cell? ⟨c.p, 0, none⟩ = some (.int .u16 st.r.a)) (ds := [15]) #[false, false, false, false, false, false, false, false, false, false, false, false, false, false, false, false] (by kernel_rfl) rfl rfl ⟨HR.out.bx, HR.out.c0⟩ (fun hHeld => ?_)
 generalize w.drew = wd at HR hHeld ⊢
 refine tkq_ 0 (some 1) rfl rfl hHeld ?_
 refine tkq_ 1 (some 2) rfl rfl hHeld ?_
 refine pvq_ 2 (some 3) rfl rfl ?_
 refine pvq_ 3 (some 4) rfl rfl ?_
 refine pvq_ 4 (some 5) rfl rfl ?_
 refine tkq_ 5 (some 6) rfl rfl hHeld ?_
 refine pvq_ 6 (some 7) rfl rfl ?_
 refine pvq_ 7 (some 8) rfl rfl ?_
 refine tkq_ 8 (some 9) rfl rfl hHeld ?_
 refine pvq_ 9 (some 10) rfl rfl ?_
 refine pvq_ 10 (some 11) rfl rfl ?_
 refine pvq_ 11 (some 12) rfl rfl ?_
 refine tkq_ 12 (some 13) rfl rfl hHeld ?_
 refine pvq_ 13 (some 14) rfl rfl ?_
 refine pvq_ 14 (some 15) rfl rfl ?_
 refine laq_ 15 (some 16) rfl rfl (fun K hK => ?_)
 refine goq_ Tryz.func149 #[.pointer (some ⟨c.p, 0, none⟩), .bool (st.r.a == 65535)] ?_
 with_reducible refine (branch_c HR.out (st.r.a == 65535)).mono ?_
 rintro e wc ⟨rfl, hR⟩
 refine ⟨_, rfl, ?_⟩
 replace HR := Aside0.mk hR
 clear hR
 refine hK.out _ _ ?_
 clear hK K
 refine nmq_ (some 16) ?_
 refine done_ (by kernel_rfl) ?_
 go_wp2
 first | (go_end0; exact ⟨rfl, HR.out⟩) | ((try simp only [Exit.inBlock, Exit.then]); refine bodyPost_ret (results_none rfl _ _ _) rfl ⟨rfl, HR.out⟩) | (go_ret; exact ⟨rfl, HR.out⟩)
theorem bzf_c (h : c.P n st w) (ok : st.r.Ok) : Calls Tryz.prog 148 #[.pointer (some ⟨c.g, 0, none⟩)] w fun e w' => e = .returned (.tuple #[]) ∧ c.P n (xBranch st (decide (st.r.a = 0 ∨ st.r.a = 65535))) w' := by
 by_cases ha : st.r.a = 0
 · rw [show decide (st.r.a = 0 ∨ st.r.a = 65535) = true by simp [ha]]; exact bzf_0 h ok ha
 · rw [show decide (st.r.a = 0 ∨ st.r.a = 65535) = (st.r.a == 65535) from by rw [Bool.eq_iff_iff]; simp; omega]; exact bzf_1 h ok ha
theorem bzmf_0 (h : c.P n st w) (ok : st.r.Ok) (ha : st.r.a = 0) : Calls Tryz.prog 150 #[.pointer (some ⟨c.g, 0, none⟩)] w fun e w' => e = .returned (.tuple #[]) ∧ c.P (n) (xBranch st true) w' := by
 have HR := Aside0.mk h
 clear h
 have xb := HR.out.bx
 have y0 : (st.r.a == 0) = true := by simpa using ha
 clear ha
 have hu0 := Tryz.underlying124
 have hu1 := Tryz.underlying26
 have hu2 := Tryz.underlying34
 have hu3 := Tryz.underlying103
 have hu4 := Tryz.underlying29
 go_enter Tryz.func150, Tryz.ntmps150
 replace HR := Aside0.mk HR.out.drew
 refine start_ (n := 17) (S := fun w' => w'.cell? ⟨c.g, 0, none⟩ = some (.pointer (some ⟨c.p, 0, none⟩)) ∧ w'.cell? ⟨c.p, 0, none⟩ = some (.int .u16 st.r.a)) (ds := [16]) #[false, false, false, false, false, false, false, false, false, false, false, false, false, false, false, false, false] (by kernel_rfl) rfl rfl ⟨HR.out.bx, HR.out.c0⟩ (fun hHeld => ?_)
 generalize w.drew = wd at HR hHeld ⊢
 refine tkq_ 0 (some 1) rfl rfl hHeld ?_
 refine tkq_ 1 (some 2) rfl rfl hHeld ?_
 refine pvq_ 2 (some 3) rfl rfl ?_
 refine pvq_ 3 (some 4) rfl rfl ?_
 refine pvq_ 4 (some 5) rfl rfl ?_
 refine tkq_ 5 (some 6) rfl rfl hHeld ?_
 refine pvq_ 6 (some 7) rfl rfl ?_
 refine pvq_ 7 (some 8) rfl rfl ?_
 refine pure_ (i := 8) (N := some 9) (v := undef) (a' := ?_) #[true, true, true, true, true, true, true, true, true, false, false, false, false, false, false, false, false] rfl rfl (by kernel_rfl) (fun _ _ _ h => h) (Or.inr ⟨by rfl, rfl⟩) ?_ ?_
 rotate_left
 · simp only [Act.put, List.setIfInBounds_toArray, List.set_cons_zero, List.set_cons_succ, i64_w, i32_w]
   rfl
 refine pure_ (i := 9) (N := some 10) (v := undef) (a' := ?_) #[true, true, true, true, true, true, true, true, true, true, false, false, false, false, false, false, false] rfl rfl (by kernel_rfl) (fun _ _ _ h => h) (Or.inr ⟨by rfl, rfl⟩) ?_ ?_
 rotate_left
 · simp only [Act.put, List.setIfInBounds_toArray, List.set_cons_zero, List.set_cons_succ, i64_w, i32_w]
   rfl
 refine pure_ (i := 10) (N := some 11) (v := undef) (a' := ?_) #[true, true, true, true, true, true, true, true, true, true, true, false, false, false, false, false, false] rfl rfl (by kernel_rfl) (fun _ _ _ h => h) (Or.inr ⟨by rfl, rfl⟩) ?_ ?_
 rotate_left
 · simp only [Act.put, List.setIfInBounds_toArray, List.set_cons_zero, List.set_cons_succ, i64_w, i32_w]
   rfl
 refine pure_ (i := 11) (N := some 12) (v := undef) (a' := ?_) #[true, true, true, true, true, true, true, true, true, true, true, true, false, false, false, false, false] rfl rfl (by kernel_rfl) (fun _ _ _ h => h) (Or.inr ⟨by rfl, rfl⟩) ?_ ?_
 rotate_left
 · simp only [Act.put, List.setIfInBounds_toArray, List.set_cons_zero, List.set_cons_succ, i64_w, i32_w]
   rfl
 refine pure_ (i := 12) (N := some 13) (v := undef) (a' := ?_) #[true, true, true, true, true, true, true, true, true, true, true, true, true, false, false, false, false] rfl rfl (by kernel_rfl) (fun _ _ _ h => h) (Or.inr ⟨by rfl, rfl⟩) ?_ ?_
 rotate_left
 · simp only [Act.put, List.setIfInBounds_toArray, List.set_cons_zero, List.set_cons_succ, i64_w, i32_w]
   rfl
 refine pure_ (i := 13) (N := some 14) (v := undef) (a' := ?_) #[true, true, true, true, true, true, true, true, true, true, true, true, true, true, false, false, false] rfl rfl (by kernel_rfl) (fun _ _ _ h => h) (Or.inr ⟨by rfl, rfl⟩) ?_ ?_
 rotate_left
 · simp only [Act.put, List.setIfInBounds_toArray, List.set_cons_zero, List.set_cons_succ, i64_w, i32_w]
   rfl
 refine pure_ (i := 14) (N := some 15) (v := undef) (a' := ?_) #[true, true, true, true, true, true, true, true, true, true, true, true, true, true, true, false, false] rfl rfl (by kernel_rfl) (fun _ _ _ h => h) (Or.inr ⟨by rfl, rfl⟩) ?_ ?_
 rotate_left
 · simp only [Act.put, List.setIfInBounds_toArray, List.set_cons_zero, List.set_cons_succ, i64_w, i32_w]
   rfl
 refine pvq_ 15 (some 16) rfl rfl ?_
 refine laq_ 16 (some 17) rfl rfl (fun K hK => ?_)
 refine goq_ Tryz.func149 #[.pointer (some ⟨c.p, 0, none⟩), .bool true] ?_
 with_reducible refine (branch_c HR.out true).mono ?_
 rintro e wc ⟨rfl, hR⟩
 refine ⟨_, rfl, ?_⟩
 replace HR := Aside0.mk hR
 clear hR
 refine hK.out _ _ ?_
 clear hK K
 refine nmq_ (some 17) ?_
 refine done_ (by kernel_rfl) ?_
 go_wp2
 first | (go_end0; exact ⟨rfl, HR.out⟩) | ((try simp only [Exit.inBlock, Exit.then]); refine bodyPost_ret (results_none rfl _ _ _) rfl ⟨rfl, HR.out⟩) | (go_ret; exact ⟨rfl, HR.out⟩)
theorem bzmf_1 (h : c.P n st w) (ok : st.r.Ok) (ha : st.r.a ≠ 0) : Calls Tryz.prog 150 #[.pointer (some ⟨c.g, 0, none⟩)] w fun e w' => e = .returned (.tuple #[]) ∧ c.P (n) (xBranch st (st.r.a / 32768 == 1)) w' := by
 have HR := Aside0.mk h
 clear h
 have xb := HR.out.bx
 have y0 : (st.r.a == 0) = false := by simpa using ha
 clear ha
 have hu0 := Tryz.underlying124
 have hu1 := Tryz.underlying26
 have hu2 := Tryz.underlying34
 have hu3 := Tryz.underlying103
 have hu4 := Tryz.underlying29
 go_enter Tryz.func150, Tryz.ntmps150
 replace HR := Aside0.mk HR.out.drew
 refine start_ (n := 17) (S := fun w' => w'.cell? ⟨c.g, 0, none⟩ = some (.pointer (some ⟨c.p, 0, none⟩)) ∧ w'.cell? ⟨c.p, 0, none⟩ = some (.int .u16 st.r.a)) (ds := [16]) #[false, false, false, false, false, false, false, false, false, false, false, false, false, false, false, false, false] (by kernel_rfl) rfl rfl ⟨HR.out.bx, HR.out.c0⟩ (fun hHeld => ?_)
 generalize w.drew = wd at HR hHeld ⊢
 refine tkq_ 0 (some 1) rfl rfl hHeld ?_
 refine tkq_ 1 (some 2) rfl rfl hHeld ?_
 refine pvq_ 2 (some 3) rfl rfl ?_
 refine pvq_ 3 (some 4) rfl rfl ?_
 refine pvq_ 4 (some 5) rfl rfl ?_
 refine tkq_ 5 (some 6) rfl rfl hHeld ?_
 refine pvq_ 6 (some 7) rfl rfl ?_
 refine pvq_ 7 (some 8) rfl rfl ?_
 refine tkq_ 8 (some 9) rfl rfl hHeld ?_
 refine pvq_ 9 (some 10) rfl rfl ?_
 refine pvq_ 10 (some 11) rfl rfl ?_
 refine pvq_ 11 (some 12) rfl rfl ?_
 refine tkq_ 12 (some 13) rfl rfl hHeld ?_
 refine pvq_ 13 (some 14) rfl rfl ?_
 refine pvq_ 14 (some 15) rfl rfl ?_
 refine pvq_ 15 (some 16) rfl rfl ?_
 refine laq_ 16 (some 17) rfl rfl (fun K hK => ?_)
 refine goq_ Tryz.func149 #[.pointer (some ⟨c.p, 0, none⟩), .bool (st.r.a / 32768 == 1)] ?_
 with_reducible refine (branch_c HR.out (st.r.a / 32768 == 1)).mono ?_
 rintro e wc ⟨rfl, hR⟩
 refine ⟨_, rfl, ?_⟩
 replace HR := Aside0.mk hR
 clear hR
 refine hK.out _ _ ?_
 clear hK K
 refine nmq_ (some 17) ?_
 refine done_ (by kernel_rfl) ?_
 go_wp2
 first | (go_end0; exact ⟨rfl, HR.out⟩) | ((try simp only [Exit.inBlock, Exit.then]); refine bodyPost_ret (results_none rfl _ _ _) rfl ⟨rfl, HR.out⟩) | (go_ret; exact ⟨rfl, HR.out⟩)
theorem bzmf_c (h : c.P n st w) (ok : st.r.Ok) : Calls Tryz.prog 150 #[.pointer (some ⟨c.g, 0, none⟩)] w fun e w' => e = .returned (.tuple #[]) ∧ c.P n (xBranch st (decide (st.r.a = 0 ∨ st.r.a > 32767))) w' := by
 by_cases ha : st.r.a = 0
 · rw [show decide (st.r.a = 0 ∨ st.r.a > 32767) = true by simp [ha]]; exact bzmf_0 h ok ha
 · rw [show decide (st.r.a = 0 ∨ st.r.a > 32767) = (st.r.a / 32768 == 1) from by have := ok.a0; have := ok.a1; rw [Bool.eq_iff_iff]; simp; omega]; exact bzmf_1 h ok ha
end
end Go.Proofs.YtgbmaajfbbilhaaGreat.Cpu
end
section
namespace Go.Proofs.YtgbmaajfbbilhaaGreat.Cpu
open Go.RowKit Go.Proofs.YtgbmaajfbbilhaaGreat.PAll Go.Proofs.YtgbmaajfbbilhaaGreat.One Go.Proofs.YtgbmaajfbbilhaaGreat.Mem Go.Proofs.YtgbmaajfbbilhaaGreat.Row Go.Proofs.YtgbmaajfbbilhaaGreatW.PrintWords Go.Proofs.YtgbmaajfbbilhaaGreatW.PrintLast Go.Proofs.YtgbmaajfbbilhaaGreatW.PrintMore Go.Proofs.YtgbmaajfbbilhaaGreat.Plain
section
variable {c : Cx} {n : Nat} {st : St} {w : World}
theorem tc_c (h : c.P n st w) (ok : st.r.Ok) : Calls Tryz.prog 105 #[.pointer (some ⟨c.p, 0, none⟩)] w fun e w' => e = .returned (.tuple #[]) ∧ c.P n (xTc st) w' := by
 by_cases hk : st.k = 2
 · exact both_c1 h ok hk
 · exact both_c0 h ok hk
theorem putR_ok {r : Rg} (h : r.Ok) (i x : Int) (x0 : 0 ≤ x) (x1 : x ≤ 65535) : (putR r i x).Ok := by
 have hb := cor_b x0 x1
 unfold putR
 repeat' split
 all_goals (first | exact h | exact ⟨by first | exact h.a0 | omega, by first | exact h.a1 | omega, by first | exact h.l0 | (dsimp only; omega), by first | exact h.l1 | (dsimp only; omega), by first | exact h.q0 | (dsimp only; omega), by first | exact h.q1 | (dsimp only; omega), by first | exact h.z0 | (dsimp only; omega), by first | exact h.z1 | (dsimp only; omega), by first | exact h.e0 | (dsimp only; omega), by first | exact h.e1 | (dsimp only; omega), by first | exact h.f0 | (dsimp only; omega), by first | exact h.f1 | (dsimp only; omega), h.s0, h.s1, h.i0, h.i1, h.b0, h.b1⟩)
theorem put_ok {st : St} (h : st.r.Ok) (i x : Int) (x0 : 0 ≤ x) (x1 : x ≤ 65535) : (st.put i x).r.Ok := by
 unfold St.put
 split
 · exact putR_ok h i x x0 x1
 · exact h
theorem dxch_c (h : c.P n st w) (ok : st.r.Ok) (h0 : 0 ≤ st.sp.f1) (h9 : st.sp.f1 < 40000) (hn : n ≤ 70) : Calls Tryz.prog 125 #[.pointer (some ⟨c.p, 0, none⟩)] w fun e w' => e = .returned (.tuple #[]) ∧ c.P (n + 1 + 1 + 1 + 1) (xDxch st c.v) w' := by
 have HR := Aside0.mk h
 clear h
 have hfd := fldSp
 have BY := Aside0.mk (look_b ok c.v (nextSp st.sp))
 have OKB := Aside0.mk (put_ok (st := st.see c.v (nextSp st.sp)) ok (nextSp st.sp).f1 (extI st.r.l) (ext_b _).1 (ext_b _).2)
 have OK1 : Aside0 (St.r ({ ((st.see c.v (nextSp st.sp)).put (nextSp st.sp).f1 (extI st.r.l)) with r := { ((st.see c.v (nextSp st.sp)).put (nextSp st.sp).f1 (extI st.r.l)).r with l := corI ((lookN st.r c.v (nextSp st.sp)).1) } })).Ok := ⟨{ OKB.out with l0 := (cor_b BY.out.1 BY.out.2).1, l1 := (cor_b BY.out.1 BY.out.2).2 }⟩
 have SP1 : Aside0 (0 ≤ (St.sp ({ ((st.see c.v (nextSp st.sp)).put (nextSp st.sp).f1 (extI st.r.l)) with r := { ((st.see c.v (nextSp st.sp)).put (nextSp st.sp).f1 (extI st.r.l)).r with l := corI ((lookN st.r c.v (nextSp st.sp)).1) } })).f1) := ⟨show 0 ≤ (((st.see c.v (nextSp st.sp)).put (nextSp st.sp).f1 (extI st.r.l))).sp.f1 from by rw [put_sp]; exact h0⟩
 have hu0 := Tryz.underlying124
 have hu1 := Tryz.underlying26
 have hu2 := Tryz.underlying34
 have hu3 := Tryz.underlying103
 have hu4 := Tryz.underlying29
 go_enter Tryz.func125, Tryz.ntmps125
 go_upto_region 1 with (first | (go_at_call 215; (with_reducible refine at_args #[.pointer (some ⟨c.p, 0, none⟩)] ?_); (with_reducible refine (next_c HR.out h0 h9).mono ?_); rintro e wc ⟨rfl, hR⟩; replace HR := Aside0.mk hR; clear hR) | (go_at_call 214; (with_reducible refine at_args #[.pointer (some ⟨c.p, 0, none⟩), .agg #[.int .u8 (nextSp st.sp).f0, .int .i64 (nextSp st.sp).f1]] ?_); (with_reducible refine (at_c HR.out ok (nextSp st.sp) (nextSp_b _ h0) (by omega)).mono ?_); rintro e wc ⟨rfl, hR⟩; replace HR := Aside0.mk hR; clear hR))
 replace HR := Aside0.mk HR.out.drew
 refine start_ (n := 11) (S := fun w' => w'.cell? ⟨c.p, 1, none⟩ = some (.int .u16 st.r.l)) (ds := [10]) #[false, false, false, false, false, false, false, false, false, false, false] (by kernel_rfl) rfl rfl (HR.out.c1) (fun hHeld => ?_)
 generalize wc.drew = wd at HR hHeld ⊢
 refine pvq_ 0 (some 7) rfl rfl ?_
 refine pvq_ 1 (some 8) rfl rfl ?_
 refine pvq_ 4 (some 11) rfl rfl ?_
 refine pvq_ 5 (some 12) rfl rfl ?_
 refine pvq_ 6 (some 13) rfl rfl ?_
 refine pvq_ 7 (some 14) rfl rfl ?_
 refine tkq_ 8 (some 15) rfl rfl hHeld ?_
 refine onq_ 2 (some 9) rfl rfl (fun K hK => ?_)
 refine goq_ Tryz.func215 #[.pointer (some ⟨c.p, 0, none⟩)] ?_
 with_reducible refine (next_c HR.out h0 h9).mono ?_
 rintro e wc ⟨rfl, hR⟩
 refine ⟨_, rfl, ?_⟩
 replace HR := Aside0.mk hR
 clear hR
 refine hK.out _ _ (HR.out.c1) (fun hHeld => ?_)
 clear hK K
 refine nmq_ (some 9) ?_
 refine pvq_ 3 (some 10) rfl rfl ?_
 refine onq_ 9 (some 16) rfl rfl (fun K hK => ?_)
 refine goq_ Tryz.func186 #[.int .u16 st.r.l] ?_
 with_reducible refine (ext_c _ ok.l0 (by have := ok.l1; omega) _).mono ?_
 rintro e wc ⟨rfl, hR⟩
 refine ⟨_, rfl, ?_⟩
 replace HR := Aside0.mk (HR.out.drawn hR)
 clear hR
 refine hK.out _ _ (HR.out.c1) (fun hHeld => ?_)
 clear hK K
 refine nmq_ (some 16) ?_
 refine laq_ 10 (some 17) rfl rfl (fun K hK => ?_)
 refine goq_ Tryz.func217 #[.pointer (some ⟨c.p, 0, none⟩), .int .i64 (nextSp st.sp).f1, .int .u16 (extI st.r.l)] ?_
 with_reducible refine (store_c HR.out _ (extI st.r.l) (nextSp_b _ h0) (ext_b _).1 (ext_b _).2 (by omega)).mono ?_
 rintro e wc ⟨rfl, hR⟩
 refine ⟨_, rfl, ?_⟩
 replace HR := Aside0.mk hR
 clear hR
 refine hK.out _ _ ?_
 clear hK K
 refine nmq_ (some 17) ?_
 refine done_ (by kernel_rfl) ?_
 go_wp2_with (first | (go_at_call 93; (with_reducible refine at_args #[.int .u16 ((lookN st.r c.v (nextSp st.sp)).1)] ?_); (with_reducible refine (cor_c _ BY.out.1 (by have := BY.out.2; omega) _).mono ?_); rintro e wc ⟨rfl, hd⟩; replace HR := Aside0.mk (HR.out.drawn hd); clear hd) | (refine HR.out.e1 rfl _ _ _ rfl rfl _ rfl ?hi ?_; (case hi => kernel_rfl); intro wc hR; replace HR := Aside0.mk hR; clear hR) | (go_at_call 127; (with_reducible refine at_args #[.pointer (some ⟨c.p, 0, none⟩)] ?_); (with_reducible refine (xch_c (st := { ((st.see c.v (nextSp st.sp)).put (nextSp st.sp).f1 (extI st.r.l)) with r := { ((st.see c.v (nextSp st.sp)).put (nextSp st.sp).f1 (extI st.r.l)).r with l := corI ((lookN st.r c.v (nextSp st.sp)).1) } }) HR.out OK1.out SP1.out (by omega)).mono ?_); rintro e wc ⟨rfl, hR⟩; replace HR := Aside0.mk hR; clear hR))
 first | go_end0 | ((try simp only [Exit.inBlock, Exit.then]); refine bodyPost_ret (results_none rfl _ _ _) rfl ?_)
 exact ⟨rfl, HR.out⟩
theorem ts_0 (h : c.P n st w) (ok : st.r.Ok) (h0 : 0 ≤ st.sp.f1) (hn : n ≤ 80) (hz : st.sp.f1 = 0) (hu : unitI st.r.a = 0) : Calls Tryz.prog 126 #[.pointer (some ⟨c.p, 0, none⟩)] w fun e w' => e = .returned (.tuple #[]) ∧ c.P (n) (xTs st) w' := by
 have HR := Aside0.mk h
 clear h
 have x0 := HR.out.c0
 have x23 := HR.out.c23
 have y0 : (st.sp.f1 != 0) = false := by simpa using hz
 have y1 : (unitI st.r.a == 0) = true := by simpa using hu
 have HZ := Aside0.mk hz
 have HU := Aside0.mk hu
 clear hz hu
 have hu0 := Tryz.underlying124
 have hu1 := Tryz.underlying26
 have hu2 := Tryz.underlying34
 have hu3 := Tryz.underlying103
 have hu4 := Tryz.underlying29
 go_enter Tryz.func126, Tryz.ntmps126
 go_wp2_with (first | (go_at_call 216; (with_reducible refine at_args #[.int .u16 st.r.a] ?_); (with_reducible refine (unit_c _ ok.a0 ok.a1 _).mono ?_); rintro e wc ⟨rfl, hd⟩; replace HR := Aside0.mk (HR.out.drawn hd); clear hd; (try replace x0 : wc.cell? ⟨c.p, 0, none⟩ = some (.int .u16 st.r.a) := by first | exact HR.out.c0 | (have := HR.out.c0; simpa only [put_sp] using this)); (try replace x23 : wc.cell? ⟨c.p, 23, none⟩ = some (.int .i64 st.sp.f1) := by first | exact HR.out.c23 | (have := HR.out.c23; simpa only [put_sp] using this))) | (go_at_call 212; (with_reducible refine at_args #[.pointer (some ⟨c.p, 0, none⟩), .int .i64 1] ?_); (with_reducible refine (skip_c HR.out 1 ok.z0 ok.z1 (by decide) (by decide)).mono ?_); rintro e wc ⟨rfl, hR⟩; replace HR := Aside0.mk hR; clear hR; (try replace x23 : wc.cell? ⟨c.p, 23, none⟩ = some (.int .i64 st.sp.f1) := by first | exact HR.out.c23 | (have := HR.out.c23; simpa only [put_sp] using this))) | (refine HR.out.e0 rfl _ _ _ rfl rfl _ rfl ?hi ?_; (case hi => kernel_rfl); intro wc hR; replace HR := Aside0.mk hR; clear hR))
 first | go_end0 | ((try simp only [Exit.inBlock, Exit.then]); refine bodyPost_ret (results_none rfl _ _ _) rfl ?_)
 refine ⟨rfl, ?_⟩
 unfold xTs
 simp only [HZ.out, HU.out, ne_eq, not_true_eq_false, not_false_eq_true, if_true, if_false]
 exact HR.out
theorem ts_1 (h : c.P n st w) (ok : st.r.Ok) (h0 : 0 ≤ st.sp.f1) (hn : n ≤ 80) (hz : st.sp.f1 = 0) (hu : unitI st.r.a ≠ 0) : Calls Tryz.prog 126 #[.pointer (some ⟨c.p, 0, none⟩)] w fun e w' => e = .returned (.tuple #[]) ∧ c.P (n) (xTs st) w' := by
 have HR := Aside0.mk h
 clear h
 have x0 := HR.out.c0
 have x23 := HR.out.c23
 have y0 : (st.sp.f1 != 0) = false := by simpa using hz
 have y1 : (unitI st.r.a == 0) = false := by simpa using hu
 have HZ := Aside0.mk hz
 have HU := Aside0.mk hu
 clear hz hu
 have hu0 := Tryz.underlying124
 have hu1 := Tryz.underlying26
 have hu2 := Tryz.underlying34
 have hu3 := Tryz.underlying103
 have hu4 := Tryz.underlying29
 go_enter Tryz.func126, Tryz.ntmps126
 go_wp2_with (first | (go_at_call 216; (with_reducible refine at_args #[.int .u16 st.r.a] ?_); (with_reducible refine (unit_c _ ok.a0 ok.a1 _).mono ?_); rintro e wc ⟨rfl, hd⟩; replace HR := Aside0.mk (HR.out.drawn hd); clear hd; (try replace x0 : wc.cell? ⟨c.p, 0, none⟩ = some (.int .u16 st.r.a) := by first | exact HR.out.c0 | (have := HR.out.c0; simpa only [put_sp] using this)); (try replace x23 : wc.cell? ⟨c.p, 23, none⟩ = some (.int .i64 st.sp.f1) := by first | exact HR.out.c23 | (have := HR.out.c23; simpa only [put_sp] using this))) | (go_at_call 212; (with_reducible refine at_args #[.pointer (some ⟨c.p, 0, none⟩), .int .i64 1] ?_); (with_reducible refine (skip_c HR.out 1 ok.z0 ok.z1 (by decide) (by decide)).mono ?_); rintro e wc ⟨rfl, hR⟩; replace HR := Aside0.mk hR; clear hR; (try replace x23 : wc.cell? ⟨c.p, 23, none⟩ = some (.int .i64 st.sp.f1) := by first | exact HR.out.c23 | (have := HR.out.c23; simpa only [put_sp] using this))) | (refine HR.out.e0 rfl _ _ _ rfl rfl _ rfl ?hi ?_; (case hi => kernel_rfl); intro wc hR; replace HR := Aside0.mk hR; clear hR))
 first | go_end0 | ((try simp only [Exit.inBlock, Exit.then]); refine bodyPost_ret (results_none rfl _ _ _) rfl ?_)
 refine ⟨rfl, ?_⟩
 unfold xTs
 simp only [HZ.out, HU.out, ne_eq, not_true_eq_false, not_false_eq_true, if_true, if_false]
 exact HR.out
theorem ts_2 (h : c.P n st w) (ok : st.r.Ok) (h0 : 0 ≤ st.sp.f1) (hn : n ≤ 80) (hz : st.sp.f1 ≠ 0) (hu : unitI st.r.a = 0) : Calls Tryz.prog 126 #[.pointer (some ⟨c.p, 0, none⟩)] w fun e w' => e = .returned (.tuple #[]) ∧ c.P (n + 1) (xTs st) w' := by
 have HR := Aside0.mk h
 clear h
 have x0 := HR.out.c0
 have x23 := HR.out.c23
 have y0 : (st.sp.f1 != 0) = true := by simpa using hz
 have y1 : (unitI st.r.a == 0) = true := by simpa using hu
 have HZ := Aside0.mk hz
 have HU := Aside0.mk hu
 clear hz hu
 have hu0 := Tryz.underlying124
 have hu1 := Tryz.underlying26
 have hu2 := Tryz.underlying34
 have hu3 := Tryz.underlying103
 have hu4 := Tryz.underlying29
 go_enter Tryz.func126, Tryz.ntmps126
 go_upto_region 2 with (first | (go_at_call 216; (with_reducible refine at_args #[.int .u16 st.r.a] ?_); (with_reducible refine (unit_c _ ok.a0 ok.a1 _).mono ?_); rintro e wc ⟨rfl, hd⟩; replace HR := Aside0.mk (HR.out.drawn hd); clear hd; (try replace x0 : wc.cell? ⟨c.p, 0, none⟩ = some (.int .u16 st.r.a) := by first | exact HR.out.c0 | (have := HR.out.c0; simpa only [put_sp] using this)); (try replace x23 : wc.cell? ⟨c.p, 23, none⟩ = some (.int .i64 st.sp.f1) := by first | exact HR.out.c23 | (have := HR.out.c23; simpa only [put_sp] using this))))
 replace HR := Aside0.mk HR.out.drew
 refine start_ (n := 12) (S := fun w' => w'.cell? ⟨c.p, 23, none⟩ = some (.int .i64 st.sp.f1) ∧ w'.cell? ⟨c.p, 0, none⟩ = some (.int .u16 st.r.a)) (ds := [11]) #[false, false, false, false, false, false, false, false, false, false, false, false] (by kernel_rfl) rfl rfl ⟨HR.out.c23, HR.out.c0⟩ (fun hHeld => ?_)
 generalize wc.drew = wd at HR hHeld ⊢
 refine pvq_ 0 (some 15) rfl rfl ?_
 refine pvq_ 1 (some 16) rfl rfl ?_
 refine pvq_ 2 (some 17) rfl rfl ?_
 refine pvq_ 3 (some 18) rfl rfl ?_
 refine pvq_ 4 (some 19) rfl rfl ?_
 refine pvq_ 6 (some 21) rfl rfl ?_
 refine pvq_ 7 (some 22) rfl rfl ?_
 refine pvq_ 8 (some 23) rfl rfl ?_
 refine pvq_ 9 (some 24) rfl rfl ?_
 refine tkq_ 5 (some 20) rfl rfl hHeld ?_
 refine tkq_ 10 (some 25) rfl rfl hHeld ?_
 refine laq_ 11 (some 26) rfl rfl (fun K hK => ?_)
 refine goq_ Tryz.func217 #[.pointer (some ⟨c.p, 0, none⟩), .int .i64 st.sp.f1, .int .u16 st.r.a] ?_
 with_reducible refine (store_c HR.out _ st.r.a h0 ok.a0 ok.a1 (by omega)).mono ?_
 rintro e wc ⟨rfl, hR⟩
 refine ⟨_, rfl, ?_⟩
 replace HR := Aside0.mk hR
 clear hR
 refine hK.out _ _ ?_
 clear hK K
 refine nmq_ (some 26) ?_
 refine done_ (by kernel_rfl) ?_
 have x23 : wc.cell? ⟨c.p, 23, none⟩ = some (.int .i64 st.sp.f1) := by have := HR.out.c23; simpa only [put_sp] using this
 go_wp2_with (first | (go_at_call 216; (with_reducible refine at_args #[.int .u16 st.r.a] ?_); (with_reducible refine (unit_c _ ok.a0 ok.a1 _).mono ?_); rintro e wc ⟨rfl, hd⟩; replace HR := Aside0.mk (HR.out.drawn hd); clear hd; (try replace x0 : wc.cell? ⟨c.p, 0, none⟩ = some (.int .u16 st.r.a) := by first | exact HR.out.c0 | (have := HR.out.c0; simpa only [put_sp] using this)); (try replace x23 : wc.cell? ⟨c.p, 23, none⟩ = some (.int .i64 st.sp.f1) := by first | exact HR.out.c23 | (have := HR.out.c23; simpa only [put_sp] using this))) | (go_at_call 212; (with_reducible refine at_args #[.pointer (some ⟨c.p, 0, none⟩), .int .i64 1] ?_); (with_reducible refine (skip_c HR.out 1 (put_ok ok _ _ ok.a0 ok.a1).z0 (put_ok ok _ _ ok.a0 ok.a1).z1 (by decide) (by decide)).mono ?_); rintro e wc ⟨rfl, hR⟩; replace HR := Aside0.mk hR; clear hR; (try replace x23 : wc.cell? ⟨c.p, 23, none⟩ = some (.int .i64 st.sp.f1) := by first | exact HR.out.c23 | (have := HR.out.c23; simpa only [put_sp] using this))) | (refine HR.out.e0 rfl _ _ _ rfl rfl _ rfl ?hi ?_; (case hi => kernel_rfl); intro wc hR; replace HR := Aside0.mk hR; clear hR))
 first | go_end0 | ((try simp only [Exit.inBlock, Exit.then]); refine bodyPost_ret (results_none rfl _ _ _) rfl ?_)
 refine ⟨rfl, ?_⟩
 unfold xTs
 simp only [HZ.out, HU.out, ne_eq, not_true_eq_false, not_false_eq_true, if_true, if_false]
 exact HR.out
theorem ts_3 (h : c.P n st w) (ok : st.r.Ok) (h0 : 0 ≤ st.sp.f1) (hn : n ≤ 80) (hz : st.sp.f1 ≠ 0) (hu : unitI st.r.a ≠ 0) : Calls Tryz.prog 126 #[.pointer (some ⟨c.p, 0, none⟩)] w fun e w' => e = .returned (.tuple #[]) ∧ c.P (n + 1) (xTs st) w' := by
 have HR := Aside0.mk h
 clear h
 have x0 := HR.out.c0
 have x23 := HR.out.c23
 have y0 : (st.sp.f1 != 0) = true := by simpa using hz
 have y1 : (unitI st.r.a == 0) = false := by simpa using hu
 have HZ := Aside0.mk hz
 have HU := Aside0.mk hu
 clear hz hu
 have hu0 := Tryz.underlying124
 have hu1 := Tryz.underlying26
 have hu2 := Tryz.underlying34
 have hu3 := Tryz.underlying103
 have hu4 := Tryz.underlying29
 go_enter Tryz.func126, Tryz.ntmps126
 go_upto_region 2 with (first | (go_at_call 216; (with_reducible refine at_args #[.int .u16 st.r.a] ?_); (with_reducible refine (unit_c _ ok.a0 ok.a1 _).mono ?_); rintro e wc ⟨rfl, hd⟩; replace HR := Aside0.mk (HR.out.drawn hd); clear hd; (try replace x0 : wc.cell? ⟨c.p, 0, none⟩ = some (.int .u16 st.r.a) := by first | exact HR.out.c0 | (have := HR.out.c0; simpa only [put_sp] using this)); (try replace x23 : wc.cell? ⟨c.p, 23, none⟩ = some (.int .i64 st.sp.f1) := by first | exact HR.out.c23 | (have := HR.out.c23; simpa only [put_sp] using this))))
 replace HR := Aside0.mk HR.out.drew
 refine start_ (n := 12) (S := fun w' => w'.cell? ⟨c.p, 23, none⟩ = some (.int .i64 st.sp.f1) ∧ w'.cell? ⟨c.p, 0, none⟩ = some (.int .u16 st.r.a)) (ds := [11]) #[false, false, false, false, false, false, false, false, false, false, false, false] (by kernel_rfl) rfl rfl ⟨HR.out.c23, HR.out.c0⟩ (fun hHeld => ?_)
 generalize wc.drew = wd at HR hHeld ⊢
 refine pvq_ 0 (some 15) rfl rfl ?_
 refine pvq_ 1 (some 16) rfl rfl ?_
 refine pvq_ 2 (some 17) rfl rfl ?_
 refine pvq_ 3 (some 18) rfl rfl ?_
 refine pvq_ 4 (some 19) rfl rfl ?_
 refine pvq_ 6 (some 21) rfl rfl ?_
 refine pvq_ 7 (some 22) rfl rfl ?_
 refine pvq_ 8 (some 23) rfl rfl ?_
 refine pvq_ 9 (some 24) rfl rfl ?_
 refine tkq_ 5 (some 20) rfl rfl hHeld ?_
 refine tkq_ 10 (some 25) rfl rfl hHeld ?_
 refine laq_ 11 (some 26) rfl rfl (fun K hK => ?_)
 refine goq_ Tryz.func217 #[.pointer (some ⟨c.p, 0, none⟩), .int .i64 st.sp.f1, .int .u16 st.r.a] ?_
 with_reducible refine (store_c HR.out _ st.r.a h0 ok.a0 ok.a1 (by omega)).mono ?_
 rintro e wc ⟨rfl, hR⟩
 refine ⟨_, rfl, ?_⟩
 replace HR := Aside0.mk hR
 clear hR
 refine hK.out _ _ ?_
 clear hK K
 refine nmq_ (some 26) ?_
 refine done_ (by kernel_rfl) ?_
 have x23 : wc.cell? ⟨c.p, 23, none⟩ = some (.int .i64 st.sp.f1) := by have := HR.out.c23; simpa only [put_sp] using this
 go_wp2_with (first | (go_at_call 216; (with_reducible refine at_args #[.int .u16 st.r.a] ?_); (with_reducible refine (unit_c _ ok.a0 ok.a1 _).mono ?_); rintro e wc ⟨rfl, hd⟩; replace HR := Aside0.mk (HR.out.drawn hd); clear hd; (try replace x0 : wc.cell? ⟨c.p, 0, none⟩ = some (.int .u16 st.r.a) := by first | exact HR.out.c0 | (have := HR.out.c0; simpa only [put_sp] using this)); (try replace x23 : wc.cell? ⟨c.p, 23, none⟩ = some (.int .i64 st.sp.f1) := by first | exact HR.out.c23 | (have := HR.out.c23; simpa only [put_sp] using this))) | (go_at_call 212; (with_reducible refine at_args #[.pointer (some ⟨c.p, 0, none⟩), .int .i64 1] ?_); (with_reducible refine (skip_c HR.out 1 (put_ok ok _ _ ok.a0 ok.a1).z0 (put_ok ok _ _ ok.a0 ok.a1).z1 (by decide) (by decide)).mono ?_); rintro e wc ⟨rfl, hR⟩; replace HR := Aside0.mk hR; clear hR; (try replace x23 : wc.cell? ⟨c.p, 23, none⟩ = some (.int .i64 st.sp.f1) := by first | exact HR.out.c23 | (have := HR.out.c23; simpa only [put_sp] using this))) | (refine HR.out.e0 rfl _ _ _ rfl rfl _ rfl ?hi ?_; (case hi => kernel_rfl); intro wc hR; replace HR := Aside0.mk hR; clear hR))
 first | go_end0 | ((try simp only [Exit.inBlock, Exit.then]); refine bodyPost_ret (results_none rfl _ _ _) rfl ?_)
 refine ⟨rfl, ?_⟩
 unfold xTs
 simp only [HZ.out, HU.out, ne_eq, not_true_eq_false, not_false_eq_true, if_true, if_false]
 exact HR.out
theorem ts_c (h : c.P n st w) (ok : st.r.Ok) (h0 : 0 ≤ st.sp.f1) (hn : n ≤ 80) : Calls Tryz.prog 126 #[.pointer (some ⟨c.p, 0, none⟩)] w fun e w' => e = .returned (.tuple #[]) ∧ c.P (n + 1) (xTs st) w' := by
 have up : ∀ {s : St} {w1 : World}, c.P n s w1 → c.P (n + 1) s w1 := fun h => ⟨h.run, h.ok, by have := h.sz; omega⟩
 by_cases hz : st.sp.f1 = 0 <;> by_cases hu : unitI st.r.a = 0
 · exact (ts_0 h ok h0 hn hz hu).mono fun e w' ⟨he, hp⟩ => ⟨he, up hp⟩
 · exact (ts_1 h ok h0 hn hz hu).mono fun e w' ⟨he, hp⟩ => ⟨he, up hp⟩
 · exact ts_2 h ok h0 hn hz hu
 · exact ts_3 h ok h0 hn hz hu
theorem aug_0 (h : c.P n st w) (ok : st.r.Ok) (h0 : 0 ≤ st.sp.f1) (hn : n ≤ 80) (hb : ¬ ( rdA st c.v > 32767)) : Calls Tryz.prog 151 #[.pointer (some ⟨c.p, 0, none⟩)] w fun e w' => e = .returned (.tuple #[]) ∧ c.P (n + 1 + 1) (xAug st c.v) w' := by
 have HR := Aside0.mk h
 clear h
 have y0 : (rdA st c.v / 32768 == 1) = false := by have := rdA_b ok c.v; simp; omega
 have HB := Aside0.mk hb
 clear hb
 have hu0 := Tryz.underlying124
 have hu1 := Tryz.underlying26
 have hu2 := Tryz.underlying34
 have hu3 := Tryz.underlying103
 have hu4 := Tryz.underlying29
 go_enter Tryz.func151, Tryz.ntmps151
 go_upto_region 4 with (first | (go_at_call 118; (with_reducible refine at_args #[.pointer (some ⟨c.p, 0, none⟩)] ?_); (with_reducible refine (read_c HR.out ok h0 (by omega)).mono ?_); rintro e wc ⟨rfl, hR⟩; replace HR := Aside0.mk hR; clear hR))
 replace HR := Aside0.mk HR.out.drew
 refine start_ (n := 10) (S := fun w' => w'.cell? ⟨c.p, 23, none⟩ = some (.int .i64 st.sp.f1)) (ds := [9]) #[false, false, false, false, false, false, false, false, false, false] (by kernel_rfl) rfl rfl (HR.out.c23) (fun hHeld => ?_)
 generalize wc.drew = wd at HR hHeld ⊢
 refine pvq_ 0 (some 9) rfl rfl ?_
 refine pvq_ 1 (some 10) rfl rfl ?_
 refine pvq_ 2 (some 11) rfl rfl ?_
 refine pvq_ 3 (some 12) rfl rfl ?_
 refine pvq_ 4 (some 13) rfl rfl ?_
 refine pvq_ 6 (some 15) rfl rfl ?_
 refine pvq_ 7 (some 16) rfl rfl ?_
 refine tkq_ 5 (some 14) rfl rfl hHeld ?_
 refine onq_ 8 (some 17) rfl rfl (fun K hK => ?_)
 refine goq_ Tryz.func129 #[.int .u16 (rdA st c.v), .int .u16 (1)] ?_
 with_reducible refine (addAcc_c _ _ (rdA_b ok c.v).1 (rdA_b ok c.v).2 (by decide) (by decide) _).mono ?_
 rintro e wc ⟨rfl, hR⟩
 refine ⟨_, rfl, ?_⟩
 replace HR := Aside0.mk (HR.out.drawn hR)
 clear hR
 refine hK.out _ _ (HR.out.c23) (fun hHeld => ?_)
 clear hK K
 refine nmq_ (some 17) ?_
 refine laq_ 9 (some 18) rfl rfl (fun K hK => ?_)
 refine goq_ Tryz.func217 #[.pointer (some ⟨c.p, 0, none⟩), .int .i64 st.sp.f1, .int .u16 (addAccI (rdA st c.v) 1)] ?_
 with_reducible refine (store_c HR.out _ (addAccI (rdA st c.v) 1) h0 (addAcc_b (rdA_b ok c.v).1 (by have := (rdA_b ok c.v).2; omega) (by decide) (by decide)).1 (addAcc_b (rdA_b ok c.v).1 (by have := (rdA_b ok c.v).2; omega) (by decide) (by decide)).2 (by omega)).mono ?_
 rintro e wc ⟨rfl, hR⟩
 refine ⟨_, rfl, ?_⟩
 replace HR := Aside0.mk hR
 clear hR
 refine hK.out _ _ ?_
 clear hK K
 refine nmq_ (some 18) ?_
 refine done_ (by kernel_rfl) ?_
 go_wp2
 first | go_end0 | ((try simp only [Exit.inBlock, Exit.then]); refine bodyPost_ret (results_none rfl _ _ _) rfl ?_)
 refine ⟨rfl, ?_⟩
 unfold xAug
 rw [if_neg (by have := HB.out; omega)]
 exact HR.out
theorem aug_1 (h : c.P n st w) (ok : st.r.Ok) (h0 : 0 ≤ st.sp.f1) (hn : n ≤ 80) (hb :  rdA st c.v > 32767) : Calls Tryz.prog 151 #[.pointer (some ⟨c.p, 0, none⟩)] w fun e w' => e = .returned (.tuple #[]) ∧ c.P (n + 1 + 1) (xAug st c.v) w' := by
 have HR := Aside0.mk h
 clear h
 have y0 : (rdA st c.v / 32768 == 1) = true := by have := rdA_b ok c.v; simp; omega
 have HB := Aside0.mk hb
 clear hb
 have hu0 := Tryz.underlying124
 have hu1 := Tryz.underlying26
 have hu2 := Tryz.underlying34
 have hu3 := Tryz.underlying103
 have hu4 := Tryz.underlying29
 go_enter Tryz.func151, Tryz.ntmps151
 go_upto_region 4 with (first | (go_at_call 118; (with_reducible refine at_args #[.pointer (some ⟨c.p, 0, none⟩)] ?_); (with_reducible refine (read_c HR.out ok h0 (by omega)).mono ?_); rintro e wc ⟨rfl, hR⟩; replace HR := Aside0.mk hR; clear hR))
 replace HR := Aside0.mk HR.out.drew
 refine start_ (n := 10) (S := fun w' => w'.cell? ⟨c.p, 23, none⟩ = some (.int .i64 st.sp.f1)) (ds := [9]) #[false, false, false, false, false, false, false, false, false, false] (by kernel_rfl) rfl rfl (HR.out.c23) (fun hHeld => ?_)
 generalize wc.drew = wd at HR hHeld ⊢
 refine pvq_ 0 (some 9) rfl rfl ?_
 refine pvq_ 1 (some 10) rfl rfl ?_
 refine pvq_ 2 (some 11) rfl rfl ?_
 refine pvq_ 3 (some 12) rfl rfl ?_
 refine pvq_ 4 (some 13) rfl rfl ?_
 refine pvq_ 6 (some 15) rfl rfl ?_
 refine pvq_ 7 (some 16) rfl rfl ?_
 refine tkq_ 5 (some 14) rfl rfl hHeld ?_
 refine onq_ 8 (some 17) rfl rfl (fun K hK => ?_)
 refine goq_ Tryz.func129 #[.int .u16 (rdA st c.v), .int .u16 (65534)] ?_
 with_reducible refine (addAcc_c _ _ (rdA_b ok c.v).1 (rdA_b ok c.v).2 (by decide) (by decide) _).mono ?_
 rintro e wc ⟨rfl, hR⟩
 refine ⟨_, rfl, ?_⟩
 replace HR := Aside0.mk (HR.out.drawn hR)
 clear hR
 refine hK.out _ _ (HR.out.c23) (fun hHeld => ?_)
 clear hK K
 refine nmq_ (some 17) ?_
 refine laq_ 9 (some 18) rfl rfl (fun K hK => ?_)
 refine goq_ Tryz.func217 #[.pointer (some ⟨c.p, 0, none⟩), .int .i64 st.sp.f1, .int .u16 (addAccI (rdA st c.v) 65534)] ?_
 with_reducible refine (store_c HR.out _ (addAccI (rdA st c.v) 65534) h0 (addAcc_b (rdA_b ok c.v).1 (by have := (rdA_b ok c.v).2; omega) (by decide) (by decide)).1 (addAcc_b (rdA_b ok c.v).1 (by have := (rdA_b ok c.v).2; omega) (by decide) (by decide)).2 (by omega)).mono ?_
 rintro e wc ⟨rfl, hR⟩
 refine ⟨_, rfl, ?_⟩
 replace HR := Aside0.mk hR
 clear hR
 refine hK.out _ _ ?_
 clear hK K
 refine nmq_ (some 18) ?_
 refine done_ (by kernel_rfl) ?_
 go_wp2
 first | go_end0 | ((try simp only [Exit.inBlock, Exit.then]); refine bodyPost_ret (results_none rfl _ _ _) rfl ?_)
 refine ⟨rfl, ?_⟩
 unfold xAug
 rw [if_pos (by have := HB.out; omega)]
 exact HR.out
theorem aug_c (h : c.P n st w) (ok : st.r.Ok) (h0 : 0 ≤ st.sp.f1) (hn : n ≤ 80) : Calls Tryz.prog 151 #[.pointer (some ⟨c.p, 0, none⟩)] w fun e w' => e = .returned (.tuple #[]) ∧ c.P (n + 1 + 1) (xAug st c.v) w' := by
 by_cases hb : rdA st c.v > 32767
 · exact aug_1 h ok h0 hn hb
 · exact aug_0 h ok h0 hn hb
end
end Go.Proofs.YtgbmaajfbbilhaaGreat.Cpu
end
section
namespace Go.Proofs.YtgbmaajfbbilhaaGreat.Cpu
open Go.RowKit Go.Proofs.YtgbmaajfbbilhaaGreat.PAll Go.Proofs.YtgbmaajfbbilhaaGreat.One Go.Proofs.YtgbmaajfbbilhaaGreat.Mem Go.Proofs.YtgbmaajfbbilhaaGreat.Row Go.Proofs.YtgbmaajfbbilhaaGreatW.PrintWords Go.Proofs.YtgbmaajfbbilhaaGreatW.PrintLast Go.Proofs.YtgbmaajfbbilhaaGreatW.PrintMore Go.Proofs.YtgbmaajfbbilhaaGreat.Plain
section
variable {c : Cx} {n : Nat} {st : St} {w : World}
theorem u16_xor {a b : Int} (a0 : 0 ≤ a) (a1 : a < 65536) (b0 : 0 ≤ b) (b1 : b < 65536) : Go.bits .xor .u16 a b = ((a.toNat ^^^ b.toNat : Nat) : Int) := by
 have hx : a.toNat ^^^ b.toNat < 2 ^ 16 := Nat.xor_lt_two_pow (by omega) (by omega)
 have h1 : (BitVec.ofInt 16 a).toNat = a.toNat := by
  rw [show a = ((a.toNat : Nat) : Int) by omega, BitVec.ofInt_natCast, BitVec.toNat_ofNat]; exact Nat.mod_eq_of_lt (by omega)
 have h2 : (BitVec.ofInt 16 b).toNat = b.toNat := by
  rw [show b = ((b.toNat : Nat) : Int) by omega, BitVec.ofInt_natCast, BitVec.toNat_ofNat]; exact Nat.mod_eq_of_lt (by omega)
 show IntKind.u16.wrap ((BitVec.ofInt 16 a ^^^ BitVec.ofInt 16 b).toNat : Int) = _
 rw [BitVec.toNat_xor, h1, h2, IntKind.wrap_u16]
 omega
theorem nat_xor_ones {k y : Nat} (h : y < 2 ^ k) : y ^^^ (2 ^ k - 1) = 2 ^ k - 1 - y := by
 have e := congrArg BitVec.toNat (BitVec.xor_allOnes (x := BitVec.ofNat k y))
 rw [BitVec.toNat_xor, BitVec.toNat_allOnes, BitVec.toNat_not, BitVec.toNat_ofNat, Nat.mod_eq_of_lt h] at e
 exact e
theorem xor_zero {a : Int} (a0 : 0 ≤ a) (a1 : a < 65536) : Go.bits .xor .u16 a 0 = a := by
 rw [u16_xor a0 a1 (by decide) (by decide)]; show ((a.toNat ^^^ 0 : Nat) : Int) = a; rw [Nat.xor_zero]; omega
theorem xor_ff {a : Int} (a0 : 0 ≤ a) (a1 : a < 65536) : Go.bits .xor .u16 a 65535 = negAccI a := by
 rw [u16_xor a0 a1 (by decide) (by decide)]
 have e := nat_xor_ones (k := 16) (y := a.toNat) (by omega)
 show ((a.toNat ^^^ 65535 : Nat) : Int) = negAccI a
 rw [show (65535 : Nat) = 2 ^ 16 - 1 by decide, e]; unfold negAccI; omega
theorem xor_7f {a : Int} (a0 : 0 ≤ a) (a1 : a ≤ 32767) : Go.bits .xor .u16 a 32767 = negI a := by
 rw [u16_xor a0 (by omega) (by decide) (by decide)]
 have e := nat_xor_ones (k := 15) (y := a.toNat) (by omega)
 show ((a.toNat ^^^ 32767 : Nat) : Int) = negI a
 rw [show (32767 : Nat) = 2 ^ 15 - 1 by decide, e]; unfold negI; omega
theorem xor_14 {a b : Int} (a0 : 0 ≤ a) (a1 : a < 65536) (b0 : 0 ≤ b) (b1 : b < 65536) : (Go.bits .and .u16 (Go.bits .xor .u16 a b) 16384 != 0) = (negB a != negB b) := by
 rw [u16_xor a0 a1 b0 b1]
 have hx : a.toNat ^^^ b.toNat < 2 ^ 16 := Nat.xor_lt_two_pow (by omega) (by omega)
 rw [and_16384 (by omega) (by omega)]
 have e := Nat.testBit_xor a.toNat b.toNat 14
 rw [Nat.testBit_eq_decide_div_mod_eq, Nat.testBit_eq_decide_div_mod_eq, Nat.testBit_eq_decide_div_mod_eq] at e
 generalize a.toNat ^^^ b.toNat = z at *
 have ea : decide (a.toNat / 2 ^ 14 % 2 = 1) = negB a := by unfold negB; congr 1; apply propext; omega
 have eb : decide (b.toNat / 2 ^ 14 % 2 = 1) = negB b := by unfold negB; congr 1; apply propext; omega
 rw [ea, eb] at e
 rw [show (negB a != negB b) = (negB a ^^ negB b) from rfl, ← e, Bool.eq_iff_iff]
 simp; omega
theorem mul_b (a b : Int) : -268435456 ≤ valI a * valI b ∧ valI a * valI b ≤ 268435456 := by
 have h1 := mul_abs a b
 have h2 : absI (valI a) * absI (valI b) ≤ 16384 * 16384 := Int.mul_le_mul (val_abs a) (val_abs b) (abs_b _) (by decide)
 rw [← h1] at h2
 unfold absI at h2
 split at h2 <;> omega
theorem mul_00 (a b : Int) (a0 : 0 ≤ a) (a1 : a < 65536) (b0 : 0 ≤ b) (b1 : b < 65536) (hm : ¬ ( valI a * valI b < 0)) (hd : (negB a != negB b) = false) (w : World) : Calls Tryz.prog 21 #[.int .u16 a, .int .u16 b] w fun e w' => e = .returned (.tuple #[.int .u16 (mulH a b), .int .u16 (mulL a b)]) ∧ Drawn0 w w' := by
 have hx := xor_14 a0 a1 b0 b1
 rw [hd] at hx
 have hb := mul_b a b
 have e1 : mulH a b = (valI a * valI b) / 16384 := by unfold mulH absI; rw [if_pos (by simpa using hd)]; rw [if_neg hm]
 have e2 : mulL a b = (valI a * valI b) % 16384 := by unfold mulL absI; rw [if_pos (by simpa using hd)]; rw [if_neg hm]
 rw [e1, e2]
 have VA := Lib.hid (value_c a a0 a1)
 have VB := Lib.hid (value_c b b0 b1)
 have NA := Lib.hid (fun w => neg_c ((valI a * valI b) / 16384) (by omega) (by omega) w)
 have NB := Lib.hid (fun w => neg_c ((valI a * valI b) % 16384) (by omega) (by omega) w)
 clear e1 e2 hd
 obtain ⟨m, hme⟩ : ∃ m, valI a * valI b = m := ⟨_, rfl⟩
 have hw : wrap64 (valI a * valI b) = m := by rw [hme] at hb ⊢; unfold wrap64; omega
 rw [hme] at hb hm NA NB ⊢
 have y0 : decide (m < 0) = false := by simpa using hm
 have w2 : wrap64 (-m) = -m := by unfold wrap64; omega
 have f1 : IntKind.u16.wrap (m / 16384) = m / 16384 := u16w (by omega) (by omega)
 have f2 : Go.bits .and .i64 (m) 16383 = m % 16384 := and_low 14 (by decide) (by omega) (by omega)
 have f3 : IntKind.u16.wrap (m % 16384) = m % 16384 := u16w (by omega) (by omega)
 have HD := Aside0.mk (Drawn0.refl w)
 clear hm hb hme
 go_enter Tryz.func21, Tryz.ntmps21
 go_wp2_with (first | (go_at_call 69; (with_reducible refine at_args #[.int .u16 a] ?_); (with_reducible refine (VA.out _).mono ?_); rintro e wc ⟨rfl, ⟨nd, rfl⟩⟩) | (go_at_call 69; (with_reducible refine at_args #[.int .u16 b] ?_); (with_reducible refine (VB.out _).mono ?_); rintro e wc ⟨rfl, ⟨nd, rfl⟩⟩) | (go_at_call 70; (with_reducible refine at_args #[.int .u16 (m / 16384)] ?_); (with_reducible refine (NA.out _).mono ?_); rintro e wc ⟨rfl, ⟨nd, rfl⟩⟩) | (go_at_call 70; (with_reducible refine at_args #[.int .u16 (m % 16384)] ?_); (with_reducible refine (NB.out _).mono ?_); rintro e wc ⟨rfl, ⟨nd, rfl⟩⟩))
 go_ret2
 exact ⟨rfl, by repeat (first | exact Drawn0.refl _ | apply Drawn0.step)⟩
theorem mul_01 (a b : Int) (a0 : 0 ≤ a) (a1 : a < 65536) (b0 : 0 ≤ b) (b1 : b < 65536) (hm : ¬ ( valI a * valI b < 0)) (hd : (negB a != negB b) = true) (w : World) : Calls Tryz.prog 21 #[.int .u16 a, .int .u16 b] w fun e w' => e = .returned (.tuple #[.int .u16 (mulH a b), .int .u16 (mulL a b)]) ∧ Drawn0 w w' := by
 have hx := xor_14 a0 a1 b0 b1
 rw [hd] at hx
 have hb := mul_b a b
 have e1 : mulH a b = negI ((valI a * valI b) / 16384) := by unfold mulH absI; rw [if_neg (by simpa using hd)]; rw [if_neg hm]
 have e2 : mulL a b = negI ((valI a * valI b) % 16384) := by unfold mulL absI; rw [if_neg (by simpa using hd)]; rw [if_neg hm]
 rw [e1, e2]
 have VA := Lib.hid (value_c a a0 a1)
 have VB := Lib.hid (value_c b b0 b1)
 have NA := Lib.hid (fun w => neg_c ((valI a * valI b) / 16384) (by omega) (by omega) w)
 have NB := Lib.hid (fun w => neg_c ((valI a * valI b) % 16384) (by omega) (by omega) w)
 clear e1 e2 hd
 obtain ⟨m, hme⟩ : ∃ m, valI a * valI b = m := ⟨_, rfl⟩
 have hw : wrap64 (valI a * valI b) = m := by rw [hme] at hb ⊢; unfold wrap64; omega
 rw [hme] at hb hm NA NB ⊢
 have y0 : decide (m < 0) = false := by simpa using hm
 have w2 : wrap64 (-m) = -m := by unfold wrap64; omega
 have f1 : IntKind.u16.wrap (m / 16384) = m / 16384 := u16w (by omega) (by omega)
 have f2 : Go.bits .and .i64 (m) 16383 = m % 16384 := and_low 14 (by decide) (by omega) (by omega)
 have f3 : IntKind.u16.wrap (m % 16384) = m % 16384 := u16w (by omega) (by omega)
 have HD := Aside0.mk (Drawn0.refl w)
 clear hm hb hme
 go_enter Tryz.func21, Tryz.ntmps21
 go_wp2_with (first | (go_at_call 69; (with_reducible refine at_args #[.int .u16 a] ?_); (with_reducible refine (VA.out _).mono ?_); rintro e wc ⟨rfl, ⟨nd, rfl⟩⟩) | (go_at_call 69; (with_reducible refine at_args #[.int .u16 b] ?_); (with_reducible refine (VB.out _).mono ?_); rintro e wc ⟨rfl, ⟨nd, rfl⟩⟩) | (go_at_call 70; (with_reducible refine at_args #[.int .u16 (m / 16384)] ?_); (with_reducible refine (NA.out _).mono ?_); rintro e wc ⟨rfl, ⟨nd, rfl⟩⟩) | (go_at_call 70; (with_reducible refine at_args #[.int .u16 (m % 16384)] ?_); (with_reducible refine (NB.out _).mono ?_); rintro e wc ⟨rfl, ⟨nd, rfl⟩⟩))
 go_ret2
 exact ⟨rfl, by repeat (first | exact Drawn0.refl _ | apply Drawn0.step)⟩
theorem mul_10 (a b : Int) (a0 : 0 ≤ a) (a1 : a < 65536) (b0 : 0 ≤ b) (b1 : b < 65536) (hm :  valI a * valI b < 0) (hd : (negB a != negB b) = false) (w : World) : Calls Tryz.prog 21 #[.int .u16 a, .int .u16 b] w fun e w' => e = .returned (.tuple #[.int .u16 (mulH a b), .int .u16 (mulL a b)]) ∧ Drawn0 w w' := by
 have hx := xor_14 a0 a1 b0 b1
 rw [hd] at hx
 have hb := mul_b a b
 have e1 : mulH a b = (-(valI a * valI b)) / 16384 := by unfold mulH absI; rw [if_pos (by simpa using hd)]; rw [if_pos hm]
 have e2 : mulL a b = (-(valI a * valI b)) % 16384 := by unfold mulL absI; rw [if_pos (by simpa using hd)]; rw [if_pos hm]
 rw [e1, e2]
 have VA := Lib.hid (value_c a a0 a1)
 have VB := Lib.hid (value_c b b0 b1)
 have NA := Lib.hid (fun w => neg_c ((-(valI a * valI b)) / 16384) (by omega) (by omega) w)
 have NB := Lib.hid (fun w => neg_c ((-(valI a * valI b)) % 16384) (by omega) (by omega) w)
 clear e1 e2 hd
 obtain ⟨m, hme⟩ : ∃ m, valI a * valI b = m := ⟨_, rfl⟩
 have hw : wrap64 (valI a * valI b) = m := by rw [hme] at hb ⊢; unfold wrap64; omega
 rw [hme] at hb hm NA NB ⊢
 have y0 : decide (m < 0) = true := by simpa using hm
 have w2 : wrap64 (-m) = -m := by unfold wrap64; omega
 have f1 : IntKind.u16.wrap ((-m) / 16384) = (-m) / 16384 := u16w (by omega) (by omega)
 have f2 : Go.bits .and .i64 ((-m)) 16383 = (-m) % 16384 := and_low 14 (by decide) (by omega) (by omega)
 have f3 : IntKind.u16.wrap ((-m) % 16384) = (-m) % 16384 := u16w (by omega) (by omega)
 have HD := Aside0.mk (Drawn0.refl w)
 clear hm hb hme
 go_enter Tryz.func21, Tryz.ntmps21
 go_wp2_with (first | (go_at_call 69; (with_reducible refine at_args #[.int .u16 a] ?_); (with_reducible refine (VA.out _).mono ?_); rintro e wc ⟨rfl, ⟨nd, rfl⟩⟩) | (go_at_call 69; (with_reducible refine at_args #[.int .u16 b] ?_); (with_reducible refine (VB.out _).mono ?_); rintro e wc ⟨rfl, ⟨nd, rfl⟩⟩) | (go_at_call 70; (with_reducible refine at_args #[.int .u16 ((-m) / 16384)] ?_); (with_reducible refine (NA.out _).mono ?_); rintro e wc ⟨rfl, ⟨nd, rfl⟩⟩) | (go_at_call 70; (with_reducible refine at_args #[.int .u16 ((-m) % 16384)] ?_); (with_reducible refine (NB.out _).mono ?_); rintro e wc ⟨rfl, ⟨nd, rfl⟩⟩))
 go_ret2
 exact ⟨rfl, by repeat (first | exact Drawn0.refl _ | apply Drawn0.step)⟩
theorem mul_11 (a b : Int) (a0 : 0 ≤ a) (a1 : a < 65536) (b0 : 0 ≤ b) (b1 : b < 65536) (hm :  valI a * valI b < 0) (hd : (negB a != negB b) = true) (w : World) : Calls Tryz.prog 21 #[.int .u16 a, .int .u16 b] w fun e w' => e = .returned (.tuple #[.int .u16 (mulH a b), .int .u16 (mulL a b)]) ∧ Drawn0 w w' := by
 have hx := xor_14 a0 a1 b0 b1
 rw [hd] at hx
 have hb := mul_b a b
 have e1 : mulH a b = negI ((-(valI a * valI b)) / 16384) := by unfold mulH absI; rw [if_neg (by simpa using hd)]; rw [if_pos hm]
 have e2 : mulL a b = negI ((-(valI a * valI b)) % 16384) := by unfold mulL absI; rw [if_neg (by simpa using hd)]; rw [if_pos hm]
 rw [e1, e2]
 have VA := Lib.hid (value_c a a0 a1)
 have VB := Lib.hid (value_c b b0 b1)
 have NA := Lib.hid (fun w => neg_c ((-(valI a * valI b)) / 16384) (by omega) (by omega) w)
 have NB := Lib.hid (fun w => neg_c ((-(valI a * valI b)) % 16384) (by omega) (by omega) w)
 clear e1 e2 hd
 obtain ⟨m, hme⟩ : ∃ m, valI a * valI b = m := ⟨_, rfl⟩
 have hw : wrap64 (valI a * valI b) = m := by rw [hme] at hb ⊢; unfold wrap64; omega
 rw [hme] at hb hm NA NB ⊢
 have y0 : decide (m < 0) = true := by simpa using hm
 have w2 : wrap64 (-m) = -m := by unfold wrap64; omega
 have f1 : IntKind.u16.wrap ((-m) / 16384) = (-m) / 16384 := u16w (by omega) (by omega)
 have f2 : Go.bits .and .i64 ((-m)) 16383 = (-m) % 16384 := and_low 14 (by decide) (by omega) (by omega)
 have f3 : IntKind.u16.wrap ((-m) % 16384) = (-m) % 16384 := u16w (by omega) (by omega)
 have HD := Aside0.mk (Drawn0.refl w)
 clear hm hb hme
 go_enter Tryz.func21, Tryz.ntmps21
 go_wp2_with (first | (go_at_call 69; (with_reducible refine at_args #[.int .u16 a] ?_); (with_reducible refine (VA.out _).mono ?_); rintro e wc ⟨rfl, ⟨nd, rfl⟩⟩) | (go_at_call 69; (with_reducible refine at_args #[.int .u16 b] ?_); (with_reducible refine (VB.out _).mono ?_); rintro e wc ⟨rfl, ⟨nd, rfl⟩⟩) | (go_at_call 70; (with_reducible refine at_args #[.int .u16 ((-m) / 16384)] ?_); (with_reducible refine (NA.out _).mono ?_); rintro e wc ⟨rfl, ⟨nd, rfl⟩⟩) | (go_at_call 70; (with_reducible refine at_args #[.int .u16 ((-m) % 16384)] ?_); (with_reducible refine (NB.out _).mono ?_); rintro e wc ⟨rfl, ⟨nd, rfl⟩⟩))
 go_ret2
 exact ⟨rfl, by repeat (first | exact Drawn0.refl _ | apply Drawn0.step)⟩
theorem mult_c (a b : Int) (a0 : 0 ≤ a) (a1 : a < 65536) (b0 : 0 ≤ b) (b1 : b < 65536) (w : World) : Calls Tryz.prog 21 #[.int .u16 a, .int .u16 b] w fun e w' => e = .returned (.tuple #[.int .u16 (mulH a b), .int .u16 (mulL a b)]) ∧ Drawn0 w w' := by
 cases hd : (negB a != negB b) <;> by_cases hm : valI a * valI b < 0
 · exact mul_10 a b a0 a1 b0 b1 hm hd w
 · exact mul_00 a b a0 a1 b0 b1 hm hd w
 · exact mul_11 a b a0 a1 b0 b1 hm hd w
 · exact mul_01 a b a0 a1 b0 b1 hm hd w
end
end Go.Proofs.YtgbmaajfbbilhaaGreat.Cpu
end
section
namespace Go.Proofs.YtgbmaajfbbilhaaGreat.Cpu
open Go.RowKit Go.Proofs.YtgbmaajfbbilhaaGreat.PAll Go.Proofs.YtgbmaajfbbilhaaGreat.One Go.Proofs.YtgbmaajfbbilhaaGreat.Mem Go.Proofs.YtgbmaajfbbilhaaGreat.Row Go.Proofs.YtgbmaajfbbilhaaGreatW.PrintWords Go.Proofs.YtgbmaajfbbilhaaGreatW.PrintLast Go.Proofs.YtgbmaajfbbilhaaGreatW.PrintMore Go.Proofs.YtgbmaajfbbilhaaGreat.Plain
section
variable {c : Cx} {n : Nat} {st : St} {w : World}
theorem cls0_b {a : Int} (h : clsI a = 0) (a0 : 0 ≤ a) : 1 ≤ a ∧ a ≤ 32767 := by
 unfold clsI at h
 repeat' split at h
 all_goals omega
theorem cls2_b {a : Int} (h : clsI a = 2) (a1 : a < 65536) : 32768 ≤ a ∧ a ≤ 65534 := by
 unfold clsI at h
 repeat' split at h
 all_goals omega
theorem mulH_b (a b : Int) : 0 ≤ mulH a b ∧ mulH a b < 65536 := by
 have := mul_b a b
 have hn := neg_b (absI (valI a * valI b) / 16384)
 unfold mulH
 unfold absI at *
 generalize valI a * valI b = m at *
 split
 · split <;> omega
 · omega
theorem mp_c (h : c.P n st w) (ok : st.r.Ok) (h0 : 0 ≤ st.sp.f1) (hn : n ≤ 80) : Calls Tryz.prog 136 #[.pointer (some ⟨c.p, 0, none⟩)] w fun e w' => e = .returned (.tuple #[]) ∧ c.P (n + 1) (xMp st c.v) w' := by
 have HR := Aside0.mk h
 clear h
 have hu0 := Tryz.underlying124
 have hu1 := Tryz.underlying26
 have hu2 := Tryz.underlying34
 have hu3 := Tryz.underlying103
 have hu4 := Tryz.underlying29
 go_enter Tryz.func136, Tryz.ntmps136
 go_wp2_with (first | (go_at_call 133; (with_reducible refine at_args #[.pointer (some ⟨c.p, 0, none⟩)] ?_); (with_reducible refine (a_c HR.out ok).mono ?_); rintro e wc ⟨rfl, hR⟩; replace HR := Aside0.mk hR; clear hR) | (go_at_call 122; (with_reducible refine at_args #[.pointer (some ⟨c.p, 0, none⟩)] ?_); (with_reducible refine (word_c HR.out ok h0 (by omega)).mono ?_); rintro e wc ⟨rfl, hR⟩; replace HR := Aside0.mk hR; clear hR) | (go_at_call 21; (with_reducible refine at_args #[.int .u16 (corI st.r.a), .int .u16 (rdW st c.v)] ?_); (with_reducible refine (mult_c _ _ (cor_b ok.a0 ok.a1).1 (by have := (cor_b ok.a0 ok.a1).2; omega) (rdW_b ok c.v).1 (rdW_b ok c.v).2 _).mono ?_); rintro e wc ⟨rfl, hd⟩; replace HR := Aside0.mk (HR.out.drawn hd); clear hd) | (go_at_call 132; (with_reducible refine at_args #[.pointer (some ⟨c.p, 0, none⟩), .int .u16 (mulH (corI st.r.a) (rdW st c.v))] ?_); (with_reducible refine (set_c HR.out (mulH (corI st.r.a) (rdW st c.v)) (mulH_b _ _).1 (mulH_b _ _).2).mono ?_); rintro e wc ⟨rfl, hR⟩; replace HR := Aside0.mk hR; clear hR) | (refine HR.out.e1 rfl _ _ _ rfl rfl _ rfl ?hi ?_; (case hi => kernel_rfl); intro wc hR; replace HR := Aside0.mk hR; clear hR))
 first | (go_end0; exact ⟨rfl, HR.out⟩) | ((try simp only [Exit.inBlock, Exit.then]); refine bodyPost_ret (results_none rfl _ _ _) rfl ⟨rfl, HR.out⟩) | (go_ret; exact ⟨rfl, HR.out⟩)
theorem dca_d (h : c.P n st w) (ok : st.r.Ok) (h0 : 0 ≤ st.sp.f1) (h9 : st.sp.f1 < 40000) (hn : n ≤ 80) : Calls Tryz.prog 154 #[.pointer (some ⟨c.p, 0, none⟩), .int .u16 0, .int .u16 0] w fun e w' => e = .returned (.tuple #[]) ∧ c.P (n + 1 + 1) (xDca st c.v) w' := by
 have HR := Aside0.mk h
 clear h
 have BY := Aside0.mk (look_b ok c.v (nextSp st.sp))
 have e1 : Go.bits .xor .u16 (rdA st c.v) 0 = rdA st c.v := xor_zero (rdA_b ok c.v).1 (rdA_b ok c.v).2
 have e2 : Go.bits .xor .u16 (corI ((lookN st.r c.v (nextSp st.sp)).1)) 0 = corI ((lookN st.r c.v (nextSp st.sp)).1) := xor_zero (cor_b BY.out.1 BY.out.2).1 (by have := (cor_b BY.out.1 BY.out.2).2; omega)
 have hu0 := Tryz.underlying124
 have hu1 := Tryz.underlying26
 have hu2 := Tryz.underlying34
 have hu3 := Tryz.underlying103
 have hu4 := Tryz.underlying29
 go_enter Tryz.func154, Tryz.ntmps154
 go_wp2_with (first | (go_at_call 215; (with_reducible refine at_args #[.pointer (some ⟨c.p, 0, none⟩)] ?_); (with_reducible refine (next_c HR.out h0 h9).mono ?_); rintro e wc ⟨rfl, hR⟩; replace HR := Aside0.mk hR; clear hR) | (go_at_call 214; (with_reducible refine at_args #[.pointer (some ⟨c.p, 0, none⟩), .agg #[.int .u8 (nextSp st.sp).f0, .int .i64 (nextSp st.sp).f1]] ?_); (with_reducible refine (at_c HR.out ok (nextSp st.sp) (nextSp_b _ h0) (by omega)).mono ?_); rintro e wc ⟨rfl, hR⟩; replace HR := Aside0.mk hR; clear hR) | (go_at_call 93; (with_reducible refine at_args #[.int .u16 ((lookN st.r c.v (nextSp st.sp)).1)] ?_); (with_reducible refine (cor_c _ BY.out.1 (by have := BY.out.2; omega) _).mono ?_); rintro e wc ⟨rfl, hd⟩; replace HR := Aside0.mk (HR.out.drawn hd); clear hd) | (go_at_call 118; (with_reducible refine at_args #[.pointer (some ⟨c.p, 0, none⟩)] ?_); (with_reducible refine (read_c HR.out ok h0 (by omega)).mono ?_); rintro e wc ⟨rfl, hR⟩; replace HR := Aside0.mk hR; clear hR) | (refine HR.out.e0 rfl _ _ _ rfl rfl _ rfl ?hi ?_; (case hi => kernel_rfl); intro wc hR; replace HR := Aside0.mk hR; clear hR) | (refine HR.out.e1 rfl _ _ _ rfl rfl _ rfl ?hi ?_; (case hi => kernel_rfl); intro wc hR; replace HR := Aside0.mk hR; clear hR))
 first | (go_end0; exact ⟨rfl, HR.out⟩) | ((try simp only [Exit.inBlock, Exit.then]); refine bodyPost_ret (results_none rfl _ _ _) rfl ⟨rfl, HR.out⟩) | (go_ret; exact ⟨rfl, HR.out⟩)
theorem dca_c (h : c.P n st w) (ok : st.r.Ok) (h0 : 0 ≤ st.sp.f1) (h9 : st.sp.f1 < 40000) (hn : n ≤ 80) : Calls Tryz.prog 153 #[.pointer (some ⟨c.g, 0, none⟩)] w fun e w' => e = .returned (.tuple #[]) ∧ c.P (n + 1 + 1) (xDca st c.v) w' := by
 have HR := Aside0.mk h
 clear h
 have xb := HR.out.bx
 have hu0 := Tryz.underlying124
 have hu1 := Tryz.underlying26
 have hu2 := Tryz.underlying34
 have hu3 := Tryz.underlying103
 have hu4 := Tryz.underlying29
 go_enter Tryz.func153, Tryz.ntmps153
 go_wp2_with (first | (go_at_call 154; (with_reducible refine at_args #[.pointer (some ⟨c.p, 0, none⟩), .int .u16 0, .int .u16 0] ?_); (with_reducible refine (dca_d HR.out ok h0 h9 hn).mono ?_); rintro e wc ⟨rfl, hR⟩; replace HR := Aside0.mk hR; clear hR))
 first | (go_end0; exact ⟨rfl, HR.out⟩) | ((try simp only [Exit.inBlock, Exit.then]); refine bodyPost_ret (results_none rfl _ _ _) rfl ⟨rfl, HR.out⟩) | (go_ret; exact ⟨rfl, HR.out⟩)
theorem dcs_d (h : c.P n st w) (ok : st.r.Ok) (h0 : 0 ≤ st.sp.f1) (h9 : st.sp.f1 < 40000) (hn : n ≤ 80) : Calls Tryz.prog 154 #[.pointer (some ⟨c.p, 0, none⟩), .int .u16 65535, .int .u16 32767] w fun e w' => e = .returned (.tuple #[]) ∧ c.P (n + 1 + 1) (xDcs st c.v) w' := by
 have HR := Aside0.mk h
 clear h
 have BY := Aside0.mk (look_b ok c.v (nextSp st.sp))
 have e1 : Go.bits .xor .u16 (rdA st c.v) 65535 = negAccI (rdA st c.v) := xor_ff (rdA_b ok c.v).1 (rdA_b ok c.v).2
 have e2 : Go.bits .xor .u16 (corI ((lookN st.r c.v (nextSp st.sp)).1)) 32767 = negI (corI ((lookN st.r c.v (nextSp st.sp)).1)) := xor_7f (cor_b BY.out.1 BY.out.2).1 (cor_b BY.out.1 BY.out.2).2
 have hu0 := Tryz.underlying124
 have hu1 := Tryz.underlying26
 have hu2 := Tryz.underlying34
 have hu3 := Tryz.underlying103
 have hu4 := Tryz.underlying29
 go_enter Tryz.func154, Tryz.ntmps154
 go_wp2_with (first | (go_at_call 215; (with_reducible refine at_args #[.pointer (some ⟨c.p, 0, none⟩)] ?_); (with_reducible refine (next_c HR.out h0 h9).mono ?_); rintro e wc ⟨rfl, hR⟩; replace HR := Aside0.mk hR; clear hR) | (go_at_call 214; (with_reducible refine at_args #[.pointer (some ⟨c.p, 0, none⟩), .agg #[.int .u8 (nextSp st.sp).f0, .int .i64 (nextSp st.sp).f1]] ?_); (with_reducible refine (at_c HR.out ok (nextSp st.sp) (nextSp_b _ h0) (by omega)).mono ?_); rintro e wc ⟨rfl, hR⟩; replace HR := Aside0.mk hR; clear hR) | (go_at_call 93; (with_reducible refine at_args #[.int .u16 ((lookN st.r c.v (nextSp st.sp)).1)] ?_); (with_reducible refine (cor_c _ BY.out.1 (by have := BY.out.2; omega) _).mono ?_); rintro e wc ⟨rfl, hd⟩; replace HR := Aside0.mk (HR.out.drawn hd); clear hd) | (go_at_call 118; (with_reducible refine at_args #[.pointer (some ⟨c.p, 0, none⟩)] ?_); (with_reducible refine (read_c HR.out ok h0 (by omega)).mono ?_); rintro e wc ⟨rfl, hR⟩; replace HR := Aside0.mk hR; clear hR) | (refine HR.out.e0 rfl _ _ _ rfl rfl _ rfl ?hi ?_; (case hi => kernel_rfl); intro wc hR; replace HR := Aside0.mk hR; clear hR) | (refine HR.out.e1 rfl _ _ _ rfl rfl _ rfl ?hi ?_; (case hi => kernel_rfl); intro wc hR; replace HR := Aside0.mk hR; clear hR))
 first | (go_end0; exact ⟨rfl, HR.out⟩) | ((try simp only [Exit.inBlock, Exit.then]); refine bodyPost_ret (results_none rfl _ _ _) rfl ⟨rfl, HR.out⟩) | (go_ret; exact ⟨rfl, HR.out⟩)
theorem dcs_c (h : c.P n st w) (ok : st.r.Ok) (h0 : 0 ≤ st.sp.f1) (h9 : st.sp.f1 < 40000) (hn : n ≤ 80) : Calls Tryz.prog 155 #[.pointer (some ⟨c.g, 0, none⟩)] w fun e w' => e = .returned (.tuple #[]) ∧ c.P (n + 1 + 1) (xDcs st c.v) w' := by
 have HR := Aside0.mk h
 clear h
 have xb := HR.out.bx
 have hu0 := Tryz.underlying124
 have hu1 := Tryz.underlying26
 have hu2 := Tryz.underlying34
 have hu3 := Tryz.underlying103
 have hu4 := Tryz.underlying29
 go_enter Tryz.func155, Tryz.ntmps155
 go_wp2_with (first | (go_at_call 154; (with_reducible refine at_args #[.pointer (some ⟨c.p, 0, none⟩), .int .u16 65535, .int .u16 32767] ?_); (with_reducible refine (dcs_d HR.out ok h0 h9 hn).mono ?_); rintro e wc ⟨rfl, hR⟩; replace HR := Aside0.mk hR; clear hR))
 first | (go_end0; exact ⟨rfl, HR.out⟩) | ((try simp only [Exit.inBlock, Exit.then]); refine bodyPost_ret (results_none rfl _ _ _) rfl ⟨rfl, HR.out⟩) | (go_ret; exact ⟨rfl, HR.out⟩)
theorem dim_0 (h : c.P n st w) (ok : st.r.Ok) (h0 : 0 ≤ st.sp.f1) (hn : n ≤ 80) (hk : clsI (rdA st c.v) = 0) : Calls Tryz.prog 152 #[.pointer (some ⟨c.p, 0, none⟩)] w fun e w' => e = .returned (.tuple #[]) ∧ c.P (n + 1 + 1) (xDim st c.v) w' := by
 have HR := Aside0.mk h
 clear h
 have x23 := HR.out.c23
 have ra := rdA_b ok c.v
 have BV : Aside0 (0 ≤ rdA st c.v - 1 ∧ rdA st c.v - 1 ≤ 65535) := ⟨by have := cls0_b hk (rdA_b ok c.v).1; omega⟩
 have y0 : (clsI (rdA st c.v) == 0) = true := by rw [hk]; rfl
 have y1 : (clsI (rdA st c.v) == 2) = false := by rw [hk]; rfl
 have e1 : IntKind.u16.wrap (rdA st c.v - 1) = rdA st c.v - 1 := u16w BV.out.1 (by have := BV.out.2; omega)
 have HK := Aside0.mk hk
 clear hk ra
 have hu0 := Tryz.underlying124
 have hu1 := Tryz.underlying26
 have hu2 := Tryz.underlying34
 have hu3 := Tryz.underlying103
 have hu4 := Tryz.underlying29
 go_enter Tryz.func152, Tryz.ntmps152
 go_wp2_with (first | (go_at_call 118; (with_reducible refine at_args #[.pointer (some ⟨c.p, 0, none⟩)] ?_); (with_reducible refine (read_c HR.out ok h0 (by omega)).mono ?_); rintro e wc ⟨rfl, hR⟩; replace HR := Aside0.mk hR; clear hR; (try replace x23 : wc.cell? ⟨c.p, 23, none⟩ = some (.int .i64 st.sp.f1) := by first | exact HR.out.c23 | (have := HR.out.c23; simpa only [put_sp] using this))) | (go_at_call 213; (with_reducible refine at_args #[.int .u16 (rdA st c.v)] ?_); (with_reducible refine (cls_c _ (rdA_b ok c.v).1 (rdA_b ok c.v).2 _).mono ?_); rintro e wc ⟨rfl, hd⟩; replace HR := Aside0.mk (HR.out.drawn hd); clear hd; (try replace x23 : wc.cell? ⟨c.p, 23, none⟩ = some (.int .i64 st.sp.f1) := by first | exact HR.out.c23 | (have := HR.out.c23; simpa only [put_sp] using this))) | (go_at_call 217; (with_reducible refine at_args #[.pointer (some ⟨c.p, 0, none⟩), .int .i64 st.sp.f1, .int .u16 (rdA st c.v - 1)] ?_); (with_reducible refine (store_c HR.out _ (rdA st c.v - 1) h0 BV.out.1 BV.out.2 (by omega)).mono ?_); rintro e wc ⟨rfl, hR⟩; replace HR := Aside0.mk hR; clear hR))
 first | go_end0 | ((try simp only [Exit.inBlock, Exit.then]); refine bodyPost_ret (results_none rfl _ _ _) rfl ?_)
 refine ⟨rfl, ?_⟩
 unfold xDim
 rw [if_pos HK.out]
 exact HR.out
theorem dim_2 (h : c.P n st w) (ok : st.r.Ok) (h0 : 0 ≤ st.sp.f1) (hn : n ≤ 80) (hk : clsI (rdA st c.v) = 2) : Calls Tryz.prog 152 #[.pointer (some ⟨c.p, 0, none⟩)] w fun e w' => e = .returned (.tuple #[]) ∧ c.P (n + 1 + 1) (xDim st c.v) w' := by
 have HR := Aside0.mk h
 clear h
 have x23 := HR.out.c23
 have ra := rdA_b ok c.v
 have BV : Aside0 (0 ≤ rdA st c.v + 1 ∧ rdA st c.v + 1 ≤ 65535) := ⟨by have := cls2_b hk (rdA_b ok c.v).2; omega⟩
 have y0 : (clsI (rdA st c.v) == 0) = false := by rw [hk]; rfl
 have y1 : (clsI (rdA st c.v) == 2) = true := by rw [hk]; rfl
 have e1 : IntKind.u16.wrap (rdA st c.v + 1) = rdA st c.v + 1 := u16w BV.out.1 (by have := BV.out.2; omega)
 have HK := Aside0.mk hk
 clear hk ra
 have hu0 := Tryz.underlying124
 have hu1 := Tryz.underlying26
 have hu2 := Tryz.underlying34
 have hu3 := Tryz.underlying103
 have hu4 := Tryz.underlying29
 go_enter Tryz.func152, Tryz.ntmps152
 go_wp2_with (first | (go_at_call 118; (with_reducible refine at_args #[.pointer (some ⟨c.p, 0, none⟩)] ?_); (with_reducible refine (read_c HR.out ok h0 (by omega)).mono ?_); rintro e wc ⟨rfl, hR⟩; replace HR := Aside0.mk hR; clear hR; (try replace x23 : wc.cell? ⟨c.p, 23, none⟩ = some (.int .i64 st.sp.f1) := by first | exact HR.out.c23 | (have := HR.out.c23; simpa only [put_sp] using this))) | (go_at_call 213; (with_reducible refine at_args #[.int .u16 (rdA st c.v)] ?_); (with_reducible refine (cls_c _ (rdA_b ok c.v).1 (rdA_b ok c.v).2 _).mono ?_); rintro e wc ⟨rfl, hd⟩; replace HR := Aside0.mk (HR.out.drawn hd); clear hd; (try replace x23 : wc.cell? ⟨c.p, 23, none⟩ = some (.int .i64 st.sp.f1) := by first | exact HR.out.c23 | (have := HR.out.c23; simpa only [put_sp] using this))) | (go_at_call 217; (with_reducible refine at_args #[.pointer (some ⟨c.p, 0, none⟩), .int .i64 st.sp.f1, .int .u16 (rdA st c.v + 1)] ?_); (with_reducible refine (store_c HR.out _ (rdA st c.v + 1) h0 BV.out.1 BV.out.2 (by omega)).mono ?_); rintro e wc ⟨rfl, hR⟩; replace HR := Aside0.mk hR; clear hR))
 first | go_end0 | ((try simp only [Exit.inBlock, Exit.then]); refine bodyPost_ret (results_none rfl _ _ _) rfl ?_)
 refine ⟨rfl, ?_⟩
 unfold xDim
 rw [if_neg (by rw [HK.out]; decide), if_pos HK.out]
 exact HR.out
theorem dim_n (h : c.P n st w) (ok : st.r.Ok) (h0 : 0 ≤ st.sp.f1) (hn : n ≤ 80) (hk : clsI (rdA st c.v) ≠ 0) (hk2 : clsI (rdA st c.v) ≠ 2) : Calls Tryz.prog 152 #[.pointer (some ⟨c.p, 0, none⟩)] w fun e w' => e = .returned (.tuple #[]) ∧ c.P (n + 1 + 1) (xDim st c.v) w' := by
 have HR := Aside0.mk h
 clear h
 have x23 := HR.out.c23
 have ra := rdA_b ok c.v
 have BV : Aside0 (0 ≤ rdA st c.v ∧ rdA st c.v ≤ 65535) := ⟨by omega⟩
 have y0 : (clsI (rdA st c.v) == 0) = false := by simpa using hk
 have y1 : (clsI (rdA st c.v) == 2) = false := by simpa using hk2
 have HK := Aside0.mk hk
 have HK2 := Aside0.mk hk2
 clear hk ra hk2
 have hu0 := Tryz.underlying124
 have hu1 := Tryz.underlying26
 have hu2 := Tryz.underlying34
 have hu3 := Tryz.underlying103
 have hu4 := Tryz.underlying29
 go_enter Tryz.func152, Tryz.ntmps152
 go_wp2_with (first | (go_at_call 118; (with_reducible refine at_args #[.pointer (some ⟨c.p, 0, none⟩)] ?_); (with_reducible refine (read_c HR.out ok h0 (by omega)).mono ?_); rintro e wc ⟨rfl, hR⟩; replace HR := Aside0.mk hR; clear hR; (try replace x23 : wc.cell? ⟨c.p, 23, none⟩ = some (.int .i64 st.sp.f1) := by first | exact HR.out.c23 | (have := HR.out.c23; simpa only [put_sp] using this))) | (go_at_call 213; (with_reducible refine at_args #[.int .u16 (rdA st c.v)] ?_); (with_reducible refine (cls_c _ (rdA_b ok c.v).1 (rdA_b ok c.v).2 _).mono ?_); rintro e wc ⟨rfl, hd⟩; replace HR := Aside0.mk (HR.out.drawn hd); clear hd; (try replace x23 : wc.cell? ⟨c.p, 23, none⟩ = some (.int .i64 st.sp.f1) := by first | exact HR.out.c23 | (have := HR.out.c23; simpa only [put_sp] using this))) | (go_at_call 217; (with_reducible refine at_args #[.pointer (some ⟨c.p, 0, none⟩), .int .i64 st.sp.f1, .int .u16 (rdA st c.v)] ?_); (with_reducible refine (store_c HR.out _ (rdA st c.v) h0 BV.out.1 BV.out.2 (by omega)).mono ?_); rintro e wc ⟨rfl, hR⟩; replace HR := Aside0.mk hR; clear hR))
 first | go_end0 | ((try simp only [Exit.inBlock, Exit.then]); refine bodyPost_ret (results_none rfl _ _ _) rfl ?_)
 refine ⟨rfl, ?_⟩
 unfold xDim
 rw [if_neg HK.out, if_neg HK2.out]
 exact HR.out
theorem dim_i (h : c.P n st w) (ok : st.r.Ok) (h0 : 0 ≤ st.sp.f1) (hn : n ≤ 80) : Calls Tryz.prog 152 #[.pointer (some ⟨c.p, 0, none⟩)] w fun e w' => e = .returned (.tuple #[]) ∧ c.P (n + 1 + 1) (xDim st c.v) w' := by
 by_cases a : clsI (rdA st c.v) = 0
 · exact dim_0 h ok h0 hn a
 · by_cases b : clsI (rdA st c.v) = 2
   · exact dim_2 h ok h0 hn b
   · exact dim_n h ok h0 hn a b
end
end Go.Proofs.YtgbmaajfbbilhaaGreat.Cpu
end
