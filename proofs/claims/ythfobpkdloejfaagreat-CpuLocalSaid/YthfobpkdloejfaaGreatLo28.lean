/- Chapter 5: a part of its proof (cut by program out of CpuJ); no condition. -/
import Derived.BigQuiet
import Derived.Deep.QuietTactic
import Derived.Test.YthfobpkdloejfaaGreatLo11
import Derived.Test.YthfobpkdloejfaaGreatLo27
set_option linter.unusedVariables false
set_option linter.unusedSimpArgs false
set_option linter.unusedSectionVars false
set_option maxRecDepth 100000
set_option maxHeartbeats 8000000
section
namespace Go.Proofs.YthfobpkdloejfaaGreat.Cpu
open Go.RowKit Go.Proofs.YthfobpkdloejfaaGreat.PAll Go.Proofs.YthfobpkdloejfaaGreat.One Go.Proofs.YthfobpkdloejfaaGreat.Mem Go.Proofs.YthfobpkdloejfaaGreat.Row Go.Proofs.YthfobpkdloejfaaGreatW.PrintWords Go.Proofs.YthfobpkdloejfaaGreatW.PrintLast Go.Proofs.YthfobpkdloejfaaGreatW.PrintMore Go.Proofs.YthfobpkdloejfaaGreat.Plain
section
variable {c : Cx} {n : Nat} {st : St} {w : World}
theorem put_sp (st : St) (i x : Int) : (st.put i x).sp = st.sp := by unfold St.put; split <;> rfl
theorem fldSp (a b : Int) (W : World) : (Instr.field 64 (.agg #[.int .u8 a, .int .i64 b]) 1).run Tryz.prog W = .ok (.int .i64 b) W := by kernel_rfl
theorem nextSp_b (x : Sp) (h : 0 ≤ x.f1) : 0 ≤ (nextSp x).f1 := by unfold nextSp; simp only []; split <;> omega
theorem das_0 (h : c.P n st w) (ok : st.r.Ok) (h0 : 0 ≤ st.sp.f1) (h9 : st.sp.f1 < 40000) (hn : n ≤ 80) (hf : st.sp.f1 = 0) : Calls Tryz.prog 90 #[.pointer (some ⟨c.p, 0, none⟩)] w fun e w' => e = .returned (.tuple #[]) ∧ c.P (n + 1 + 1) (xDas st c.v) w' := by
 have HR := Aside0.mk h
 clear h
 have x0 := HR.out.c0
 have x1 := HR.out.c1
 have x23 := HR.out.c23
 have hfd := fldSp
 have BY := Aside0.mk (look_b ok c.v (nextSp st.sp))
 have BA := Aside0.mk (look_b ok c.v st.sp)
 have BT := Aside0.mk (addAcc_b BY.out.1 BY.out.2 (ext_b st.r.l).1 (ext_b st.r.l).2)
 have BV := Aside0.mk (addAcc_b (a := rdA st c.v) (b := st.r.a) BA.out.1 BA.out.2 ok.a0 ok.a1)
 have BU := Aside0.mk (addAcc_b BV.out.1 BV.out.2 (unit_b (addAccI ((lookN st.r c.v (nextSp st.sp)).1) (extI st.r.l))).1 (unit_b (addAccI ((lookN st.r c.v (nextSp st.sp)).1) (extI st.r.l))).2)
 have y0 : (st.sp.f1 == 0) = true := by simpa using hf
 have HF := Aside0.mk hf
 clear hf
 have hu0 := Tryz.underlying97
 have hu1 := Tryz.underlying26
 have hu2 := Tryz.underlying48
 have hu3 := Tryz.underlying64
 have hu4 := Tryz.underlying29
 go_enter Tryz.func90, Tryz.ntmps90
 go_wp2_with (first | (go_at_call 170; (with_reducible refine at_args #[.pointer (some ⟨c.p, 0, none⟩)] ?_); (with_reducible refine (next_c HR.out h0 h9).mono ?_); rintro e wc ⟨rfl, hR⟩; replace HR := Aside0.mk hR; clear hR; (try replace x0 : wc.cell? ⟨c.p, 0, none⟩ = some (.int .u16 st.r.a) := by first | exact HR.out.c0 | (have := HR.out.c0; simpa only [put_sp] using this)); (try replace x1 : wc.cell? ⟨c.p, 1, none⟩ = some (.int .u16 st.r.l) := by first | exact HR.out.c1 | (have := HR.out.c1; simpa only [put_sp] using this)); (try replace x23 : wc.cell? ⟨c.p, 23, none⟩ = some (.int .i64 st.sp.f1) := by first | exact HR.out.c23 | (have := HR.out.c23; simpa only [put_sp] using this))) | (go_at_call 169; (with_reducible refine at_args #[.pointer (some ⟨c.p, 0, none⟩), .agg #[.int .u8 (nextSp st.sp).f0, .int .i64 (nextSp st.sp).f1]] ?_); (with_reducible refine (at_c HR.out ok (nextSp st.sp) (nextSp_b _ h0) (by omega)).mono ?_); rintro e wc ⟨rfl, hR⟩; replace HR := Aside0.mk hR; clear hR; (try replace x0 : wc.cell? ⟨c.p, 0, none⟩ = some (.int .u16 st.r.a) := by first | exact HR.out.c0 | (have := HR.out.c0; simpa only [put_sp] using this)); (try replace x1 : wc.cell? ⟨c.p, 1, none⟩ = some (.int .u16 st.r.l) := by first | exact HR.out.c1 | (have := HR.out.c1; simpa only [put_sp] using this)); (try replace x23 : wc.cell? ⟨c.p, 23, none⟩ = some (.int .i64 st.sp.f1) := by first | exact HR.out.c23 | (have := HR.out.c23; simpa only [put_sp] using this))) | (go_at_call 97; (with_reducible refine at_args #[.pointer (some ⟨c.p, 0, none⟩)] ?_); (with_reducible refine (read_c HR.out ok h0 (by omega)).mono ?_); rintro e wc ⟨rfl, hR⟩; replace HR := Aside0.mk hR; clear hR; (try replace x0 : wc.cell? ⟨c.p, 0, none⟩ = some (.int .u16 st.r.a) := by first | exact HR.out.c0 | (have := HR.out.c0; simpa only [put_sp] using this)); (try replace x1 : wc.cell? ⟨c.p, 1, none⟩ = some (.int .u16 st.r.l) := by first | exact HR.out.c1 | (have := HR.out.c1; simpa only [put_sp] using this)); (try replace x23 : wc.cell? ⟨c.p, 23, none⟩ = some (.int .i64 st.sp.f1) := by first | exact HR.out.c23 | (have := HR.out.c23; simpa only [put_sp] using this))) | (go_at_call 33; (with_reducible refine at_args #[.int .u16 st.r.l] ?_); (with_reducible refine (ext_c _ ok.l0 (by have := ok.l1; omega) _).mono ?_); rintro e wc ⟨rfl, hd⟩; replace HR := Aside0.mk (HR.out.drawn hd); clear hd; (try replace x0 : wc.cell? ⟨c.p, 0, none⟩ = some (.int .u16 st.r.a) := by first | exact HR.out.c0 | (have := HR.out.c0; simpa only [put_sp] using this)); (try replace x1 : wc.cell? ⟨c.p, 1, none⟩ = some (.int .u16 st.r.l) := by first | exact HR.out.c1 | (have := HR.out.c1; simpa only [put_sp] using this)); (try replace x23 : wc.cell? ⟨c.p, 23, none⟩ = some (.int .i64 st.sp.f1) := by first | exact HR.out.c23 | (have := HR.out.c23; simpa only [put_sp] using this))) | (go_at_call 107; (with_reducible refine at_args #[.int .u16 ((lookN st.r c.v (nextSp st.sp)).1), .int .u16 (extI st.r.l)] ?_); (with_reducible refine (addAcc_c _ _ BY.out.1 (by have := BY.out.2; omega) (ext_b _).1 (ext_lt _) _).mono ?_); rintro e wc ⟨rfl, hd⟩; replace HR := Aside0.mk (HR.out.drawn hd); clear hd; (try replace x0 : wc.cell? ⟨c.p, 0, none⟩ = some (.int .u16 st.r.a) := by first | exact HR.out.c0 | (have := HR.out.c0; simpa only [put_sp] using this)); (try replace x1 : wc.cell? ⟨c.p, 1, none⟩ = some (.int .u16 st.r.l) := by first | exact HR.out.c1 | (have := HR.out.c1; simpa only [put_sp] using this)); (try replace x23 : wc.cell? ⟨c.p, 23, none⟩ = some (.int .i64 st.sp.f1) := by first | exact HR.out.c23 | (have := HR.out.c23; simpa only [put_sp] using this))) | (go_at_call 107; (with_reducible refine at_args #[.int .u16 (rdA st c.v), .int .u16 st.r.a] ?_); (with_reducible refine (addAcc_c _ _ (rdA_b ok c.v).1 (rdA_b ok c.v).2 ok.a0 (by have := ok.a1; omega) _).mono ?_); rintro e wc ⟨rfl, hd⟩; replace HR := Aside0.mk (HR.out.drawn hd); clear hd; (try replace x0 : wc.cell? ⟨c.p, 0, none⟩ = some (.int .u16 st.r.a) := by first | exact HR.out.c0 | (have := HR.out.c0; simpa only [put_sp] using this)); (try replace x1 : wc.cell? ⟨c.p, 1, none⟩ = some (.int .u16 st.r.l) := by first | exact HR.out.c1 | (have := HR.out.c1; simpa only [put_sp] using this)); (try replace x23 : wc.cell? ⟨c.p, 23, none⟩ = some (.int .i64 st.sp.f1) := by first | exact HR.out.c23 | (have := HR.out.c23; simpa only [put_sp] using this))) | (go_at_call 171; (with_reducible refine at_args #[.int .u16 (addAccI ((lookN st.r c.v (nextSp st.sp)).1) (extI st.r.l))] ?_); (with_reducible refine (unit_c _ BT.out.1 BT.out.2 _).mono ?_); rintro e wc ⟨rfl, hd⟩; replace HR := Aside0.mk (HR.out.drawn hd); clear hd; (try replace x0 : wc.cell? ⟨c.p, 0, none⟩ = some (.int .u16 st.r.a) := by first | exact HR.out.c0 | (have := HR.out.c0; simpa only [put_sp] using this)); (try replace x1 : wc.cell? ⟨c.p, 1, none⟩ = some (.int .u16 st.r.l) := by first | exact HR.out.c1 | (have := HR.out.c1; simpa only [put_sp] using this)); (try replace x23 : wc.cell? ⟨c.p, 23, none⟩ = some (.int .i64 st.sp.f1) := by first | exact HR.out.c23 | (have := HR.out.c23; simpa only [put_sp] using this))) | (go_at_call 107; (with_reducible refine at_args #[.int .u16 (addAccI (rdA st c.v) st.r.a), .int .u16 (unitI (addAccI ((lookN st.r c.v (nextSp st.sp)).1) (extI st.r.l)))] ?_); (with_reducible refine (addAcc_c _ _ BV.out.1 (by have := BV.out.2; omega) (unit_b _).1 (by have := (unit_b (addAccI ((lookN st.r c.v (nextSp st.sp)).1) (extI st.r.l))).2; omega) _).mono ?_); rintro e wc ⟨rfl, hd⟩; replace HR := Aside0.mk (HR.out.drawn hd); clear hd; (try replace x0 : wc.cell? ⟨c.p, 0, none⟩ = some (.int .u16 st.r.a) := by first | exact HR.out.c0 | (have := HR.out.c0; simpa only [put_sp] using this)); (try replace x1 : wc.cell? ⟨c.p, 1, none⟩ = some (.int .u16 st.r.l) := by first | exact HR.out.c1 | (have := HR.out.c1; simpa only [put_sp] using this)); (try replace x23 : wc.cell? ⟨c.p, 23, none⟩ = some (.int .i64 st.sp.f1) := by first | exact HR.out.c23 | (have := HR.out.c23; simpa only [put_sp] using this))) | (go_at_call 34; (with_reducible refine at_args #[.int .u16 (addAccI ((lookN st.r c.v (nextSp st.sp)).1) (extI st.r.l))] ?_); (with_reducible refine (cor_c _ BT.out.1 (by have := BT.out.2; omega) _).mono ?_); rintro e wc ⟨rfl, hd⟩; replace HR := Aside0.mk (HR.out.drawn hd); clear hd; (try replace x0 : wc.cell? ⟨c.p, 0, none⟩ = some (.int .u16 st.r.a) := by first | exact HR.out.c0 | (have := HR.out.c0; simpa only [put_sp] using this)); (try replace x1 : wc.cell? ⟨c.p, 1, none⟩ = some (.int .u16 st.r.l) := by first | exact HR.out.c1 | (have := HR.out.c1; simpa only [put_sp] using this)); (try replace x23 : wc.cell? ⟨c.p, 23, none⟩ = some (.int .i64 st.sp.f1) := by first | exact HR.out.c23 | (have := HR.out.c23; simpa only [put_sp] using this))) | (go_at_call 171; (with_reducible refine at_args #[.int .u16 (addAccI (addAccI (rdA st c.v) st.r.a) (unitI (addAccI ((lookN st.r c.v (nextSp st.sp)).1) (extI st.r.l))))] ?_); (with_reducible refine (unit_c _ BU.out.1 BU.out.2 _).mono ?_); rintro e wc ⟨rfl, hd⟩; replace HR := Aside0.mk (HR.out.drawn hd); clear hd; (try replace x0 : wc.cell? ⟨c.p, 0, none⟩ = some (.int .u16 st.r.a) := by first | exact HR.out.c0 | (have := HR.out.c0; simpa only [put_sp] using this)); (try replace x1 : wc.cell? ⟨c.p, 1, none⟩ = some (.int .u16 st.r.l) := by first | exact HR.out.c1 | (have := HR.out.c1; simpa only [put_sp] using this)); (try replace x23 : wc.cell? ⟨c.p, 23, none⟩ = some (.int .i64 st.sp.f1) := by first | exact HR.out.c23 | (have := HR.out.c23; simpa only [put_sp] using this))) | (go_at_call 172; (with_reducible refine at_args #[.pointer (some ⟨c.p, 0, none⟩), .int .i64 (nextSp st.sp).f1, .int .u16 (addAccI ((lookN st.r c.v (nextSp st.sp)).1) (extI st.r.l))] ?_); (with_reducible refine (store_c HR.out _ (addAccI ((lookN st.r c.v (nextSp st.sp)).1) (extI st.r.l)) (nextSp_b _ h0) BT.out.1 BT.out.2 (by omega)).mono ?_); rintro e wc ⟨rfl, hR⟩; replace HR := Aside0.mk hR; clear hR; (try replace x0 : wc.cell? ⟨c.p, 0, none⟩ = some (.int .u16 st.r.a) := by first | exact HR.out.c0 | (have := HR.out.c0; simpa only [put_sp] using this)); (try replace x1 : wc.cell? ⟨c.p, 1, none⟩ = some (.int .u16 st.r.l) := by first | exact HR.out.c1 | (have := HR.out.c1; simpa only [put_sp] using this)); (try replace x23 : wc.cell? ⟨c.p, 23, none⟩ = some (.int .i64 st.sp.f1) := by first | exact HR.out.c23 | (have := HR.out.c23; simpa only [put_sp] using this))) | (go_at_call 172; (with_reducible refine at_args #[.pointer (some ⟨c.p, 0, none⟩), .int .i64 st.sp.f1, .int .u16 (addAccI (addAccI (rdA st c.v) st.r.a) (unitI (addAccI ((lookN st.r c.v (nextSp st.sp)).1) (extI st.r.l))))] ?_); (with_reducible refine (store_c HR.out _ (addAccI (addAccI (rdA st c.v) st.r.a) (unitI (addAccI ((lookN st.r c.v (nextSp st.sp)).1) (extI st.r.l)))) h0 BU.out.1 BU.out.2 (by omega)).mono ?_); rintro e wc ⟨rfl, hR⟩; replace HR := Aside0.mk hR; clear hR; (try replace x0 : wc.cell? ⟨c.p, 0, none⟩ = some (.int .u16 st.r.a) := by first | exact HR.out.c0 | (have := HR.out.c0; simpa only [put_sp] using this)); (try replace x1 : wc.cell? ⟨c.p, 1, none⟩ = some (.int .u16 st.r.l) := by first | exact HR.out.c1 | (have := HR.out.c1; simpa only [put_sp] using this)); (try replace x23 : wc.cell? ⟨c.p, 23, none⟩ = some (.int .i64 st.sp.f1) := by first | exact HR.out.c23 | (have := HR.out.c23; simpa only [put_sp] using this))) | (refine HR.out.e0 rfl _ _ _ rfl rfl _ rfl ?hi ?_; (case hi => kernel_rfl); intro wc hR; replace HR := Aside0.mk hR; clear hR; (try replace x0 : wc.cell? ⟨c.p, 0, none⟩ = some (.int .u16 st.r.a) := by first | exact HR.out.c0 | (have := HR.out.c0; simpa only [put_sp] using this)); (try replace x1 : wc.cell? ⟨c.p, 1, none⟩ = some (.int .u16 st.r.l) := by first | exact HR.out.c1 | (have := HR.out.c1; simpa only [put_sp] using this)); (try replace x23 : wc.cell? ⟨c.p, 23, none⟩ = some (.int .i64 st.sp.f1) := by first | exact HR.out.c23 | (have := HR.out.c23; simpa only [put_sp] using this))) | (refine HR.out.e1 rfl _ _ _ rfl rfl _ rfl ?hi ?_; (case hi => kernel_rfl); intro wc hR; replace HR := Aside0.mk hR; clear hR; (try replace x0 : wc.cell? ⟨c.p, 0, none⟩ = some (.int .u16 st.r.a) := by first | exact HR.out.c0 | (have := HR.out.c0; simpa only [put_sp] using this)); (try replace x1 : wc.cell? ⟨c.p, 1, none⟩ = some (.int .u16 st.r.l) := by first | exact HR.out.c1 | (have := HR.out.c1; simpa only [put_sp] using this)); (try replace x23 : wc.cell? ⟨c.p, 23, none⟩ = some (.int .i64 st.sp.f1) := by first | exact HR.out.c23 | (have := HR.out.c23; simpa only [put_sp] using this))))
 first | go_end0 | ((try simp only [Exit.inBlock, Exit.then]); refine bodyPost_ret (results_none rfl _ _ _) rfl ?_)
 refine ⟨rfl, ?_⟩
 unfold xDas
 simp only [if_pos HF.out]
 exact HR.out
theorem das_1 (h : c.P n st w) (ok : st.r.Ok) (h0 : 0 ≤ st.sp.f1) (h9 : st.sp.f1 < 40000) (hn : n ≤ 80) (hf : st.sp.f1 ≠ 0) : Calls Tryz.prog 90 #[.pointer (some ⟨c.p, 0, none⟩)] w fun e w' => e = .returned (.tuple #[]) ∧ c.P (n + 1 + 1 + 1 + 1) (xDas st c.v) w' := by
 have HR := Aside0.mk h
 clear h
 have x0 := HR.out.c0
 have x1 := HR.out.c1
 have x23 := HR.out.c23
 have hfd := fldSp
 have BY := Aside0.mk (look_b ok c.v (nextSp st.sp))
 have BA := Aside0.mk (look_b ok c.v st.sp)
 have BT := Aside0.mk (addAcc_b BY.out.1 BY.out.2 (ext_b st.r.l).1 (ext_b st.r.l).2)
 have BV := Aside0.mk (addAcc_b (a := rdA st c.v) (b := st.r.a) BA.out.1 BA.out.2 ok.a0 ok.a1)
 have BU := Aside0.mk (addAcc_b BV.out.1 BV.out.2 (unit_b (addAccI ((lookN st.r c.v (nextSp st.sp)).1) (extI st.r.l))).1 (unit_b (addAccI ((lookN st.r c.v (nextSp st.sp)).1) (extI st.r.l))).2)
 have y0 : (st.sp.f1 == 0) = false := by simpa using hf
 have HF := Aside0.mk hf
 clear hf
 have hu0 := Tryz.underlying97
 have hu1 := Tryz.underlying26
 have hu2 := Tryz.underlying48
 have hu3 := Tryz.underlying64
 have hu4 := Tryz.underlying29
 go_enter Tryz.func90, Tryz.ntmps90
 go_wp2_with (first | (go_at_call 170; (with_reducible refine at_args #[.pointer (some ⟨c.p, 0, none⟩)] ?_); (with_reducible refine (next_c HR.out h0 h9).mono ?_); rintro e wc ⟨rfl, hR⟩; replace HR := Aside0.mk hR; clear hR; (try replace x0 : wc.cell? ⟨c.p, 0, none⟩ = some (.int .u16 st.r.a) := by first | exact HR.out.c0 | (have := HR.out.c0; simpa only [put_sp] using this)); (try replace x1 : wc.cell? ⟨c.p, 1, none⟩ = some (.int .u16 st.r.l) := by first | exact HR.out.c1 | (have := HR.out.c1; simpa only [put_sp] using this)); (try replace x23 : wc.cell? ⟨c.p, 23, none⟩ = some (.int .i64 st.sp.f1) := by first | exact HR.out.c23 | (have := HR.out.c23; simpa only [put_sp] using this))) | (go_at_call 169; (with_reducible refine at_args #[.pointer (some ⟨c.p, 0, none⟩), .agg #[.int .u8 (nextSp st.sp).f0, .int .i64 (nextSp st.sp).f1]] ?_); (with_reducible refine (at_c HR.out ok (nextSp st.sp) (nextSp_b _ h0) (by omega)).mono ?_); rintro e wc ⟨rfl, hR⟩; replace HR := Aside0.mk hR; clear hR; (try replace x0 : wc.cell? ⟨c.p, 0, none⟩ = some (.int .u16 st.r.a) := by first | exact HR.out.c0 | (have := HR.out.c0; simpa only [put_sp] using this)); (try replace x1 : wc.cell? ⟨c.p, 1, none⟩ = some (.int .u16 st.r.l) := by first | exact HR.out.c1 | (have := HR.out.c1; simpa only [put_sp] using this)); (try replace x23 : wc.cell? ⟨c.p, 23, none⟩ = some (.int .i64 st.sp.f1) := by first | exact HR.out.c23 | (have := HR.out.c23; simpa only [put_sp] using this))) | (go_at_call 97; (with_reducible refine at_args #[.pointer (some ⟨c.p, 0, none⟩)] ?_); (with_reducible refine (read_c HR.out ok h0 (by omega)).mono ?_); rintro e wc ⟨rfl, hR⟩; replace HR := Aside0.mk hR; clear hR; (try replace x0 : wc.cell? ⟨c.p, 0, none⟩ = some (.int .u16 st.r.a) := by first | exact HR.out.c0 | (have := HR.out.c0; simpa only [put_sp] using this)); (try replace x1 : wc.cell? ⟨c.p, 1, none⟩ = some (.int .u16 st.r.l) := by first | exact HR.out.c1 | (have := HR.out.c1; simpa only [put_sp] using this)); (try replace x23 : wc.cell? ⟨c.p, 23, none⟩ = some (.int .i64 st.sp.f1) := by first | exact HR.out.c23 | (have := HR.out.c23; simpa only [put_sp] using this))) | (go_at_call 33; (with_reducible refine at_args #[.int .u16 st.r.l] ?_); (with_reducible refine (ext_c _ ok.l0 (by have := ok.l1; omega) _).mono ?_); rintro e wc ⟨rfl, hd⟩; replace HR := Aside0.mk (HR.out.drawn hd); clear hd; (try replace x0 : wc.cell? ⟨c.p, 0, none⟩ = some (.int .u16 st.r.a) := by first | exact HR.out.c0 | (have := HR.out.c0; simpa only [put_sp] using this)); (try replace x1 : wc.cell? ⟨c.p, 1, none⟩ = some (.int .u16 st.r.l) := by first | exact HR.out.c1 | (have := HR.out.c1; simpa only [put_sp] using this)); (try replace x23 : wc.cell? ⟨c.p, 23, none⟩ = some (.int .i64 st.sp.f1) := by first | exact HR.out.c23 | (have := HR.out.c23; simpa only [put_sp] using this))) | (go_at_call 107; (with_reducible refine at_args #[.int .u16 ((lookN st.r c.v (nextSp st.sp)).1), .int .u16 (extI st.r.l)] ?_); (with_reducible refine (addAcc_c _ _ BY.out.1 (by have := BY.out.2; omega) (ext_b _).1 (ext_lt _) _).mono ?_); rintro e wc ⟨rfl, hd⟩; replace HR := Aside0.mk (HR.out.drawn hd); clear hd; (try replace x0 : wc.cell? ⟨c.p, 0, none⟩ = some (.int .u16 st.r.a) := by first | exact HR.out.c0 | (have := HR.out.c0; simpa only [put_sp] using this)); (try replace x1 : wc.cell? ⟨c.p, 1, none⟩ = some (.int .u16 st.r.l) := by first | exact HR.out.c1 | (have := HR.out.c1; simpa only [put_sp] using this)); (try replace x23 : wc.cell? ⟨c.p, 23, none⟩ = some (.int .i64 st.sp.f1) := by first | exact HR.out.c23 | (have := HR.out.c23; simpa only [put_sp] using this))) | (go_at_call 107; (with_reducible refine at_args #[.int .u16 (rdA st c.v), .int .u16 st.r.a] ?_); (with_reducible refine (addAcc_c _ _ (rdA_b ok c.v).1 (rdA_b ok c.v).2 ok.a0 (by have := ok.a1; omega) _).mono ?_); rintro e wc ⟨rfl, hd⟩; replace HR := Aside0.mk (HR.out.drawn hd); clear hd; (try replace x0 : wc.cell? ⟨c.p, 0, none⟩ = some (.int .u16 st.r.a) := by first | exact HR.out.c0 | (have := HR.out.c0; simpa only [put_sp] using this)); (try replace x1 : wc.cell? ⟨c.p, 1, none⟩ = some (.int .u16 st.r.l) := by first | exact HR.out.c1 | (have := HR.out.c1; simpa only [put_sp] using this)); (try replace x23 : wc.cell? ⟨c.p, 23, none⟩ = some (.int .i64 st.sp.f1) := by first | exact HR.out.c23 | (have := HR.out.c23; simpa only [put_sp] using this))) | (go_at_call 171; (with_reducible refine at_args #[.int .u16 (addAccI ((lookN st.r c.v (nextSp st.sp)).1) (extI st.r.l))] ?_); (with_reducible refine (unit_c _ BT.out.1 BT.out.2 _).mono ?_); rintro e wc ⟨rfl, hd⟩; replace HR := Aside0.mk (HR.out.drawn hd); clear hd; (try replace x0 : wc.cell? ⟨c.p, 0, none⟩ = some (.int .u16 st.r.a) := by first | exact HR.out.c0 | (have := HR.out.c0; simpa only [put_sp] using this)); (try replace x1 : wc.cell? ⟨c.p, 1, none⟩ = some (.int .u16 st.r.l) := by first | exact HR.out.c1 | (have := HR.out.c1; simpa only [put_sp] using this)); (try replace x23 : wc.cell? ⟨c.p, 23, none⟩ = some (.int .i64 st.sp.f1) := by first | exact HR.out.c23 | (have := HR.out.c23; simpa only [put_sp] using this))) | (go_at_call 107; (with_reducible refine at_args #[.int .u16 (addAccI (rdA st c.v) st.r.a), .int .u16 (unitI (addAccI ((lookN st.r c.v (nextSp st.sp)).1) (extI st.r.l)))] ?_); (with_reducible refine (addAcc_c _ _ BV.out.1 (by have := BV.out.2; omega) (unit_b _).1 (by have := (unit_b (addAccI ((lookN st.r c.v (nextSp st.sp)).1) (extI st.r.l))).2; omega) _).mono ?_); rintro e wc ⟨rfl, hd⟩; replace HR := Aside0.mk (HR.out.drawn hd); clear hd; (try replace x0 : wc.cell? ⟨c.p, 0, none⟩ = some (.int .u16 st.r.a) := by first | exact HR.out.c0 | (have := HR.out.c0; simpa only [put_sp] using this)); (try replace x1 : wc.cell? ⟨c.p, 1, none⟩ = some (.int .u16 st.r.l) := by first | exact HR.out.c1 | (have := HR.out.c1; simpa only [put_sp] using this)); (try replace x23 : wc.cell? ⟨c.p, 23, none⟩ = some (.int .i64 st.sp.f1) := by first | exact HR.out.c23 | (have := HR.out.c23; simpa only [put_sp] using this))) | (go_at_call 34; (with_reducible refine at_args #[.int .u16 (addAccI ((lookN st.r c.v (nextSp st.sp)).1) (extI st.r.l))] ?_); (with_reducible refine (cor_c _ BT.out.1 (by have := BT.out.2; omega) _).mono ?_); rintro e wc ⟨rfl, hd⟩; replace HR := Aside0.mk (HR.out.drawn hd); clear hd; (try replace x0 : wc.cell? ⟨c.p, 0, none⟩ = some (.int .u16 st.r.a) := by first | exact HR.out.c0 | (have := HR.out.c0; simpa only [put_sp] using this)); (try replace x1 : wc.cell? ⟨c.p, 1, none⟩ = some (.int .u16 st.r.l) := by first | exact HR.out.c1 | (have := HR.out.c1; simpa only [put_sp] using this)); (try replace x23 : wc.cell? ⟨c.p, 23, none⟩ = some (.int .i64 st.sp.f1) := by first | exact HR.out.c23 | (have := HR.out.c23; simpa only [put_sp] using this))) | (go_at_call 171; (with_reducible refine at_args #[.int .u16 (addAccI (addAccI (rdA st c.v) st.r.a) (unitI (addAccI ((lookN st.r c.v (nextSp st.sp)).1) (extI st.r.l))))] ?_); (with_reducible refine (unit_c _ BU.out.1 BU.out.2 _).mono ?_); rintro e wc ⟨rfl, hd⟩; replace HR := Aside0.mk (HR.out.drawn hd); clear hd; (try replace x0 : wc.cell? ⟨c.p, 0, none⟩ = some (.int .u16 st.r.a) := by first | exact HR.out.c0 | (have := HR.out.c0; simpa only [put_sp] using this)); (try replace x1 : wc.cell? ⟨c.p, 1, none⟩ = some (.int .u16 st.r.l) := by first | exact HR.out.c1 | (have := HR.out.c1; simpa only [put_sp] using this)); (try replace x23 : wc.cell? ⟨c.p, 23, none⟩ = some (.int .i64 st.sp.f1) := by first | exact HR.out.c23 | (have := HR.out.c23; simpa only [put_sp] using this))) | (go_at_call 172; (with_reducible refine at_args #[.pointer (some ⟨c.p, 0, none⟩), .int .i64 (nextSp st.sp).f1, .int .u16 (addAccI ((lookN st.r c.v (nextSp st.sp)).1) (extI st.r.l))] ?_); (with_reducible refine (store_c HR.out _ (addAccI ((lookN st.r c.v (nextSp st.sp)).1) (extI st.r.l)) (nextSp_b _ h0) BT.out.1 BT.out.2 (by omega)).mono ?_); rintro e wc ⟨rfl, hR⟩; replace HR := Aside0.mk hR; clear hR; (try replace x0 : wc.cell? ⟨c.p, 0, none⟩ = some (.int .u16 st.r.a) := by first | exact HR.out.c0 | (have := HR.out.c0; simpa only [put_sp] using this)); (try replace x1 : wc.cell? ⟨c.p, 1, none⟩ = some (.int .u16 st.r.l) := by first | exact HR.out.c1 | (have := HR.out.c1; simpa only [put_sp] using this)); (try replace x23 : wc.cell? ⟨c.p, 23, none⟩ = some (.int .i64 st.sp.f1) := by first | exact HR.out.c23 | (have := HR.out.c23; simpa only [put_sp] using this))) | (go_at_call 172; (with_reducible refine at_args #[.pointer (some ⟨c.p, 0, none⟩), .int .i64 st.sp.f1, .int .u16 (addAccI (addAccI (rdA st c.v) st.r.a) (unitI (addAccI ((lookN st.r c.v (nextSp st.sp)).1) (extI st.r.l))))] ?_); (with_reducible refine (store_c HR.out _ (addAccI (addAccI (rdA st c.v) st.r.a) (unitI (addAccI ((lookN st.r c.v (nextSp st.sp)).1) (extI st.r.l)))) h0 BU.out.1 BU.out.2 (by omega)).mono ?_); rintro e wc ⟨rfl, hR⟩; replace HR := Aside0.mk hR; clear hR; (try replace x0 : wc.cell? ⟨c.p, 0, none⟩ = some (.int .u16 st.r.a) := by first | exact HR.out.c0 | (have := HR.out.c0; simpa only [put_sp] using this)); (try replace x1 : wc.cell? ⟨c.p, 1, none⟩ = some (.int .u16 st.r.l) := by first | exact HR.out.c1 | (have := HR.out.c1; simpa only [put_sp] using this)); (try replace x23 : wc.cell? ⟨c.p, 23, none⟩ = some (.int .i64 st.sp.f1) := by first | exact HR.out.c23 | (have := HR.out.c23; simpa only [put_sp] using this))) | (refine HR.out.e0 rfl _ _ _ rfl rfl _ rfl ?hi ?_; (case hi => kernel_rfl); intro wc hR; replace HR := Aside0.mk hR; clear hR; (try replace x0 : wc.cell? ⟨c.p, 0, none⟩ = some (.int .u16 st.r.a) := by first | exact HR.out.c0 | (have := HR.out.c0; simpa only [put_sp] using this)); (try replace x1 : wc.cell? ⟨c.p, 1, none⟩ = some (.int .u16 st.r.l) := by first | exact HR.out.c1 | (have := HR.out.c1; simpa only [put_sp] using this)); (try replace x23 : wc.cell? ⟨c.p, 23, none⟩ = some (.int .i64 st.sp.f1) := by first | exact HR.out.c23 | (have := HR.out.c23; simpa only [put_sp] using this))) | (refine HR.out.e1 rfl _ _ _ rfl rfl _ rfl ?hi ?_; (case hi => kernel_rfl); intro wc hR; replace HR := Aside0.mk hR; clear hR; (try replace x0 : wc.cell? ⟨c.p, 0, none⟩ = some (.int .u16 st.r.a) := by first | exact HR.out.c0 | (have := HR.out.c0; simpa only [put_sp] using this)); (try replace x1 : wc.cell? ⟨c.p, 1, none⟩ = some (.int .u16 st.r.l) := by first | exact HR.out.c1 | (have := HR.out.c1; simpa only [put_sp] using this)); (try replace x23 : wc.cell? ⟨c.p, 23, none⟩ = some (.int .i64 st.sp.f1) := by first | exact HR.out.c23 | (have := HR.out.c23; simpa only [put_sp] using this))))
 first | go_end0 | ((try simp only [Exit.inBlock, Exit.then]); refine bodyPost_ret (results_none rfl _ _ _) rfl ?_)
 refine ⟨rfl, ?_⟩
 unfold xDas
 simp only [if_neg HF.out]
 exact HR.out
theorem resume_c (h : c.P n st w) (ok : st.r.Ok) (hn : n ≤ 80) : Calls Tryz.prog 102 #[.pointer (some ⟨c.p, 0, none⟩)] w fun e w' => e = .returned (.tuple #[]) ∧ c.P (n + 1 + 1) (xResume st c.v) w' := by
 have HR := Aside0.mk h
 clear h
 have e3 : Go.bits .and .u16 (lookN st.r c.v ⟨1, 13⟩).1 4095 = (lookN st.r c.v ⟨1, 13⟩).1 % 4096 := and_4095 (look_b ok c.v ⟨1, 13⟩).1 (by have := (look_b ok c.v ⟨1, 13⟩).2; omega)
 have hu0 := Tryz.underlying97
 have hu1 := Tryz.underlying26
 have hu2 := Tryz.underlying48
 have hu3 := Tryz.underlying64
 have hu4 := Tryz.underlying29
 go_enter Tryz.func102, Tryz.ntmps102
 go_wp2_with (first | (go_at_call 169; (with_reducible refine at_args #[.pointer (some ⟨c.p, 0, none⟩), .agg #[.int .u8 1, .int .i64 13]] ?_); (with_reducible refine (at_c HR.out ok ⟨1, 13⟩ (by decide) (by omega)).mono ?_); rintro e wc ⟨rfl, hR⟩; replace HR := Aside0.mk hR; clear hR) | (go_at_call 169; (with_reducible refine at_args #[.pointer (some ⟨c.p, 0, none⟩), .agg #[.int .u8 1, .int .i64 15]] ?_); (with_reducible refine (at_c HR.out ok ⟨1, 15⟩ (by decide) (by omega)).mono ?_); rintro e wc ⟨rfl, hR⟩; replace HR := Aside0.mk hR; clear hR) | (go_at_call 34; (with_reducible refine at_args #[.int .u16 (lookN st.r c.v ⟨1, 15⟩).1] ?_); (with_reducible refine (cor_c _ (look_b ok c.v ⟨1, 15⟩).1 (by have := (look_b ok c.v ⟨1, 15⟩).2; omega) _).mono ?_); rintro e wc ⟨rfl, hd⟩; replace HR := Aside0.mk (HR.out.drawn hd); clear hd) | (refine HR.out.e3 rfl _ _ _ rfl rfl _ rfl ?hi ?_; (case hi => kernel_rfl); intro wc hR; replace HR := Aside0.mk hR; clear hR) | (refine HR.out.e10 rfl _ _ _ rfl rfl _ rfl ?hi ?_; (case hi => kernel_rfl); intro wc hR; replace HR := Aside0.mk hR; clear hR) | (refine HR.out.e9 rfl _ _ _ rfl rfl _ rfl ?hi ?_; (case hi => kernel_rfl); intro wc hR; replace HR := Aside0.mk hR; clear hR) | (refine HR.out.e12 rfl _ _ _ rfl rfl _ rfl ?hi ?_; (case hi => kernel_rfl); intro wc hR; replace HR := Aside0.mk hR; clear hR))
 first | (go_end0; exact ⟨rfl, HR.out⟩) | ((try simp only [Exit.inBlock, Exit.then]); refine bodyPost_ret (results_none rfl _ _ _) rfl ⟨rfl, HR.out⟩) | (go_ret; exact ⟨rfl, HR.out⟩)
theorem bzf_0 (h : c.P n st w) (ok : st.r.Ok) (ha : st.r.a = 0) : Calls Tryz.prog 126 #[.pointer (some ⟨c.g, 0, none⟩)] w fun e w' => e = .returned (.tuple #[]) ∧ c.P (n) (xBranch st true) w' := by
 have HR := Aside0.mk h
 clear h
 have xb := HR.out.bx
 have y0 : (st.r.a == 0) = true := by simpa using ha
 clear ha
 have hu0 := Tryz.underlying97
 have hu1 := Tryz.underlying26
 have hu2 := Tryz.underlying48
 have hu3 := Tryz.underlying64
 have hu4 := Tryz.underlying29
 go_enter Tryz.func126, Tryz.ntmps126
 replace HR := Aside0.mk HR.out.drew
 refine start_ (n := 16) (S := fun w' => w'.cell? ⟨c.g, 0, none⟩ = some (.pointer (some ⟨c.p, 0, none⟩)) ∧ w'.cell? ⟨c.p, 0, none⟩ = some (.int .u16 st.r.a)) (ds := [15]) #[false, false, false, false, false, false, false, false, false, false, false, false, false, false, false, false] (by kernel_rfl) rfl rfl ⟨HR.out.bx, HR.out.c0⟩ (fun hHeld => ?_)
 generalize w.drew = wd at HR hHeld ⊢
 refine tkq_ 0 (some 1) rfl rfl hHeld ?_
 refine tkq_ 1 (some 2) rfl rfl hHeld ?_
 refine pvq_ 2 (some 3) rfl rfl ?_
 refine pvq_ 3 (some 4) rfl rfl ?_
 refine pvq_ 4 (some 5) rfl rfl ?_
 refine tkq_ 5 (some 6) rfl rfl hHeld ?_
 refine pvq_ 6 (some 7) rfl rfl ?_
 refine pvq_ 7 (some 8) rfl rfl ?_
 refine pure_ (i := 8) (N := some 9) (v := undef) (a' := ?_) #[true, true, true, true, true, true, true, true, true, false, false, false, false, false, false, false] rfl rfl (by kernel_rfl) (fun _ _ _ h => h) (Or.inr ⟨by rfl, rfl⟩) ?_ ?_
 rotate_left
 · simp only [Act.put, List.setIfInBounds_toArray, List.set_cons_zero, List.set_cons_succ, i64_w, i32_w]
   rfl
 refine pure_ (i := 9) (N := some 10) (v := undef) (a' := ?_) #[true, true, true, true, true, true, true, true, true, true, false, false, false, false, false, false] rfl rfl (by kernel_rfl) (fun _ _ _ h => h) (Or.inr ⟨by rfl, rfl⟩) ?_ ?_
 rotate_left
 · simp only [Act.put, List.setIfInBounds_toArray, List.set_cons_zero, List.set_cons_succ, i64_w, i32_w]
   rfl
 refine pure_ (i := 10) (N := some 11) (v := undef) (a' := ?_) #[true, true, true, true, true, true, true, true, true, true, true, false, false, false, false, false] rfl rfl (by kernel_rfl) (fun _ _ _ h => h) (Or.inr ⟨by rfl, rfl⟩) ?_ ?_
 rotate_left
 · simp only [Act.put, List.setIfInBounds_toArray, List.set_cons_zero, List.set_cons_succ, i64_w, i32_w]
   rfl
 refine pure_ (i := 11) (N := some 12) (v := undef) (a' := ?_) #[true, true, true, true, true, true, true, true, true, true, true, true, false, false, false, false] rfl rfl (by kernel_rfl) (fun _ _ _ h => h) (Or.inr ⟨by rfl, rfl⟩) ?_ ?_
 rotate_left
 · simp only [Act.put, List.setIfInBounds_toArray, List.set_cons_zero, List.set_cons_succ, i64_w, i32_w]
   rfl
 refine pure_ (i := 12) (N := some 13) (v := undef) (a' := ?_) #[true, true, true, true, true, true, true, true, true, true, true, true, true, false, false, false] rfl rfl (by kernel_rfl) (fun _ _ _ h => h) (Or.inr ⟨by rfl, rfl⟩) ?_ ?_
 rotate_left
 · simp only [Act.put, List.setIfInBounds_toArray, List.set_cons_zero, List.set_cons_succ, i64_w, i32_w]
   rfl
 refine pure_ (i := 13) (N := some 14) (v := undef) (a' := ?_) #[true, true, true, true, true, true, true, true, true, true, true, true, true, true, false, false] rfl rfl (by kernel_rfl) (fun _ _ _ h => h) (Or.inr ⟨by rfl, rfl⟩) ?_ ?_
 rotate_left
 · simp only [Act.put, List.setIfInBounds_toArray, List.set_cons_zero, List.set_cons_succ, i64_w, i32_w]
   rfl
 refine pvq_ 14 (some 15) rfl rfl ?_
 refine laq_ 15 (some 16) rfl rfl (fun K hK => ?_)
 refine goq_ Tryz.func127 #[.pointer (some ⟨c.p, 0, none⟩), .bool true] ?_
 with_reducible refine (branch_c HR.out true).mono ?_
 rintro e wc ⟨rfl, hR⟩
 refine ⟨_, rfl, ?_⟩
 replace HR := Aside0.mk hR
 clear hR
 refine hK.out _ _ ?_
 clear hK K
 refine nmq_ (some 16) ?_
 refine done_ (by kernel_rfl) ?_
 go_wp2
 first | (go_end0; exact ⟨rfl, HR.out⟩) | ((try simp only [Exit.inBlock, Exit.then]); refine bodyPost_ret (results_none rfl _ _ _) rfl ⟨rfl, HR.out⟩) | (go_ret; exact ⟨rfl, HR.out⟩)
theorem bzf_1 (h : c.P n st w) (ok : st.r.Ok) (ha : st.r.a ≠ 0) : Calls Tryz.prog 126 #[.pointer (some ⟨c.g, 0, none⟩)] w fun e w' => e = .returned (.tuple #[]) ∧ c.P (n) (xBranch st (st.r.a == 65535)) w' := by
 have HR := Aside0.mk h
 clear h
 have xb := HR.out.bx
 have y0 : (st.r.a == 0) = false := by simpa using ha
 clear ha
 have hu0 := Tryz.underlying97
 have hu1 := Tryz.underlying26
 have hu2 := Tryz.underlying48
 have hu3 := Tryz.underlying64
 have hu4 := Tryz.underlying29
 go_enter Tryz.func126, Tryz.ntmps126
 replace HR := Aside0.mk HR.out.drew
 refine start_ (n := 16) (S := fun w' => w'.cell? ⟨c.g, 0, none⟩ = some (.pointer (some ⟨c.p, 0, none⟩)) ∧ w'.cell? ⟨c.p, 0, none⟩ = some (.int .u16 st.r.a)) (ds := [15]) #[false, false, false, false, false, false, false, false, false, false, false, false, false, false, false, false] (by kernel_rfl) rfl rfl ⟨HR.out.bx, HR.out.c0⟩ (fun hHeld => ?_)
 generalize w.drew = wd at HR hHeld ⊢
 refine tkq_ 0 (some 1) rfl rfl hHeld ?_
 refine tkq_ 1 (some 2) rfl rfl hHeld ?_
 refine pvq_ 2 (some 3) rfl rfl ?_
 refine pvq_ 3 (some 4) rfl rfl ?_
 refine pvq_ 4 (some 5) rfl rfl ?_
 refine tkq_ 5 (some 6) rfl rfl hHeld ?_
 refine pvq_ 6 (some 7) rfl rfl ?_
 refine pvq_ 7 (some 8) rfl rfl ?_
 refine tkq_ 8 (some 9) rfl rfl hHeld ?_
 refine pvq_ 9 (some 10) rfl rfl ?_
 refine pvq_ 10 (some 11) rfl rfl ?_
 refine pvq_ 11 (some 12) rfl rfl ?_
 refine tkq_ 12 (some 13) rfl rfl hHeld ?_
 refine pvq_ 13 (some 14) rfl rfl ?_
 refine pvq_ 14 (some 15) rfl rfl ?_
 refine laq_ 15 (some 16) rfl rfl (fun K hK => ?_)
 refine goq_ Tryz.func127 #[.pointer (some ⟨c.p, 0, none⟩), .bool (st.r.a == 65535)] ?_
 with_reducible refine (branch_c HR.out (st.r.a == 65535)).mono ?_
 rintro e wc ⟨rfl, hR⟩
 refine ⟨_, rfl, ?_⟩
 replace HR := Aside0.mk hR
 clear hR
 refine hK.out _ _ ?_
 clear hK K
 refine nmq_ (some 16) ?_
 refine done_ (by kernel_rfl) ?_
 go_wp2
 first | (go_end0; exact ⟨rfl, HR.out⟩) | ((try simp only [Exit.inBlock, Exit.then]); refine bodyPost_ret (results_none rfl _ _ _) rfl ⟨rfl, HR.out⟩) | (go_ret; exact ⟨rfl, HR.out⟩)
theorem bzf_c (h : c.P n st w) (ok : st.r.Ok) : Calls Tryz.prog 126 #[.pointer (some ⟨c.g, 0, none⟩)] w fun e w' => e = .returned (.tuple #[]) ∧ c.P n (xBranch st (decide (st.r.a = 0 ∨ st.r.a = 65535))) w' := by
 by_cases ha : st.r.a = 0
 · rw [show decide (st.r.a = 0 ∨ st.r.a = 65535) = true by simp [ha]]; exact bzf_0 h ok ha
 · rw [show decide (st.r.a = 0 ∨ st.r.a = 65535) = (st.r.a == 65535) from by rw [Bool.eq_iff_iff]; simp; omega]; exact bzf_1 h ok ha
theorem bzmf_0 (h : c.P n st w) (ok : st.r.Ok) (ha : st.r.a = 0) : Calls Tryz.prog 128 #[.pointer (some ⟨c.g, 0, none⟩)] w fun e w' => e = .returned (.tuple #[]) ∧ c.P (n) (xBranch st true) w' := by
 have HR := Aside0.mk h
 clear h
 have xb := HR.out.bx
 have y0 : (st.r.a == 0) = true := by simpa using ha
 clear ha
 have hu0 := Tryz.underlying97
 have hu1 := Tryz.underlying26
 have hu2 := Tryz.underlying48
 have hu3 := Tryz.underlying64
 have hu4 := Tryz.underlying29
 go_enter Tryz.func128, Tryz.ntmps128
 replace HR := Aside0.mk HR.out.drew
 refine start_ (n := 17) (S := fun w' => w'.cell? ⟨c.g, 0, none⟩ = some (.pointer (some ⟨c.p, 0, none⟩)) ∧ w'.cell? ⟨c.p, 0, none⟩ = some (.int .u16 st.r.a)) (ds := [16]) #[false, false, false, false, false, false, false, false, false, false, false, false, false, false, false, false, false] (by kernel_rfl) rfl rfl ⟨HR.out.bx, HR.out.c0⟩ (fun hHeld => ?_)
 generalize w.drew = wd at HR hHeld ⊢
 refine tkq_ 0 (some 1) rfl rfl hHeld ?_
 refine tkq_ 1 (some 2) rfl rfl hHeld ?_
 refine pvq_ 2 (some 3) rfl rfl ?_
 refine pvq_ 3 (some 4) rfl rfl ?_
 refine pvq_ 4 (some 5) rfl rfl ?_
 refine tkq_ 5 (some 6) rfl rfl hHeld ?_
 refine pvq_ 6 (some 7) rfl rfl ?_
 refine pvq_ 7 (some 8) rfl rfl ?_
 refine pure_ (i := 8) (N := some 9) (v := undef) (a' := ?_) #[true, true, true, true, true, true, true, true, true, false, false, false, false, false, false, false, false] rfl rfl (by kernel_rfl) (fun _ _ _ h => h) (Or.inr ⟨by rfl, rfl⟩) ?_ ?_
 rotate_left
 · simp only [Act.put, List.setIfInBounds_toArray, List.set_cons_zero, List.set_cons_succ, i64_w, i32_w]
   rfl
 refine pure_ (i := 9) (N := some 10) (v := undef) (a' := ?_) #[true, true, true, true, true, true, true, true, true, true, false, false, false, false, false, false, false] rfl rfl (by kernel_rfl) (fun _ _ _ h => h) (Or.inr ⟨by rfl, rfl⟩) ?_ ?_
 rotate_left
 · simp only [Act.put, List.setIfInBounds_toArray, List.set_cons_zero, List.set_cons_succ, i64_w, i32_w]
   rfl
 refine pure_ (i := 10) (N := some 11) (v := undef) (a' := ?_) #[true, true, true, true, true, true, true, true, true, true, true, false, false, false, false, false, false] rfl rfl (by kernel_rfl) (fun _ _ _ h => h) (Or.inr ⟨by rfl, rfl⟩) ?_ ?_
 rotate_left
 · simp only [Act.put, List.setIfInBounds_toArray, List.set_cons_zero, List.set_cons_succ, i64_w, i32_w]
   rfl
 refine pure_ (i := 11) (N := some 12) (v := undef) (a' := ?_) #[true, true, true, true, true, true, true, true, true, true, true, true, false, false, false, false, false] rfl rfl (by kernel_rfl) (fun _ _ _ h => h) (Or.inr ⟨by rfl, rfl⟩) ?_ ?_
 rotate_left
 · simp only [Act.put, List.setIfInBounds_toArray, List.set_cons_zero, List.set_cons_succ, i64_w, i32_w]
   rfl
 refine pure_ (i := 12) (N := some 13) (v := undef) (a' := ?_) #[true, true, true, true, true, true, true, true, true, true, true, true, true, false, false, false, false] rfl rfl (by kernel_rfl) (fun _ _ _ h => h) (Or.inr ⟨by rfl, rfl⟩) ?_ ?_
 rotate_left
 · simp only [Act.put, List.setIfInBounds_toArray, List.set_cons_zero, List.set_cons_succ, i64_w, i32_w]
   rfl
 refine pure_ (i := 13) (N := some 14) (v := undef) (a' := ?_) #[true, true, true, true, true, true, true, true, true, true, true, true, true, true, false, false, false] rfl rfl (by kernel_rfl) (fun _ _ _ h => h) (Or.inr ⟨by rfl, rfl⟩) ?_ ?_
 rotate_left
 · simp only [Act.put, List.setIfInBounds_toArray, List.set_cons_zero, List.set_cons_succ, i64_w, i32_w]
   rfl
 refine pure_ (i := 14) (N := some 15) (v := undef) (a' := ?_) #[true, true, true, true, true, true, true, true, true, true, true, true, true, true, true, false, false] rfl rfl (by kernel_rfl) (fun _ _ _ h => h) (Or.inr ⟨by rfl, rfl⟩) ?_ ?_
 rotate_left
 · simp only [Act.put, List.setIfInBounds_toArray, List.set_cons_zero, List.set_cons_succ, i64_w, i32_w]
   rfl
 refine pvq_ 15 (some 16) rfl rfl ?_
 refine laq_ 16 (some 17) rfl rfl (fun K hK => ?_)
 refine goq_ Tryz.func127 #[.pointer (some ⟨c.p, 0, none⟩), .bool true] ?_
 with_reducible refine (branch_c HR.out true).mono ?_
 rintro e wc ⟨rfl, hR⟩
 refine ⟨_, rfl, ?_⟩
 replace HR := Aside0.mk hR
 clear hR
 refine hK.out _ _ ?_
 clear hK K
 refine nmq_ (some 17) ?_
 refine done_ (by kernel_rfl) ?_
 go_wp2
 first | (go_end0; exact ⟨rfl, HR.out⟩) | ((try simp only [Exit.inBlock, Exit.then]); refine bodyPost_ret (results_none rfl _ _ _) rfl ⟨rfl, HR.out⟩) | (go_ret; exact ⟨rfl, HR.out⟩)
theorem bzmf_1 (h : c.P n st w) (ok : st.r.Ok) (ha : st.r.a ≠ 0) : Calls Tryz.prog 128 #[.pointer (some ⟨c.g, 0, none⟩)] w fun e w' => e = .returned (.tuple #[]) ∧ c.P (n) (xBranch st (st.r.a / 32768 == 1)) w' := by
 have HR := Aside0.mk h
 clear h
 have xb := HR.out.bx
 have y0 : (st.r.a == 0) = false := by simpa using ha
 clear ha
 have hu0 := Tryz.underlying97
 have hu1 := Tryz.underlying26
 have hu2 := Tryz.underlying48
 have hu3 := Tryz.underlying64
 have hu4 := Tryz.underlying29
 go_enter Tryz.func128, Tryz.ntmps128
 replace HR := Aside0.mk HR.out.drew
 refine start_ (n := 17) (S := fun w' => w'.cell? ⟨c.g, 0, none⟩ = some (.pointer (some ⟨c.p, 0, none⟩)) ∧ w'.cell? ⟨c.p, 0, none⟩ = some (.int .u16 st.r.a)) (ds := [16]) #[false, false, false, false, false, false, false, false, false, false, false, false, false, false, false, false, false] (by kernel_rfl) rfl rfl ⟨HR.out.bx, HR.out.c0⟩ (fun hHeld => ?_)
 generalize w.drew = wd at HR hHeld ⊢
 refine tkq_ 0 (some 1) rfl rfl hHeld ?_
 refine tkq_ 1 (some 2) rfl rfl hHeld ?_
 refine pvq_ 2 (some 3) rfl rfl ?_
 refine pvq_ 3 (some 4) rfl rfl ?_
 refine pvq_ 4 (some 5) rfl rfl ?_
 refine tkq_ 5 (some 6) rfl rfl hHeld ?_
 refine pvq_ 6 (some 7) rfl rfl ?_
 refine pvq_ 7 (some 8) rfl rfl ?_
 refine tkq_ 8 (some 9) rfl rfl hHeld ?_
 refine pvq_ 9 (some 10) rfl rfl ?_
 refine pvq_ 10 (some 11) rfl rfl ?_
 refine pvq_ 11 (some 12) rfl rfl ?_
 refine tkq_ 12 (some 13) rfl rfl hHeld ?_
 refine pvq_ 13 (some 14) rfl rfl ?_
 refine pvq_ 14 (some 15) rfl rfl ?_
 refine pvq_ 15 (some 16) rfl rfl ?_
 refine laq_ 16 (some 17) rfl rfl (fun K hK => ?_)
 refine goq_ Tryz.func127 #[.pointer (some ⟨c.p, 0, none⟩), .bool (st.r.a / 32768 == 1)] ?_
 with_reducible refine (branch_c HR.out (st.r.a / 32768 == 1)).mono ?_
 rintro e wc ⟨rfl, hR⟩
 refine ⟨_, rfl, ?_⟩
 replace HR := Aside0.mk hR
 clear hR
 refine hK.out _ _ ?_
 clear hK K
 refine nmq_ (some 17) ?_
 refine done_ (by kernel_rfl) ?_
 go_wp2
 first | (go_end0; exact ⟨rfl, HR.out⟩) | ((try simp only [Exit.inBlock, Exit.then]); refine bodyPost_ret (results_none rfl _ _ _) rfl ⟨rfl, HR.out⟩) | (go_ret; exact ⟨rfl, HR.out⟩)
theorem bzmf_c (h : c.P n st w) (ok : st.r.Ok) : Calls Tryz.prog 128 #[.pointer (some ⟨c.g, 0, none⟩)] w fun e w' => e = .returned (.tuple #[]) ∧ c.P n (xBranch st (decide (st.r.a = 0 ∨ st.r.a > 32767))) w' := by
 by_cases ha : st.r.a = 0
 · rw [show decide (st.r.a = 0 ∨ st.r.a > 32767) = true by simp [ha]]; exact bzmf_0 h ok ha
 · rw [show decide (st.r.a = 0 ∨ st.r.a > 32767) = (st.r.a / 32768 == 1) from by have := ok.a0; have := ok.a1; rw [Bool.eq_iff_iff]; simp; omega]; exact bzmf_1 h ok ha
end
end Go.Proofs.YthfobpkdloejfaaGreat.Cpu
end
