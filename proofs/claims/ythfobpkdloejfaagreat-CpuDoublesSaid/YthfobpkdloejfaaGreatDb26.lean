/- Chapter 5: a part of its proof (cut by program out of CpuK); no condition. -/
import Derived.BigQuiet
import Derived.Deep.QuietTactic
import Derived.Test.YthfobpkdloejfaaGreatDb25
section
namespace Go.Proofs.YthfobpkdloejfaaGreat.Cpu
open Go.RowKit Go.Proofs.YthfobpkdloejfaaGreat.PAll Go.Proofs.YthfobpkdloejfaaGreat.One Go.Proofs.YthfobpkdloejfaaGreat.Mem Go.Proofs.YthfobpkdloejfaaGreat.Row Go.Proofs.YthfobpkdloejfaaGreatW.PrintWords Go.Proofs.YthfobpkdloejfaaGreatW.PrintLast Go.Proofs.YthfobpkdloejfaaGreatW.PrintMore Go.Proofs.YthfobpkdloejfaaGreat.Plain
set_option linter.unusedVariables false
set_option linter.unusedSimpArgs false
set_option linter.unusedSectionVars false
section
variable {c : Cx} {n : Nat} {st : St} {w : World}
theorem tc_c (h : c.P n st w) (ok : st.r.Ok) : Calls Tryz.prog 84 #[.pointer (some ⟨c.p, 0, none⟩)] w fun e w' => e = .returned (.tuple #[]) ∧ c.P n (xTc st) w' := by
  by_cases hk : st.k = 2
  · exact both_c1 h ok hk
  · exact both_c0 h ok hk
theorem putR_ok {r : Rg} (h : r.Ok) (i x : Int) (x0 : 0 ≤ x) (x1 : x ≤ 65535) : (putR r i x).Ok := by
  have hb := cor_b x0 x1
  unfold putR
  repeat' split
  all_goals (first | exact h | exact ⟨by first | exact h.a0 | omega, by first | exact h.a1 | omega, by first | exact h.l0 | (dsimp only; omega), by first | exact h.l1 | (dsimp only; omega), by first | exact h.q0 | (dsimp only; omega), by first | exact h.q1 | (dsimp only; omega), by first | exact h.z0 | (dsimp only; omega), by first | exact h.z1 | (dsimp only; omega), by first | exact h.e0 | (dsimp only; omega), by first | exact h.e1 | (dsimp only; omega), by first | exact h.f0 | (dsimp only; omega), by first | exact h.f1 | (dsimp only; omega), h.s0, h.s1, h.i0, h.i1, h.b0, h.b1⟩)
theorem put_ok {st : St} (h : st.r.Ok) (i x : Int) (x0 : 0 ≤ x) (x1 : x ≤ 65535) : (st.put i x).r.Ok := by
  unfold St.put
  split
  · exact putR_ok h i x x0 x1
  · exact h
set_option maxRecDepth 100000 in
set_option maxHeartbeats 4000000 in
theorem dxch_c (h : c.P n st w) (ok : st.r.Ok) (h0 : 0 ≤ st.sp.f1) (h9 : st.sp.f1 < 40000) (hn : n ≤ 70) : Calls Tryz.prog 103 #[.pointer (some ⟨c.p, 0, none⟩)] w fun e w' => e = .returned (.tuple #[]) ∧ c.P (n + 1 + 1 + 1 + 1) (xDxch st c.v) w' := by
  have HR := Aside0.mk h
  clear h
  have hfd := fldSp
  have BY := Aside0.mk (look_b ok c.v (nextSp st.sp))
  have OKB := Aside0.mk (put_ok (st := st.see c.v (nextSp st.sp)) ok (nextSp st.sp).f1 (extI st.r.l) (ext_b _).1 (ext_b _).2)
  have OK1 : Aside0 (St.r ({ ((st.see c.v (nextSp st.sp)).put (nextSp st.sp).f1 (extI st.r.l)) with r := { ((st.see c.v (nextSp st.sp)).put (nextSp st.sp).f1 (extI st.r.l)).r with l := corI ((lookN st.r c.v (nextSp st.sp)).1) } })).Ok := ⟨{ OKB.out with l0 := (cor_b BY.out.1 BY.out.2).1, l1 := (cor_b BY.out.1 BY.out.2).2 }⟩
  have SP1 : Aside0 (0 ≤ (St.sp ({ ((st.see c.v (nextSp st.sp)).put (nextSp st.sp).f1 (extI st.r.l)) with r := { ((st.see c.v (nextSp st.sp)).put (nextSp st.sp).f1 (extI st.r.l)).r with l := corI ((lookN st.r c.v (nextSp st.sp)).1) } })).f1) := ⟨show 0 ≤ (((st.see c.v (nextSp st.sp)).put (nextSp st.sp).f1 (extI st.r.l))).sp.f1 from by rw [put_sp]; exact h0⟩
  have hu0 := Tryz.underlying97
  have hu1 := Tryz.underlying26
  have hu2 := Tryz.underlying48
  have hu3 := Tryz.underlying64
  have hu4 := Tryz.underlying29
  go_enter Tryz.func103, Tryz.ntmps103
  go_upto_region 1 with (first | (go_at_call 170; (with_reducible refine at_args #[.pointer (some ⟨c.p, 0, none⟩)] ?_); (with_reducible refine (next_c HR.out h0 h9).mono ?_); rintro e wc ⟨rfl, hR⟩; replace HR := Aside0.mk hR; clear hR) | (go_at_call 169; (with_reducible refine at_args #[.pointer (some ⟨c.p, 0, none⟩), .agg #[.int .u8 (nextSp st.sp).f0, .int .i64 (nextSp st.sp).f1]] ?_); (with_reducible refine (at_c HR.out ok (nextSp st.sp) (nextSp_b _ h0) (by omega)).mono ?_); rintro e wc ⟨rfl, hR⟩; replace HR := Aside0.mk hR; clear hR))
  replace HR := Aside0.mk HR.out.drew
  refine start_ (n := 11) (S := fun w' => w'.cell? ⟨c.p, 1, none⟩ = some (.int .u16 st.r.l)) (ds := [10]) #[false, false, false, false, false, false, false, false, false, false, false] (by kernel_rfl) rfl rfl (HR.out.c1) (fun hHeld => ?_)
  generalize wc.drew = wd at HR hHeld ⊢
  refine pure_ (i := 0) (N := some 7) (v := ?_) (a' := ?_) #[true, false, false, false, false, false, false, false, false, false, false] rfl rfl (by kernel_rfl) (fun _ _ _ h => h) (Or.inl ⟨by rfl, ?_⟩) ?_ ?_
  rotate_left
  · intro w'
    go_simp
    with_reducible rfl
  rotate_left
  · simp only [Act.put, List.setIfInBounds_toArray, List.set_cons_zero, List.set_cons_succ, i64_w, i32_w]
    rfl
  refine pure_ (i := 1) (N := some 8) (v := ?_) (a' := ?_) #[true, true, false, false, false, false, false, false, false, false, false] rfl rfl (by kernel_rfl) (fun _ _ _ h => h) (Or.inl ⟨by rfl, ?_⟩) ?_ ?_
  rotate_left
  · intro w'
    go_simp
    with_reducible rfl
  rotate_left
  · simp only [Act.put, List.setIfInBounds_toArray, List.set_cons_zero, List.set_cons_succ, i64_w, i32_w]
    rfl
  refine pure_ (i := 4) (N := some 11) (v := ?_) (a' := ?_) #[true, true, false, false, true, false, false, false, false, false, false] rfl rfl (by kernel_rfl) (fun _ _ _ h => h) (Or.inl ⟨by rfl, ?_⟩) ?_ ?_
  rotate_left
  · intro w'
    go_simp
    with_reducible rfl
  rotate_left
  · simp only [Act.put, List.setIfInBounds_toArray, List.set_cons_zero, List.set_cons_succ, i64_w, i32_w]
    rfl
  refine pure_ (i := 5) (N := some 12) (v := ?_) (a' := ?_) #[true, true, false, false, true, true, false, false, false, false, false] rfl rfl (by kernel_rfl) (fun _ _ _ h => h) (Or.inl ⟨by rfl, ?_⟩) ?_ ?_
  rotate_left
  · intro w'
    go_simp
    with_reducible rfl
  rotate_left
  · simp only [Act.put, List.setIfInBounds_toArray, List.set_cons_zero, List.set_cons_succ, i64_w, i32_w]
    rfl
  refine pure_ (i := 6) (N := some 13) (v := ?_) (a' := ?_) #[true, true, false, false, true, true, true, false, false, false, false] rfl rfl (by kernel_rfl) (fun _ _ _ h => h) (Or.inl ⟨by rfl, ?_⟩) ?_ ?_
  rotate_left
  · intro w'
    go_simp
    with_reducible rfl
  rotate_left
  · simp only [Act.put, List.setIfInBounds_toArray, List.set_cons_zero, List.set_cons_succ, i64_w, i32_w]
    rfl
  refine pure_ (i := 7) (N := some 14) (v := ?_) (a' := ?_) #[true, true, false, false, true, true, true, true, false, false, false] rfl rfl (by kernel_rfl) (fun _ _ _ h => h) (Or.inl ⟨by rfl, ?_⟩) ?_ ?_
  rotate_left
  · intro w'
    go_simp
    with_reducible rfl
  rotate_left
  · simp only [Act.put, List.setIfInBounds_toArray, List.set_cons_zero, List.set_cons_succ, i64_w, i32_w]
    rfl
  refine take_ (i := 8) (N := some 15) (v := ?_) (a' := ?_) #[true, true, false, false, true, true, true, true, true, false, false] rfl rfl (by kernel_rfl) (fun _ _ _ h => h) (Or.inl ⟨by rfl, ?_⟩) hHeld ?_ ?_
  rotate_left
  · intro w' s0
    go_simp
    with_reducible rfl
  rotate_left
  · simp only [Act.put, List.setIfInBounds_toArray, List.set_cons_zero, List.set_cons_succ, i64_w, i32_w]
    rfl
  refine one_ (i := 2) (N := some 9) #[true, true, true, false, true, true, true, true, true, false, false] rfl rfl (by kernel_rfl) (by decide) (fun K hK => ?_)
  refine goes_ Tryz.func170 (by kernel_rfl) rfl #[.pointer (some ⟨c.p, 0, none⟩)] (by rfl) rfl rfl (by simp only [List.map_toArray, List.map_cons, List.map_nil]; rfl) ?_
  with_reducible refine (next_c HR.out h0 h9).mono ?_
  rintro e wc ⟨rfl, hR⟩
  refine ⟨_, rfl, ?_⟩
  replace HR := Aside0.mk hR
  clear hR
  refine hK.out _ _ (HR.out.c1) (fun hHeld => ?_)
  clear hK K
  refine norm_ (a' := ?_) ?_ ?_
  rotate_left
  · show Act.put _ (some 9) _ = _
    simp only [Act.put, List.setIfInBounds_toArray, List.set_cons_zero, List.set_cons_succ, i64_w, i32_w]
    rfl
  refine pure_ (i := 3) (N := some 10) (v := ?_) (a' := ?_) #[true, true, true, true, true, true, true, true, true, false, false] rfl rfl (by kernel_rfl) (fun _ _ _ h => h) (Or.inl ⟨by rfl, ?_⟩) ?_ ?_
  rotate_left
  · intro w'
    go_simp
    with_reducible rfl
  rotate_left
  · simp only [Act.put, List.setIfInBounds_toArray, List.set_cons_zero, List.set_cons_succ, i64_w, i32_w]
    rfl
  refine one_ (i := 9) (N := some 16) #[true, true, true, true, true, true, true, true, true, true, false] rfl rfl (by kernel_rfl) (by decide) (fun K hK => ?_)
  refine goes_ Tryz.func33 (by kernel_rfl) rfl #[.int .u16 st.r.l] (by rfl) rfl rfl (by simp only [List.map_toArray, List.map_cons, List.map_nil]; rfl) ?_
  with_reducible refine (ext_c _ ok.l0 (by have := ok.l1; omega) _).mono ?_
  rintro e wc ⟨rfl, hR⟩
  refine ⟨_, rfl, ?_⟩
  replace HR := Aside0.mk (HR.out.drawn hR)
  clear hR
  refine hK.out _ _ (HR.out.c1) (fun hHeld => ?_)
  clear hK K
  refine norm_ (a' := ?_) ?_ ?_
  rotate_left
  · show Act.put _ (some 16) _ = _
    simp only [Act.put, List.setIfInBounds_toArray, List.set_cons_zero, List.set_cons_succ, i64_w, i32_w]
    rfl
  refine last_ (i := 10) (N := some 17) #[true, true, true, true, true, true, true, true, true, true, true] rfl rfl (by kernel_rfl) (by decide) (fun K hK => ?_)
  refine goes_ Tryz.func172 (by kernel_rfl) rfl #[.pointer (some ⟨c.p, 0, none⟩), .int .i64 (nextSp st.sp).f1, .int .u16 (extI st.r.l)] (by rfl) rfl rfl (by simp only [List.map_toArray, List.map_cons, List.map_nil]; rfl) ?_
  with_reducible refine (store_c HR.out _ (extI st.r.l) (nextSp_b _ h0) (ext_b _).1 (ext_b _).2 (by omega)).mono ?_
  rintro e wc ⟨rfl, hR⟩
  refine ⟨_, rfl, ?_⟩
  replace HR := Aside0.mk hR
  clear hR
  refine hK.out _ _ ?_
  clear hK K
  refine norm_ (a' := ?_) ?_ ?_
  rotate_left
  · show Act.put _ (some 17) _ = _
    simp only [Act.put, List.setIfInBounds_toArray, List.set_cons_zero, List.set_cons_succ, i64_w, i32_w]
    rfl
  refine done_ (by kernel_rfl) ?_
  go_wp2_with (first | (go_at_call 34; (with_reducible refine at_args #[.int .u16 ((lookN st.r c.v (nextSp st.sp)).1)] ?_); (with_reducible refine (cor_c _ BY.out.1 (by have := BY.out.2; omega) _).mono ?_); rintro e wc ⟨rfl, hd⟩; replace HR := Aside0.mk (HR.out.drawn hd); clear hd) | (refine HR.out.e1 rfl _ _ _ rfl rfl _ rfl ?hi ?_; (case hi => kernel_rfl); intro wc hR; replace HR := Aside0.mk hR; clear hR) | (go_at_call 105; (with_reducible refine at_args #[.pointer (some ⟨c.p, 0, none⟩)] ?_); (with_reducible refine (xch_c (st := { ((st.see c.v (nextSp st.sp)).put (nextSp st.sp).f1 (extI st.r.l)) with r := { ((st.see c.v (nextSp st.sp)).put (nextSp st.sp).f1 (extI st.r.l)).r with l := corI ((lookN st.r c.v (nextSp st.sp)).1) } }) HR.out OK1.out SP1.out (by omega)).mono ?_); rintro e wc ⟨rfl, hR⟩; replace HR := Aside0.mk hR; clear hR))
  first | go_end0 | ((try simp only [Exit.inBlock, Exit.then]); refine bodyPost_ret (results_none rfl _ _ _) rfl ?_)
  exact ⟨rfl, HR.out⟩
set_option maxRecDepth 100000 in
set_option maxHeartbeats 4000000 in
theorem ts_0 (h : c.P n st w) (ok : st.r.Ok) (h0 : 0 ≤ st.sp.f1) (hn : n ≤ 80) (hz : st.sp.f1 = 0) (hu : unitI st.r.a = 0) : Calls Tryz.prog 104 #[.pointer (some ⟨c.p, 0, none⟩)] w fun e w' => e = .returned (.tuple #[]) ∧ c.P (n) (xTs st) w' := by
  have HR := Aside0.mk h
  clear h
  have x0 := HR.out.c0
  have x23 := HR.out.c23
  have y0 : (st.sp.f1 != 0) = false := by simpa using hz
  have y1 : (unitI st.r.a == 0) = true := by simpa using hu
  have HZ := Aside0.mk hz
  have HU := Aside0.mk hu
  clear hz hu
  have hu0 := Tryz.underlying97
  have hu1 := Tryz.underlying26
  have hu2 := Tryz.underlying48
  have hu3 := Tryz.underlying64
  have hu4 := Tryz.underlying29
  go_enter Tryz.func104, Tryz.ntmps104
  go_wp2_with (first | (go_at_call 171; (with_reducible refine at_args #[.int .u16 st.r.a] ?_); (with_reducible refine (unit_c _ ok.a0 ok.a1 _).mono ?_); rintro e wc ⟨rfl, hd⟩; replace HR := Aside0.mk (HR.out.drawn hd); clear hd; (try replace x0 : wc.cell? ⟨c.p, 0, none⟩ = some (.int .u16 st.r.a) := by first | exact HR.out.c0 | (have := HR.out.c0; simpa only [put_sp] using this)); (try replace x23 : wc.cell? ⟨c.p, 23, none⟩ = some (.int .i64 st.sp.f1) := by first | exact HR.out.c23 | (have := HR.out.c23; simpa only [put_sp] using this))) | (go_at_call 167; (with_reducible refine at_args #[.pointer (some ⟨c.p, 0, none⟩), .int .i64 1] ?_); (with_reducible refine (skip_c HR.out 1 ok.z0 ok.z1 (by decide) (by decide)).mono ?_); rintro e wc ⟨rfl, hR⟩; replace HR := Aside0.mk hR; clear hR; (try replace x23 : wc.cell? ⟨c.p, 23, none⟩ = some (.int .i64 st.sp.f1) := by first | exact HR.out.c23 | (have := HR.out.c23; simpa only [put_sp] using this))) | (refine HR.out.e0 rfl _ _ _ rfl rfl _ rfl ?hi ?_; (case hi => kernel_rfl); intro wc hR; replace HR := Aside0.mk hR; clear hR))
  first | go_end0 | ((try simp only [Exit.inBlock, Exit.then]); refine bodyPost_ret (results_none rfl _ _ _) rfl ?_)
  refine ⟨rfl, ?_⟩
  unfold xTs
  simp only [HZ.out, HU.out, ne_eq, not_true_eq_false, not_false_eq_true, if_true, if_false]
  exact HR.out
set_option maxRecDepth 100000 in
set_option maxHeartbeats 4000000 in
theorem ts_1 (h : c.P n st w) (ok : st.r.Ok) (h0 : 0 ≤ st.sp.f1) (hn : n ≤ 80) (hz : st.sp.f1 = 0) (hu : unitI st.r.a ≠ 0) : Calls Tryz.prog 104 #[.pointer (some ⟨c.p, 0, none⟩)] w fun e w' => e = .returned (.tuple #[]) ∧ c.P (n) (xTs st) w' := by
  have HR := Aside0.mk h
  clear h
  have x0 := HR.out.c0
  have x23 := HR.out.c23
  have y0 : (st.sp.f1 != 0) = false := by simpa using hz
  have y1 : (unitI st.r.a == 0) = false := by simpa using hu
  have HZ := Aside0.mk hz
  have HU := Aside0.mk hu
  clear hz hu
  have hu0 := Tryz.underlying97
  have hu1 := Tryz.underlying26
  have hu2 := Tryz.underlying48
  have hu3 := Tryz.underlying64
  have hu4 := Tryz.underlying29
  go_enter Tryz.func104, Tryz.ntmps104
  go_wp2_with (first | (go_at_call 171; (with_reducible refine at_args #[.int .u16 st.r.a] ?_); (with_reducible refine (unit_c _ ok.a0 ok.a1 _).mono ?_); rintro e wc ⟨rfl, hd⟩; replace HR := Aside0.mk (HR.out.drawn hd); clear hd; (try replace x0 : wc.cell? ⟨c.p, 0, none⟩ = some (.int .u16 st.r.a) := by first | exact HR.out.c0 | (have := HR.out.c0; simpa only [put_sp] using this)); (try replace x23 : wc.cell? ⟨c.p, 23, none⟩ = some (.int .i64 st.sp.f1) := by first | exact HR.out.c23 | (have := HR.out.c23; simpa only [put_sp] using this))) | (go_at_call 167; (with_reducible refine at_args #[.pointer (some ⟨c.p, 0, none⟩), .int .i64 1] ?_); (with_reducible refine (skip_c HR.out 1 ok.z0 ok.z1 (by decide) (by decide)).mono ?_); rintro e wc ⟨rfl, hR⟩; replace HR := Aside0.mk hR; clear hR; (try replace x23 : wc.cell? ⟨c.p, 23, none⟩ = some (.int .i64 st.sp.f1) := by first | exact HR.out.c23 | (have := HR.out.c23; simpa only [put_sp] using this))) | (refine HR.out.e0 rfl _ _ _ rfl rfl _ rfl ?hi ?_; (case hi => kernel_rfl); intro wc hR; replace HR := Aside0.mk hR; clear hR))
  first | go_end0 | ((try simp only [Exit.inBlock, Exit.then]); refine bodyPost_ret (results_none rfl _ _ _) rfl ?_)
  refine ⟨rfl, ?_⟩
  unfold xTs
  simp only [HZ.out, HU.out, ne_eq, not_true_eq_false, not_false_eq_true, if_true, if_false]
  exact HR.out
set_option maxRecDepth 100000 in
set_option maxHeartbeats 4000000 in
theorem ts_2 (h : c.P n st w) (ok : st.r.Ok) (h0 : 0 ≤ st.sp.f1) (hn : n ≤ 80) (hz : st.sp.f1 ≠ 0) (hu : unitI st.r.a = 0) : Calls Tryz.prog 104 #[.pointer (some ⟨c.p, 0, none⟩)] w fun e w' => e = .returned (.tuple #[]) ∧ c.P (n + 1) (xTs st) w' := by
  have HR := Aside0.mk h
  clear h
  have x0 := HR.out.c0
  have x23 := HR.out.c23
  have y0 : (st.sp.f1 != 0) = true := by simpa using hz
  have y1 : (unitI st.r.a == 0) = true := by simpa using hu
  have HZ := Aside0.mk hz
  have HU := Aside0.mk hu
  clear hz hu
  have hu0 := Tryz.underlying97
  have hu1 := Tryz.underlying26
  have hu2 := Tryz.underlying48
  have hu3 := Tryz.underlying64
  have hu4 := Tryz.underlying29
  go_enter Tryz.func104, Tryz.ntmps104
  go_upto_region 2 with (first | (go_at_call 171; (with_reducible refine at_args #[.int .u16 st.r.a] ?_); (with_reducible refine (unit_c _ ok.a0 ok.a1 _).mono ?_); rintro e wc ⟨rfl, hd⟩; replace HR := Aside0.mk (HR.out.drawn hd); clear hd; (try replace x0 : wc.cell? ⟨c.p, 0, none⟩ = some (.int .u16 st.r.a) := by first | exact HR.out.c0 | (have := HR.out.c0; simpa only [put_sp] using this)); (try replace x23 : wc.cell? ⟨c.p, 23, none⟩ = some (.int .i64 st.sp.f1) := by first | exact HR.out.c23 | (have := HR.out.c23; simpa only [put_sp] using this))))
  replace HR := Aside0.mk HR.out.drew
  refine start_ (n := 12) (S := fun w' => w'.cell? ⟨c.p, 23, none⟩ = some (.int .i64 st.sp.f1) ∧ w'.cell? ⟨c.p, 0, none⟩ = some (.int .u16 st.r.a)) (ds := [11]) #[false, false, false, false, false, false, false, false, false, false, false, false] (by kernel_rfl) rfl rfl ⟨HR.out.c23, HR.out.c0⟩ (fun hHeld => ?_)
  generalize wc.drew = wd at HR hHeld ⊢
  refine pure_ (i := 0) (N := some 15) (v := ?_) (a' := ?_) #[true, false, false, false, false, false, false, false, false, false, false, false] rfl rfl (by kernel_rfl) (fun _ _ _ h => h) (Or.inl ⟨by rfl, ?_⟩) ?_ ?_
  rotate_left
  · intro w'
    go_simp
    with_reducible rfl
  rotate_left
  · simp only [Act.put, List.setIfInBounds_toArray, List.set_cons_zero, List.set_cons_succ, i64_w, i32_w]
    rfl
  refine pure_ (i := 1) (N := some 16) (v := ?_) (a' := ?_) #[true, true, false, false, false, false, false, false, false, false, false, false] rfl rfl (by kernel_rfl) (fun _ _ _ h => h) (Or.inl ⟨by rfl, ?_⟩) ?_ ?_
  rotate_left
  · intro w'
    go_simp
    with_reducible rfl
  rotate_left
  · simp only [Act.put, List.setIfInBounds_toArray, List.set_cons_zero, List.set_cons_succ, i64_w, i32_w]
    rfl
  refine pure_ (i := 2) (N := some 17) (v := ?_) (a' := ?_) #[true, true, true, false, false, false, false, false, false, false, false, false] rfl rfl (by kernel_rfl) (fun _ _ _ h => h) (Or.inl ⟨by rfl, ?_⟩) ?_ ?_
  rotate_left
  · intro w'
    go_simp
    with_reducible rfl
  rotate_left
  · simp only [Act.put, List.setIfInBounds_toArray, List.set_cons_zero, List.set_cons_succ, i64_w, i32_w]
    rfl
  refine pure_ (i := 3) (N := some 18) (v := ?_) (a' := ?_) #[true, true, true, true, false, false, false, false, false, false, false, false] rfl rfl (by kernel_rfl) (fun _ _ _ h => h) (Or.inl ⟨by rfl, ?_⟩) ?_ ?_
  rotate_left
  · intro w'
    go_simp
    with_reducible rfl
  rotate_left
  · simp only [Act.put, List.setIfInBounds_toArray, List.set_cons_zero, List.set_cons_succ, i64_w, i32_w]
    rfl
  refine pure_ (i := 4) (N := some 19) (v := ?_) (a' := ?_) #[true, true, true, true, true, false, false, false, false, false, false, false] rfl rfl (by kernel_rfl) (fun _ _ _ h => h) (Or.inl ⟨by rfl, ?_⟩) ?_ ?_
  rotate_left
  · intro w'
    go_simp
    with_reducible rfl
  rotate_left
  · simp only [Act.put, List.setIfInBounds_toArray, List.set_cons_zero, List.set_cons_succ, i64_w, i32_w]
    rfl
  refine pure_ (i := 6) (N := some 21) (v := ?_) (a' := ?_) #[true, true, true, true, true, false, true, false, false, false, false, false] rfl rfl (by kernel_rfl) (fun _ _ _ h => h) (Or.inl ⟨by rfl, ?_⟩) ?_ ?_
  rotate_left
  · intro w'
    go_simp
    with_reducible rfl
  rotate_left
  · simp only [Act.put, List.setIfInBounds_toArray, List.set_cons_zero, List.set_cons_succ, i64_w, i32_w]
    rfl
  refine pure_ (i := 7) (N := some 22) (v := ?_) (a' := ?_) #[true, true, true, true, true, false, true, true, false, false, false, false] rfl rfl (by kernel_rfl) (fun _ _ _ h => h) (Or.inl ⟨by rfl, ?_⟩) ?_ ?_
  rotate_left
  · intro w'
    go_simp
    with_reducible rfl
  rotate_left
  · simp only [Act.put, List.setIfInBounds_toArray, List.set_cons_zero, List.set_cons_succ, i64_w, i32_w]
    rfl
  refine pure_ (i := 8) (N := some 23) (v := ?_) (a' := ?_) #[true, true, true, true, true, false, true, true, true, false, false, false] rfl rfl (by kernel_rfl) (fun _ _ _ h => h) (Or.inl ⟨by rfl, ?_⟩) ?_ ?_
  rotate_left
  · intro w'
    go_simp
    with_reducible rfl
  rotate_left
  · simp only [Act.put, List.setIfInBounds_toArray, List.set_cons_zero, List.set_cons_succ, i64_w, i32_w]
    rfl
  refine pure_ (i := 9) (N := some 24) (v := ?_) (a' := ?_) #[true, true, true, true, true, false, true, true, true, true, false, false] rfl rfl (by kernel_rfl) (fun _ _ _ h => h) (Or.inl ⟨by rfl, ?_⟩) ?_ ?_
  rotate_left
  · intro w'
    go_simp
    with_reducible rfl
  rotate_left
  · simp only [Act.put, List.setIfInBounds_toArray, List.set_cons_zero, List.set_cons_succ, i64_w, i32_w]
    rfl
  refine take_ (i := 5) (N := some 20) (v := ?_) (a' := ?_) #[true, true, true, true, true, true, true, true, true, true, false, false] rfl rfl (by kernel_rfl) (fun _ _ _ h => h) (Or.inl ⟨by rfl, ?_⟩) hHeld ?_ ?_
  rotate_left
  · rintro w' ⟨s0, s1⟩
    go_simp
    with_reducible rfl
  rotate_left
  · simp only [Act.put, List.setIfInBounds_toArray, List.set_cons_zero, List.set_cons_succ, i64_w, i32_w]
    rfl
  refine take_ (i := 10) (N := some 25) (v := ?_) (a' := ?_) #[true, true, true, true, true, true, true, true, true, true, true, false] rfl rfl (by kernel_rfl) (fun _ _ _ h => h) (Or.inl ⟨by rfl, ?_⟩) hHeld ?_ ?_
  rotate_left
  · rintro w' ⟨s0, s1⟩
    go_simp
    with_reducible rfl
  rotate_left
  · simp only [Act.put, List.setIfInBounds_toArray, List.set_cons_zero, List.set_cons_succ, i64_w, i32_w]
    rfl
  refine last_ (i := 11) (N := some 26) #[true, true, true, true, true, true, true, true, true, true, true, true] rfl rfl (by kernel_rfl) (by decide) (fun K hK => ?_)
  refine goes_ Tryz.func172 (by kernel_rfl) rfl #[.pointer (some ⟨c.p, 0, none⟩), .int .i64 st.sp.f1, .int .u16 st.r.a] (by rfl) rfl rfl (by simp only [List.map_toArray, List.map_cons, List.map_nil]; rfl) ?_
  with_reducible refine (store_c HR.out _ st.r.a h0 ok.a0 ok.a1 (by omega)).mono ?_
  rintro e wc ⟨rfl, hR⟩
  refine ⟨_, rfl, ?_⟩
  replace HR := Aside0.mk hR
  clear hR
  refine hK.out _ _ ?_
  clear hK K
  refine norm_ (a' := ?_) ?_ ?_
  rotate_left
  · show Act.put _ (some 26) _ = _
    simp only [Act.put, List.setIfInBounds_toArray, List.set_cons_zero, List.set_cons_succ, i64_w, i32_w]
    rfl
  refine done_ (by kernel_rfl) ?_
  have x23 : wc.cell? ⟨c.p, 23, none⟩ = some (.int .i64 st.sp.f1) := by have := HR.out.c23; simpa only [put_sp] using this
  go_wp2_with (first | (go_at_call 171; (with_reducible refine at_args #[.int .u16 st.r.a] ?_); (with_reducible refine (unit_c _ ok.a0 ok.a1 _).mono ?_); rintro e wc ⟨rfl, hd⟩; replace HR := Aside0.mk (HR.out.drawn hd); clear hd; (try replace x0 : wc.cell? ⟨c.p, 0, none⟩ = some (.int .u16 st.r.a) := by first | exact HR.out.c0 | (have := HR.out.c0; simpa only [put_sp] using this)); (try replace x23 : wc.cell? ⟨c.p, 23, none⟩ = some (.int .i64 st.sp.f1) := by first | exact HR.out.c23 | (have := HR.out.c23; simpa only [put_sp] using this))) | (go_at_call 167; (with_reducible refine at_args #[.pointer (some ⟨c.p, 0, none⟩), .int .i64 1] ?_); (with_reducible refine (skip_c HR.out 1 (put_ok ok _ _ ok.a0 ok.a1).z0 (put_ok ok _ _ ok.a0 ok.a1).z1 (by decide) (by decide)).mono ?_); rintro e wc ⟨rfl, hR⟩; replace HR := Aside0.mk hR; clear hR; (try replace x23 : wc.cell? ⟨c.p, 23, none⟩ = some (.int .i64 st.sp.f1) := by first | exact HR.out.c23 | (have := HR.out.c23; simpa only [put_sp] using this))) | (refine HR.out.e0 rfl _ _ _ rfl rfl _ rfl ?hi ?_; (case hi => kernel_rfl); intro wc hR; replace HR := Aside0.mk hR; clear hR))
  first | go_end0 | ((try simp only [Exit.inBlock, Exit.then]); refine bodyPost_ret (results_none rfl _ _ _) rfl ?_)
  refine ⟨rfl, ?_⟩
  unfold xTs
  simp only [HZ.out, HU.out, ne_eq, not_true_eq_false, not_false_eq_true, if_true, if_false]
  exact HR.out
set_option maxRecDepth 100000 in
set_option maxHeartbeats 4000000 in
theorem ts_3 (h : c.P n st w) (ok : st.r.Ok) (h0 : 0 ≤ st.sp.f1) (hn : n ≤ 80) (hz : st.sp.f1 ≠ 0) (hu : unitI st.r.a ≠ 0) : Calls Tryz.prog 104 #[.pointer (some ⟨c.p, 0, none⟩)] w fun e w' => e = .returned (.tuple #[]) ∧ c.P (n + 1) (xTs st) w' := by
  have HR := Aside0.mk h
  clear h
  have x0 := HR.out.c0
  have x23 := HR.out.c23
  have y0 : (st.sp.f1 != 0) = true := by simpa using hz
  have y1 : (unitI st.r.a == 0) = false := by simpa using hu
  have HZ := Aside0.mk hz
  have HU := Aside0.mk hu
  clear hz hu
  have hu0 := Tryz.underlying97
  have hu1 := Tryz.underlying26
  have hu2 := Tryz.underlying48
  have hu3 := Tryz.underlying64
  have hu4 := Tryz.underlying29
  go_enter Tryz.func104, Tryz.ntmps104
  go_upto_region 2 with (first | (go_at_call 171; (with_reducible refine at_args #[.int .u16 st.r.a] ?_); (with_reducible refine (unit_c _ ok.a0 ok.a1 _).mono ?_); rintro e wc ⟨rfl, hd⟩; replace HR := Aside0.mk (HR.out.drawn hd); clear hd; (try replace x0 : wc.cell? ⟨c.p, 0, none⟩ = some (.int .u16 st.r.a) := by first | exact HR.out.c0 | (have := HR.out.c0; simpa only [put_sp] using this)); (try replace x23 : wc.cell? ⟨c.p, 23, none⟩ = some (.int .i64 st.sp.f1) := by first | exact HR.out.c23 | (have := HR.out.c23; simpa only [put_sp] using this))))
  replace HR := Aside0.mk HR.out.drew
  refine start_ (n := 12) (S := fun w' => w'.cell? ⟨c.p, 23, none⟩ = some (.int .i64 st.sp.f1) ∧ w'.cell? ⟨c.p, 0, none⟩ = some (.int .u16 st.r.a)) (ds := [11]) #[false, false, false, false, false, false, false, false, false, false, false, false] (by kernel_rfl) rfl rfl ⟨HR.out.c23, HR.out.c0⟩ (fun hHeld => ?_)
  generalize wc.drew = wd at HR hHeld ⊢
  refine pure_ (i := 0) (N := some 15) (v := ?_) (a' := ?_) #[true, false, false, false, false, false, false, false, false, false, false, false] rfl rfl (by kernel_rfl) (fun _ _ _ h => h) (Or.inl ⟨by rfl, ?_⟩) ?_ ?_
  rotate_left
  · intro w'
    go_simp
    with_reducible rfl
  rotate_left
  · simp only [Act.put, List.setIfInBounds_toArray, List.set_cons_zero, List.set_cons_succ, i64_w, i32_w]
    rfl
  refine pure_ (i := 1) (N := some 16) (v := ?_) (a' := ?_) #[true, true, false, false, false, false, false, false, false, false, false, false] rfl rfl (by kernel_rfl) (fun _ _ _ h => h) (Or.inl ⟨by rfl, ?_⟩) ?_ ?_
  rotate_left
  · intro w'
    go_simp
    with_reducible rfl
  rotate_left
  · simp only [Act.put, List.setIfInBounds_toArray, List.set_cons_zero, List.set_cons_succ, i64_w, i32_w]
    rfl
  refine pure_ (i := 2) (N := some 17) (v := ?_) (a' := ?_) #[true, true, true, false, false, false, false, false, false, false, false, false] rfl rfl (by kernel_rfl) (fun _ _ _ h => h) (Or.inl ⟨by rfl, ?_⟩) ?_ ?_
  rotate_left
  · intro w'
    go_simp
    with_reducible rfl
  rotate_left
  · simp only [Act.put, List.setIfInBounds_toArray, List.set_cons_zero, List.set_cons_succ, i64_w, i32_w]
    rfl
  refine pure_ (i := 3) (N := some 18) (v := ?_) (a' := ?_) #[true, true, true, true, false, false, false, false, false, false, false, false] rfl rfl (by kernel_rfl) (fun _ _ _ h => h) (Or.inl ⟨by rfl, ?_⟩) ?_ ?_
  rotate_left
  · intro w'
    go_simp
    with_reducible rfl
  rotate_left
  · simp only [Act.put, List.setIfInBounds_toArray, List.set_cons_zero, List.set_cons_succ, i64_w, i32_w]
    rfl
  refine pure_ (i := 4) (N := some 19) (v := ?_) (a' := ?_) #[true, true, true, true, true, false, false, false, false, false, false, false] rfl rfl (by kernel_rfl) (fun _ _ _ h => h) (Or.inl ⟨by rfl, ?_⟩) ?_ ?_
  rotate_left
  · intro w'
    go_simp
    with_reducible rfl
  rotate_left
  · simp only [Act.put, List.setIfInBounds_toArray, List.set_cons_zero, List.set_cons_succ, i64_w, i32_w]
    rfl
  refine pure_ (i := 6) (N := some 21) (v := ?_) (a' := ?_) #[true, true, true, true, true, false, true, false, false, false, false, false] rfl rfl (by kernel_rfl) (fun _ _ _ h => h) (Or.inl ⟨by rfl, ?_⟩) ?_ ?_
  rotate_left
  · intro w'
    go_simp
    with_reducible rfl
  rotate_left
  · simp only [Act.put, List.setIfInBounds_toArray, List.set_cons_zero, List.set_cons_succ, i64_w, i32_w]
    rfl
  refine pure_ (i := 7) (N := some 22) (v := ?_) (a' := ?_) #[true, true, true, true, true, false, true, true, false, false, false, false] rfl rfl (by kernel_rfl) (fun _ _ _ h => h) (Or.inl ⟨by rfl, ?_⟩) ?_ ?_
  rotate_left
  · intro w'
    go_simp
    with_reducible rfl
  rotate_left
  · simp only [Act.put, List.setIfInBounds_toArray, List.set_cons_zero, List.set_cons_succ, i64_w, i32_w]
    rfl
  refine pure_ (i := 8) (N := some 23) (v := ?_) (a' := ?_) #[true, true, true, true, true, false, true, true, true, false, false, false] rfl rfl (by kernel_rfl) (fun _ _ _ h => h) (Or.inl ⟨by rfl, ?_⟩) ?_ ?_
  rotate_left
  · intro w'
    go_simp
    with_reducible rfl
  rotate_left
  · simp only [Act.put, List.setIfInBounds_toArray, List.set_cons_zero, List.set_cons_succ, i64_w, i32_w]
    rfl
  refine pure_ (i := 9) (N := some 24) (v := ?_) (a' := ?_) #[true, true, true, true, true, false, true, true, true, true, false, false] rfl rfl (by kernel_rfl) (fun _ _ _ h => h) (Or.inl ⟨by rfl, ?_⟩) ?_ ?_
  rotate_left
  · intro w'
    go_simp
    with_reducible rfl
  rotate_left
  · simp only [Act.put, List.setIfInBounds_toArray, List.set_cons_zero, List.set_cons_succ, i64_w, i32_w]
    rfl
  refine take_ (i := 5) (N := some 20) (v := ?_) (a' := ?_) #[true, true, true, true, true, true, true, true, true, true, false, false] rfl rfl (by kernel_rfl) (fun _ _ _ h => h) (Or.inl ⟨by rfl, ?_⟩) hHeld ?_ ?_
  rotate_left
  · rintro w' ⟨s0, s1⟩
    go_simp
    with_reducible rfl
  rotate_left
  · simp only [Act.put, List.setIfInBounds_toArray, List.set_cons_zero, List.set_cons_succ, i64_w, i32_w]
    rfl
  refine take_ (i := 10) (N := some 25) (v := ?_) (a' := ?_) #[true, true, true, true, true, true, true, true, true, true, true, false] rfl rfl (by kernel_rfl) (fun _ _ _ h => h) (Or.inl ⟨by rfl, ?_⟩) hHeld ?_ ?_
  rotate_left
  · rintro w' ⟨s0, s1⟩
    go_simp
    with_reducible rfl
  rotate_left
  · simp only [Act.put, List.setIfInBounds_toArray, List.set_cons_zero, List.set_cons_succ, i64_w, i32_w]
    rfl
  refine last_ (i := 11) (N := some 26) #[true, true, true, true, true, true, true, true, true, true, true, true] rfl rfl (by kernel_rfl) (by decide) (fun K hK => ?_)
  refine goes_ Tryz.func172 (by kernel_rfl) rfl #[.pointer (some ⟨c.p, 0, none⟩), .int .i64 st.sp.f1, .int .u16 st.r.a] (by rfl) rfl rfl (by simp only [List.map_toArray, List.map_cons, List.map_nil]; rfl) ?_
  with_reducible refine (store_c HR.out _ st.r.a h0 ok.a0 ok.a1 (by omega)).mono ?_
  rintro e wc ⟨rfl, hR⟩
  refine ⟨_, rfl, ?_⟩
  replace HR := Aside0.mk hR
  clear hR
  refine hK.out _ _ ?_
  clear hK K
  refine norm_ (a' := ?_) ?_ ?_
  rotate_left
  · show Act.put _ (some 26) _ = _
    simp only [Act.put, List.setIfInBounds_toArray, List.set_cons_zero, List.set_cons_succ, i64_w, i32_w]
    rfl
  refine done_ (by kernel_rfl) ?_
  have x23 : wc.cell? ⟨c.p, 23, none⟩ = some (.int .i64 st.sp.f1) := by have := HR.out.c23; simpa only [put_sp] using this
  go_wp2_with (first | (go_at_call 171; (with_reducible refine at_args #[.int .u16 st.r.a] ?_); (with_reducible refine (unit_c _ ok.a0 ok.a1 _).mono ?_); rintro e wc ⟨rfl, hd⟩; replace HR := Aside0.mk (HR.out.drawn hd); clear hd; (try replace x0 : wc.cell? ⟨c.p, 0, none⟩ = some (.int .u16 st.r.a) := by first | exact HR.out.c0 | (have := HR.out.c0; simpa only [put_sp] using this)); (try replace x23 : wc.cell? ⟨c.p, 23, none⟩ = some (.int .i64 st.sp.f1) := by first | exact HR.out.c23 | (have := HR.out.c23; simpa only [put_sp] using this))) | (go_at_call 167; (with_reducible refine at_args #[.pointer (some ⟨c.p, 0, none⟩), .int .i64 1] ?_); (with_reducible refine (skip_c HR.out 1 (put_ok ok _ _ ok.a0 ok.a1).z0 (put_ok ok _ _ ok.a0 ok.a1).z1 (by decide) (by decide)).mono ?_); rintro e wc ⟨rfl, hR⟩; replace HR := Aside0.mk hR; clear hR; (try replace x23 : wc.cell? ⟨c.p, 23, none⟩ = some (.int .i64 st.sp.f1) := by first | exact HR.out.c23 | (have := HR.out.c23; simpa only [put_sp] using this))) | (refine HR.out.e0 rfl _ _ _ rfl rfl _ rfl ?hi ?_; (case hi => kernel_rfl); intro wc hR; replace HR := Aside0.mk hR; clear hR))
  first | go_end0 | ((try simp only [Exit.inBlock, Exit.then]); refine bodyPost_ret (results_none rfl _ _ _) rfl ?_)
  refine ⟨rfl, ?_⟩
  unfold xTs
  simp only [HZ.out, HU.out, ne_eq, not_true_eq_false, not_false_eq_true, if_true, if_false]
  exact HR.out
theorem ts_c (h : c.P n st w) (ok : st.r.Ok) (h0 : 0 ≤ st.sp.f1) (hn : n ≤ 80) : Calls Tryz.prog 104 #[.pointer (some ⟨c.p, 0, none⟩)] w fun e w' => e = .returned (.tuple #[]) ∧ c.P (n + 1) (xTs st) w' := by
  have up : ∀ {s : St} {w1 : World}, c.P n s w1 → c.P (n + 1) s w1 := fun h => ⟨h.run, h.ok, by have := h.sz; omega⟩
  by_cases hz : st.sp.f1 = 0 <;> by_cases hu : unitI st.r.a = 0
  · exact (ts_0 h ok h0 hn hz hu).mono fun e w' ⟨he, hp⟩ => ⟨he, up hp⟩
  · exact (ts_1 h ok h0 hn hz hu).mono fun e w' ⟨he, hp⟩ => ⟨he, up hp⟩
  · exact ts_2 h ok h0 hn hz hu
  · exact ts_3 h ok h0 hn hz hu
set_option maxRecDepth 100000 in
set_option maxHeartbeats 4000000 in
theorem aug_0 (h : c.P n st w) (ok : st.r.Ok) (h0 : 0 ≤ st.sp.f1) (hn : n ≤ 80) (hb : ¬ ( rdA st c.v > 32767)) : Calls Tryz.prog 129 #[.pointer (some ⟨c.p, 0, none⟩)] w fun e w' => e = .returned (.tuple #[]) ∧ c.P (n + 1 + 1) (xAug st c.v) w' := by
  have HR := Aside0.mk h
  clear h
  have y0 : (rdA st c.v / 32768 == 1) = false := by have := rdA_b ok c.v; simp; omega
  have HB := Aside0.mk hb
  clear hb
  have hu0 := Tryz.underlying97
  have hu1 := Tryz.underlying26
  have hu2 := Tryz.underlying48
  have hu3 := Tryz.underlying64
  have hu4 := Tryz.underlying29
  go_enter Tryz.func129, Tryz.ntmps129
  go_upto_region 4 with (first | (go_at_call 97; (with_reducible refine at_args #[.pointer (some ⟨c.p, 0, none⟩)] ?_); (with_reducible refine (read_c HR.out ok h0 (by omega)).mono ?_); rintro e wc ⟨rfl, hR⟩; replace HR := Aside0.mk hR; clear hR))
  replace HR := Aside0.mk HR.out.drew
  refine start_ (n := 10) (S := fun w' => w'.cell? ⟨c.p, 23, none⟩ = some (.int .i64 st.sp.f1)) (ds := [9]) #[false, false, false, false, false, false, false, false, false, false] (by kernel_rfl) rfl rfl (HR.out.c23) (fun hHeld => ?_)
  generalize wc.drew = wd at HR hHeld ⊢
  refine pure_ (i := 0) (N := some 9) (v := ?_) (a' := ?_) #[true, false, false, false, false, false, false, false, false, false] rfl rfl (by kernel_rfl) (fun _ _ _ h => h) (Or.inl ⟨by rfl, ?_⟩) ?_ ?_
  rotate_left
  · intro w'
    go_simp
    with_reducible rfl
  rotate_left
  · simp only [Act.put, List.setIfInBounds_toArray, List.set_cons_zero, List.set_cons_succ, i64_w, i32_w]
    rfl
  refine pure_ (i := 1) (N := some 10) (v := ?_) (a' := ?_) #[true, true, false, false, false, false, false, false, false, false] rfl rfl (by kernel_rfl) (fun _ _ _ h => h) (Or.inl ⟨by rfl, ?_⟩) ?_ ?_
  rotate_left
  · intro w'
    go_simp
    with_reducible rfl
  rotate_left
  · simp only [Act.put, List.setIfInBounds_toArray, List.set_cons_zero, List.set_cons_succ, i64_w, i32_w]
    rfl
  refine pure_ (i := 2) (N := some 11) (v := ?_) (a' := ?_) #[true, true, true, false, false, false, false, false, false, false] rfl rfl (by kernel_rfl) (fun _ _ _ h => h) (Or.inl ⟨by rfl, ?_⟩) ?_ ?_
  rotate_left
  · intro w'
    go_simp
    with_reducible rfl
  rotate_left
  · simp only [Act.put, List.setIfInBounds_toArray, List.set_cons_zero, List.set_cons_succ, i64_w, i32_w]
    rfl
  refine pure_ (i := 3) (N := some 12) (v := ?_) (a' := ?_) #[true, true, true, true, false, false, false, false, false, false] rfl rfl (by kernel_rfl) (fun _ _ _ h => h) (Or.inl ⟨by rfl, ?_⟩) ?_ ?_
  rotate_left
  · intro w'
    go_simp
    with_reducible rfl
  rotate_left
  · simp only [Act.put, List.setIfInBounds_toArray, List.set_cons_zero, List.set_cons_succ, i64_w, i32_w]
    rfl
  refine pure_ (i := 4) (N := some 13) (v := ?_) (a' := ?_) #[true, true, true, true, true, false, false, false, false, false] rfl rfl (by kernel_rfl) (fun _ _ _ h => h) (Or.inl ⟨by rfl, ?_⟩) ?_ ?_
  rotate_left
  · intro w'
    go_simp
    with_reducible rfl
  rotate_left
  · simp only [Act.put, List.setIfInBounds_toArray, List.set_cons_zero, List.set_cons_succ, i64_w, i32_w]
    rfl
  refine pure_ (i := 6) (N := some 15) (v := ?_) (a' := ?_) #[true, true, true, true, true, false, true, false, false, false] rfl rfl (by kernel_rfl) (fun _ _ _ h => h) (Or.inl ⟨by rfl, ?_⟩) ?_ ?_
  rotate_left
  · intro w'
    go_simp
    with_reducible rfl
  rotate_left
  · simp only [Act.put, List.setIfInBounds_toArray, List.set_cons_zero, List.set_cons_succ, i64_w, i32_w]
    rfl
  refine pure_ (i := 7) (N := some 16) (v := ?_) (a' := ?_) #[true, true, true, true, true, false, true, true, false, false] rfl rfl (by kernel_rfl) (fun _ _ _ h => h) (Or.inl ⟨by rfl, ?_⟩) ?_ ?_
  rotate_left
  · intro w'
    go_simp
    with_reducible rfl
  rotate_left
  · simp only [Act.put, List.setIfInBounds_toArray, List.set_cons_zero, List.set_cons_succ, i64_w, i32_w]
    rfl
  refine take_ (i := 5) (N := some 14) (v := ?_) (a' := ?_) #[true, true, true, true, true, true, true, true, false, false] rfl rfl (by kernel_rfl) (fun _ _ _ h => h) (Or.inl ⟨by rfl, ?_⟩) hHeld ?_ ?_
  rotate_left
  · intro w' s0
    go_simp
    with_reducible rfl
  rotate_left
  · simp only [Act.put, List.setIfInBounds_toArray, List.set_cons_zero, List.set_cons_succ, i64_w, i32_w]
    rfl
  refine one_ (i := 8) (N := some 17) #[true, true, true, true, true, true, true, true, true, false] rfl rfl (by kernel_rfl) (by decide) (fun K hK => ?_)
  refine goes_ Tryz.func107 (by kernel_rfl) rfl #[.int .u16 (rdA st c.v), .int .u16 (1)] (by rfl) rfl rfl (by simp only [List.map_toArray, List.map_cons, List.map_nil]; rfl) ?_
  with_reducible refine (addAcc_c _ _ (rdA_b ok c.v).1 (rdA_b ok c.v).2 (by decide) (by decide) _).mono ?_
  rintro e wc ⟨rfl, hR⟩
  refine ⟨_, rfl, ?_⟩
  replace HR := Aside0.mk (HR.out.drawn hR)
  clear hR
  refine hK.out _ _ (HR.out.c23) (fun hHeld => ?_)
  clear hK K
  refine norm_ (a' := ?_) ?_ ?_
  rotate_left
  · show Act.put _ (some 17) _ = _
    simp only [Act.put, List.setIfInBounds_toArray, List.set_cons_zero, List.set_cons_succ, i64_w, i32_w]
    rfl
  refine last_ (i := 9) (N := some 18) #[true, true, true, true, true, true, true, true, true, true] rfl rfl (by kernel_rfl) (by decide) (fun K hK => ?_)
  refine goes_ Tryz.func172 (by kernel_rfl) rfl #[.pointer (some ⟨c.p, 0, none⟩), .int .i64 st.sp.f1, .int .u16 (addAccI (rdA st c.v) 1)] (by rfl) rfl rfl (by simp only [List.map_toArray, List.map_cons, List.map_nil]; rfl) ?_
  with_reducible refine (store_c HR.out _ (addAccI (rdA st c.v) 1) h0 (addAcc_b (rdA_b ok c.v).1 (by have := (rdA_b ok c.v).2; omega) (by decide) (by decide)).1 (addAcc_b (rdA_b ok c.v).1 (by have := (rdA_b ok c.v).2; omega) (by decide) (by decide)).2 (by omega)).mono ?_
  rintro e wc ⟨rfl, hR⟩
  refine ⟨_, rfl, ?_⟩
  replace HR := Aside0.mk hR
  clear hR
  refine hK.out _ _ ?_
  clear hK K
  refine norm_ (a' := ?_) ?_ ?_
  rotate_left
  · show Act.put _ (some 18) _ = _
    simp only [Act.put, List.setIfInBounds_toArray, List.set_cons_zero, List.set_cons_succ, i64_w, i32_w]
    rfl
  refine done_ (by kernel_rfl) ?_
  go_wp2
  first | go_end0 | ((try simp only [Exit.inBlock, Exit.then]); refine bodyPost_ret (results_none rfl _ _ _) rfl ?_)
  refine ⟨rfl, ?_⟩
  unfold xAug
  rw [if_neg (by have := HB.out; omega)]
  exact HR.out
set_option maxRecDepth 100000 in
set_option maxHeartbeats 4000000 in
theorem aug_1 (h : c.P n st w) (ok : st.r.Ok) (h0 : 0 ≤ st.sp.f1) (hn : n ≤ 80) (hb :  rdA st c.v > 32767) : Calls Tryz.prog 129 #[.pointer (some ⟨c.p, 0, none⟩)] w fun e w' => e = .returned (.tuple #[]) ∧ c.P (n + 1 + 1) (xAug st c.v) w' := by
  have HR := Aside0.mk h
  clear h
  have y0 : (rdA st c.v / 32768 == 1) = true := by have := rdA_b ok c.v; simp; omega
  have HB := Aside0.mk hb
  clear hb
  have hu0 := Tryz.underlying97
  have hu1 := Tryz.underlying26
  have hu2 := Tryz.underlying48
  have hu3 := Tryz.underlying64
  have hu4 := Tryz.underlying29
  go_enter Tryz.func129, Tryz.ntmps129
  go_upto_region 4 with (first | (go_at_call 97; (with_reducible refine at_args #[.pointer (some ⟨c.p, 0, none⟩)] ?_); (with_reducible refine (read_c HR.out ok h0 (by omega)).mono ?_); rintro e wc ⟨rfl, hR⟩; replace HR := Aside0.mk hR; clear hR))
  replace HR := Aside0.mk HR.out.drew
  refine start_ (n := 10) (S := fun w' => w'.cell? ⟨c.p, 23, none⟩ = some (.int .i64 st.sp.f1)) (ds := [9]) #[false, false, false, false, false, false, false, false, false, false] (by kernel_rfl) rfl rfl (HR.out.c23) (fun hHeld => ?_)
  generalize wc.drew = wd at HR hHeld ⊢
  refine pure_ (i := 0) (N := some 9) (v := ?_) (a' := ?_) #[true, false, false, false, false, false, false, false, false, false] rfl rfl (by kernel_rfl) (fun _ _ _ h => h) (Or.inl ⟨by rfl, ?_⟩) ?_ ?_
  rotate_left
  · intro w'
    go_simp
    with_reducible rfl
  rotate_left
  · simp only [Act.put, List.setIfInBounds_toArray, List.set_cons_zero, List.set_cons_succ, i64_w, i32_w]
    rfl
  refine pure_ (i := 1) (N := some 10) (v := ?_) (a' := ?_) #[true, true, false, false, false, false, false, false, false, false] rfl rfl (by kernel_rfl) (fun _ _ _ h => h) (Or.inl ⟨by rfl, ?_⟩) ?_ ?_
  rotate_left
  · intro w'
    go_simp
    with_reducible rfl
  rotate_left
  · simp only [Act.put, List.setIfInBounds_toArray, List.set_cons_zero, List.set_cons_succ, i64_w, i32_w]
    rfl
  refine pure_ (i := 2) (N := some 11) (v := ?_) (a' := ?_) #[true, true, true, false, false, false, false, false, false, false] rfl rfl (by kernel_rfl) (fun _ _ _ h => h) (Or.inl ⟨by rfl, ?_⟩) ?_ ?_
  rotate_left
  · intro w'
    go_simp
    with_reducible rfl
  rotate_left
  · simp only [Act.put, List.setIfInBounds_toArray, List.set_cons_zero, List.set_cons_succ, i64_w, i32_w]
    rfl
  refine pure_ (i := 3) (N := some 12) (v := ?_) (a' := ?_) #[true, true, true, true, false, false, false, false, false, false] rfl rfl (by kernel_rfl) (fun _ _ _ h => h) (Or.inl ⟨by rfl, ?_⟩) ?_ ?_
  rotate_left
  · intro w'
    go_simp
    with_reducible rfl
  rotate_left
  · simp only [Act.put, List.setIfInBounds_toArray, List.set_cons_zero, List.set_cons_succ, i64_w, i32_w]
    rfl
  refine pure_ (i := 4) (N := some 13) (v := ?_) (a' := ?_) #[true, true, true, true, true, false, false, false, false, false] rfl rfl (by kernel_rfl) (fun _ _ _ h => h) (Or.inl ⟨by rfl, ?_⟩) ?_ ?_
  rotate_left
  · intro w'
    go_simp
    with_reducible rfl
  rotate_left
  · simp only [Act.put, List.setIfInBounds_toArray, List.set_cons_zero, List.set_cons_succ, i64_w, i32_w]
    rfl
  refine pure_ (i := 6) (N := some 15) (v := ?_) (a' := ?_) #[true, true, true, true, true, false, true, false, false, false] rfl rfl (by kernel_rfl) (fun _ _ _ h => h) (Or.inl ⟨by rfl, ?_⟩) ?_ ?_
  rotate_left
  · intro w'
    go_simp
    with_reducible rfl
  rotate_left
  · simp only [Act.put, List.setIfInBounds_toArray, List.set_cons_zero, List.set_cons_succ, i64_w, i32_w]
    rfl
  refine pure_ (i := 7) (N := some 16) (v := ?_) (a' := ?_) #[true, true, true, true, true, false, true, true, false, false] rfl rfl (by kernel_rfl) (fun _ _ _ h => h) (Or.inl ⟨by rfl, ?_⟩) ?_ ?_
  rotate_left
  · intro w'
    go_simp
    with_reducible rfl
  rotate_left
  · simp only [Act.put, List.setIfInBounds_toArray, List.set_cons_zero, List.set_cons_succ, i64_w, i32_w]
    rfl
  refine take_ (i := 5) (N := some 14) (v := ?_) (a' := ?_) #[true, true, true, true, true, true, true, true, false, false] rfl rfl (by kernel_rfl) (fun _ _ _ h => h) (Or.inl ⟨by rfl, ?_⟩) hHeld ?_ ?_
  rotate_left
  · intro w' s0
    go_simp
    with_reducible rfl
  rotate_left
  · simp only [Act.put, List.setIfInBounds_toArray, List.set_cons_zero, List.set_cons_succ, i64_w, i32_w]
    rfl
  refine one_ (i := 8) (N := some 17) #[true, true, true, true, true, true, true, true, true, false] rfl rfl (by kernel_rfl) (by decide) (fun K hK => ?_)
  refine goes_ Tryz.func107 (by kernel_rfl) rfl #[.int .u16 (rdA st c.v), .int .u16 (65534)] (by rfl) rfl rfl (by simp only [List.map_toArray, List.map_cons, List.map_nil]; rfl) ?_
  with_reducible refine (addAcc_c _ _ (rdA_b ok c.v).1 (rdA_b ok c.v).2 (by decide) (by decide) _).mono ?_
  rintro e wc ⟨rfl, hR⟩
  refine ⟨_, rfl, ?_⟩
  replace HR := Aside0.mk (HR.out.drawn hR)
  clear hR
  refine hK.out _ _ (HR.out.c23) (fun hHeld => ?_)
  clear hK K
  refine norm_ (a' := ?_) ?_ ?_
  rotate_left
  · show Act.put _ (some 17) _ = _
    simp only [Act.put, List.setIfInBounds_toArray, List.set_cons_zero, List.set_cons_succ, i64_w, i32_w]
    rfl
  refine last_ (i := 9) (N := some 18) #[true, true, true, true, true, true, true, true, true, true] rfl rfl (by kernel_rfl) (by decide) (fun K hK => ?_)
  refine goes_ Tryz.func172 (by kernel_rfl) rfl #[.pointer (some ⟨c.p, 0, none⟩), .int .i64 st.sp.f1, .int .u16 (addAccI (rdA st c.v) 65534)] (by rfl) rfl rfl (by simp only [List.map_toArray, List.map_cons, List.map_nil]; rfl) ?_
  with_reducible refine (store_c HR.out _ (addAccI (rdA st c.v) 65534) h0 (addAcc_b (rdA_b ok c.v).1 (by have := (rdA_b ok c.v).2; omega) (by decide) (by decide)).1 (addAcc_b (rdA_b ok c.v).1 (by have := (rdA_b ok c.v).2; omega) (by decide) (by decide)).2 (by omega)).mono ?_
  rintro e wc ⟨rfl, hR⟩
  refine ⟨_, rfl, ?_⟩
  replace HR := Aside0.mk hR
  clear hR
  refine hK.out _ _ ?_
  clear hK K
  refine norm_ (a' := ?_) ?_ ?_
  rotate_left
  · show Act.put _ (some 18) _ = _
    simp only [Act.put, List.setIfInBounds_toArray, List.set_cons_zero, List.set_cons_succ, i64_w, i32_w]
    rfl
  refine done_ (by kernel_rfl) ?_
  go_wp2
  first | go_end0 | ((try simp only [Exit.inBlock, Exit.then]); refine bodyPost_ret (results_none rfl _ _ _) rfl ?_)
  refine ⟨rfl, ?_⟩
  unfold xAug
  rw [if_pos (by have := HB.out; omega)]
  exact HR.out
theorem aug_c (h : c.P n st w) (ok : st.r.Ok) (h0 : 0 ≤ st.sp.f1) (hn : n ≤ 80) : Calls Tryz.prog 129 #[.pointer (some ⟨c.p, 0, none⟩)] w fun e w' => e = .returned (.tuple #[]) ∧ c.P (n + 1 + 1) (xAug st c.v) w' := by
  by_cases hb : rdA st c.v > 32767
  · exact aug_1 h ok h0 hn hb
  · exact aug_0 h ok h0 hn hb
end
end Go.Proofs.YthfobpkdloejfaaGreat.Cpu
end
