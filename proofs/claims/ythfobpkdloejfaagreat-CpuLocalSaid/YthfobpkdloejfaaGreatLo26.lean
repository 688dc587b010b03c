/- Chapter 5: a part of its proof (cut by program out of CpuM2); no condition. -/
import Derived.BigQuiet
import Derived.Deep.QuietTactic
import Derived.Test.YthfobpkdloejfaaGreatLo23
import Derived.Test.YthfobpkdloejfaaGreatLo25
set_option linter.unusedVariables false
set_option linter.unusedSimpArgs false
set_option linter.unusedSectionVars false
set_option maxRecDepth 100000
set_option maxHeartbeats 8000000
section
namespace Go.Proofs.YthfobpkdloejfaaGreat.Cpu
open Go.RowKit Go.Proofs.YthfobpkdloejfaaGreat.PAll Go.Proofs.YthfobpkdloejfaaGreat.One Go.Proofs.YthfobpkdloejfaaGreat.Mem Go.Proofs.YthfobpkdloejfaaGreat.Row Go.Proofs.YthfobpkdloejfaaGreatW.PrintWords Go.Proofs.YthfobpkdloejfaaGreatW.PrintLast Go.Proofs.YthfobpkdloejfaaGreatW.PrintMore Go.Proofs.YthfobpkdloejfaaGreat.Plain
section
variable {c : Cx} {n : Nat} {st : St} {w : World}
theorem out_1 (h : c.P n st w) (u : Int) (u0 : 0 ≤ u) (u1 : u ≤ 32767) (hk : st.k = 1) : Calls Tryz.prog 119 #[.pointer (some ⟨c.p, 0, none⟩), .int .u16 u] w fun e w' => e = .returned (.tuple #[]) ∧ c.P (n) (st.out u) w' := by
 have HR := Aside0.mk h
 clear h
 have x21 := HR.out.c21
 have y1 : (st.k == 1) = true := by rw [hk]; rfl
 have y2 : (st.k == 2) = false := by rw [hk]; rfl
 have y7 : (st.k == 7) = false := by rw [hk]; rfl
 have e3 : Go.bits .and .u16 (u / 16) 7 = u / 16 % 8 := and_7 (by omega) (by omega)
 have hu0 := Tryz.underlying97
 have hu1 := Tryz.underlying26
 have hu2 := Tryz.underlying48
 have hu3 := Tryz.underlying64
 have hu4 := Tryz.underlying29
 go_enter Tryz.func119, Tryz.ntmps119
 go_wp2_with (first | (refine HR.out.e1 rfl _ _ _ rfl rfl _ rfl ?hi ?_; (case hi => kernel_rfl); intro wc hR; replace HR := Aside0.mk hR; clear hR))
 first | go_end0 | ((try simp only [Exit.inBlock, Exit.then]); refine bodyPost_ret (results_none rfl _ _ _) rfl ?_)
 refine ⟨rfl, ?_⟩
 unfold St.out
 rw [hk]
 have := HR.out
 rw [hk] at this
 exact this
theorem out_2 (h : c.P n st w) (u : Int) (u0 : 0 ≤ u) (u1 : u ≤ 32767) (hk : st.k = 2) : Calls Tryz.prog 119 #[.pointer (some ⟨c.p, 0, none⟩), .int .u16 u] w fun e w' => e = .returned (.tuple #[]) ∧ c.P (n) (st.out u) w' := by
 have HR := Aside0.mk h
 clear h
 have x21 := HR.out.c21
 have y1 : (st.k == 1) = false := by rw [hk]; rfl
 have y2 : (st.k == 2) = true := by rw [hk]; rfl
 have y7 : (st.k == 7) = false := by rw [hk]; rfl
 have e3 : Go.bits .and .u16 (u / 16) 7 = u / 16 % 8 := and_7 (by omega) (by omega)
 have hu0 := Tryz.underlying97
 have hu1 := Tryz.underlying26
 have hu2 := Tryz.underlying48
 have hu3 := Tryz.underlying64
 have hu4 := Tryz.underlying29
 go_enter Tryz.func119, Tryz.ntmps119
 go_wp2_with (first | (refine HR.out.e2 rfl _ _ _ rfl rfl _ rfl ?hi ?_; (case hi => kernel_rfl); intro wc hR; replace HR := Aside0.mk hR; clear hR))
 first | go_end0 | ((try simp only [Exit.inBlock, Exit.then]); refine bodyPost_ret (results_none rfl _ _ _) rfl ?_)
 refine ⟨rfl, ?_⟩
 unfold St.out
 rw [hk]
 have := HR.out
 rw [hk] at this
 exact this
theorem out_7 (h : c.P n st w) (u : Int) (u0 : 0 ≤ u) (u1 : u ≤ 32767) (hk : st.k = 7) : Calls Tryz.prog 119 #[.pointer (some ⟨c.p, 0, none⟩), .int .u16 u] w fun e w' => e = .returned (.tuple #[]) ∧ c.P (n) (st.out u) w' := by
 have HR := Aside0.mk h
 clear h
 have x21 := HR.out.c21
 have y1 : (st.k == 1) = false := by rw [hk]; rfl
 have y2 : (st.k == 2) = false := by rw [hk]; rfl
 have y7 : (st.k == 7) = true := by rw [hk]; rfl
 have e3 : Go.bits .and .u16 (u / 16) 7 = u / 16 % 8 := and_7 (by omega) (by omega)
 have hu0 := Tryz.underlying97
 have hu1 := Tryz.underlying26
 have hu2 := Tryz.underlying48
 have hu3 := Tryz.underlying64
 have hu4 := Tryz.underlying29
 go_enter Tryz.func119, Tryz.ntmps119
 go_wp2_with (first | (refine HR.out.e6 rfl _ _ _ rfl rfl _ rfl ?hi ?_; (case hi => kernel_rfl); intro wc hR; replace HR := Aside0.mk hR; clear hR))
 first | go_end0 | ((try simp only [Exit.inBlock, Exit.then]); refine bodyPost_ret (results_none rfl _ _ _) rfl ?_)
 refine ⟨rfl, ?_⟩
 unfold St.out
 rw [hk]
 have := HR.out
 rw [hk] at this
 exact this
theorem out_d (h : c.P n st w) (u : Int) (u0 : 0 ≤ u) (u1 : u ≤ 32767) (h1 : st.k ≠ 1) (h2 : st.k ≠ 2) (h7 : st.k ≠ 7) (hn : n ≤ 90) : Calls Tryz.prog 119 #[.pointer (some ⟨c.p, 0, none⟩), .int .u16 u] w fun e w' => e = .returned (.tuple #[]) ∧ c.P (n + 1) (st.out u) w' := by
 have HR := Aside0.mk h
 clear h
 have x21 := HR.out.c21
 have y1 : (st.k == 1) = false := by simpa using h1
 have y2 : (st.k == 2) = false := by simpa using h2
 have y7 : (st.k == 7) = false := by simpa using h7
 have hu0 := Tryz.underlying97
 have hu1 := Tryz.underlying26
 have hu2 := Tryz.underlying48
 have hu3 := Tryz.underlying64
 have hu4 := Tryz.underlying29
 go_enter Tryz.func119, Tryz.ntmps119
 go_upto_region 1 with (fail)
 obtain ⟨⟨vC, vO, vR, hF⟩, hok, hsz⟩ := HR.out
 have HF := Aside0.mk (hF.below (below_drew (Below.refl _ _)))
 have HLEN := Aside0.mk (show (st.outs.length + 1) * 16 ≤ 140737488355328 from by unfold St.sz at hsz; omega)
 clear hF HR
 refine start_ (n := 18) (S := fun w' => w'.cell? ⟨c.p, 14, none⟩ = some vO ∧ w'.cell? ⟨c.p, 21, none⟩ = some (.int .i64 st.k)) (ds := [17]) #[false, false, false, false, false, false, false, false, false, false, false, false, false, false, false, false, false, false] (by kernel_rfl) rfl rfl ⟨(blk_cell HF.out.blk 14).trans rfl, (blk_cell HF.out.blk 21).trans rfl⟩ (fun hHeld => ?_)
 generalize w.drew = wd at HF hHeld ⊢
 refine pvq_ 0 (some 8) rfl rfl ?_
 refine pvq_ 1 (some 9) rfl rfl ?_
 refine pvq_ 2 (some 10) rfl rfl ?_
 refine pvq_ 3 (some 11) rfl rfl ?_
 refine pvq_ 4 (some 12) rfl rfl ?_
 refine pvq_ 6 (some 14) rfl rfl ?_
 refine pvq_ 7 (some 15) rfl rfl ?_
 refine pvq_ 8 (some 16) rfl rfl ?_
 refine pvq_ 10 (some 18) rfl rfl ?_
 refine tkq_ 5 (some 13) rfl rfl hHeld ?_
 refine tkq_ 9 (some 17) rfl rfl hHeld ?_
 refine pvq_ 11 (some 19) rfl rfl ?_
 refine onq_ 12 (some 20) rfl rfl (fun K hK => ?_)
 refine Kd.R_lit_step k61 _ 61 ?hg (N := 20) ?hd (xs := ([⟨st.k, u⟩] : List Cl)) (inner := [.int .i64 (st.k), .int .u16 (u)]) (ok := fun _ => True) (okp := fun _ => True) ?hr ?hp (fun _ hk => hk) trivial (Below.refl _ _) (Nat.le_refl _) (by simp) ?_; (case hd => rfl); (case hg => rfl); (case hr => first | (go_simp; done) | (go_simp; rfl)); (case hp => exact (Reps.c2 (show Kd.M k61 _ _ _ (⟨st.k, u⟩ : Cl) [.int .i64 (st.k), .int .u16 (u)] from (k61_mkM _ _ _ (⟨st.k, u⟩ : Cl))) (Reps.none _ _)))
 intro vl wl ho hb hg_ hnew_
 clear hg_ hnew_
 obtain ⟨A, k, rfl, hk, hC⟩ := Kd.R_reads ho
 have HC := Aside0.mk hC
 replace HF := Aside0.mk (HF.out.below hb)
 clear ho hb hC
 refine hK.out _ _ ⟨(blk_cell HF.out.blk 14).trans rfl, (blk_cell HF.out.blk 21).trans rfl⟩ (fun hHeld => ?_)
 clear hK K
 refine nmq_ (some 20) ?_
 refine onq_ 13 (some 21) rfl rfl (fun K hK => ?_)
 refine Kd.R_append_rows_step k61 (Rr := k61.K wl) (w0 := c.w0) c.w0.heap.size ?hw (.tmp 13) (.tmp 20) 46 61 (.agg #[.int .i64 0, .int .u16 0]) 16 ?ho Tryz.underlying46 infoCell rfl (by decide) (by decide) vO st.outs _ A _ k _ (fun _ => False) ?hs ?hx HF.out.ro HC.out ?hKM (fun _ hk => hk.elim) HF.out.freshO HF.out.hb HF.out.base ?hl ?_
 case hw => rfl
 case ho => rfl
 case hs => rfl
 case hx => rfl
 case hKM => exact fun y cs hy => by obtain rfl := k61_open hy; exact k61_mkM _ _ _ y
 case hl => exact HLEN.out
 intro v1 w1 hr hb hg hat
 obtain ⟨B1, k1, e1, hk1, hC1⟩ := Kd.R_reads hr
 rw [List.length_append] at e1
 subst e1
 replace HF := Aside0.mk (RunF.appO HF.out hr hb hg hat)
 clear hr hb hg hat hk1 hC1
 refine hK.out _ _ ⟨(blk_cell HF.out.blk 14).trans rfl, (blk_cell HF.out.blk 21).trans rfl⟩ (fun hHeld => ?_)
 clear hK K
 refine nmq_ (some 21) ?_
 refine pvq_ 14 (some 22) rfl rfl ?_
 refine pvq_ 15 (some 23) rfl rfl ?_
 refine pvq_ 16 (some 24) rfl rfl ?_
 refine laq_ 17 none rfl rfl (fun K hK => ?_)
 refine skip_ (w1 := World.setCell w1 ⟨c.p, 14, none⟩ (.slice B1 (st.outs.length + 1) k1)) (by rfl) rfl ?_ ?_
 · exact run_store_cell _ _ _ rfl c.p 14 rfl (.slice B1 (st.outs.length + 1) k1) rfl vO ((blk_cell HF.out.blk 14).trans rfl) (blk_frozen HF.out.blk 14) rfl rfl (by kernel_rfl)
 replace HF := Aside0.mk (RunF.set HF.out 14 (.slice B1 (st.outs.length + 1) k1))
 generalize World.setCell _ _ _ = wf at HF ⊢
 refine hK.out _ _ ?_
 clear hK K
 refine done_ (by kernel_rfl) ?_
 go_wp2
 first | go_end0 | ((try simp only [Exit.inBlock, Exit.then]); refine bodyPost_ret (results_none rfl _ _ _) rfl ?_)
 refine ⟨rfl, ⟨?_, hok, Nat.le_trans (out_sz _ _) (by omega)⟩⟩
 unfold St.out
 rw [if_neg h1, if_neg h2, if_neg h7]
 exact ⟨vC, (.slice B1 (st.outs.length + 1) k1), vR, HF.out⟩
theorem out_c (h : c.P n st w) (u : Int) (u0 : 0 ≤ u) (u1 : u ≤ 32767) (hn : n ≤ 90) : Calls Tryz.prog 119 #[.pointer (some ⟨c.p, 0, none⟩), .int .u16 u] w fun e w' => e = .returned (.tuple #[]) ∧ c.P (n + 1) (st.out u) w' := by
 have up : ∀ {s : St} {w1 : World}, c.P n s w1 → c.P (n + 1) s w1 := fun h => ⟨h.run, h.ok, by have := h.sz; omega⟩
 by_cases h1 : st.k = 1
 · exact (out_1 h u u0 u1 h1).mono fun e w' ⟨he, hp⟩ => ⟨he, up hp⟩
 · by_cases h2 : st.k = 2
   · exact (out_2 h u u0 u1 h2).mono fun e w' ⟨he, hp⟩ => ⟨he, up hp⟩
   · by_cases h7 : st.k = 7
     · exact (out_7 h u u0 u1 h7).mono fun e w' ⟨he, hp⟩ => ⟨he, up hp⟩
     · exact out_d h u u0 u1 h1 h2 h7 hn
theorem both_c (h : c.P n st w) (u : Int) (u0 : 0 ≤ u) (u1 : u ≤ 32767) (hn : n ≤ 90) : Calls Tryz.prog 124 #[.pointer (some ⟨c.p, 0, none⟩), .int .u16 u] w fun e w' => e = .returned (.tuple #[]) ∧ c.P (n + 1) (xBoth st u) w' := by
 have HR := Aside0.mk h
 clear h
 have hu0 := Tryz.underlying97
 have hu1 := Tryz.underlying26
 have hu2 := Tryz.underlying48
 have hu3 := Tryz.underlying64
 have hu4 := Tryz.underlying29
 go_enter Tryz.func124, Tryz.ntmps124
 go_wp2_with (first | (go_at_call 119; (with_reducible refine at_args #[.pointer (some ⟨c.p, 0, none⟩), .int .u16 u] ?_); (with_reducible refine (out_c HR.out u u0 u1 hn).mono ?_); rintro e wc ⟨rfl, hR⟩; replace HR := Aside0.mk hR; clear hR) | (go_at_call 110; (with_reducible refine at_args #[.pointer (some ⟨c.p, 0, none⟩), .int .u16 u] ?_); (with_reducible refine (set_c HR.out u u0 (by omega)).mono ?_); rintro e wc ⟨rfl, hR⟩; replace HR := Aside0.mk hR; clear hR))
 first | (go_end0; exact ⟨rfl, HR.out⟩) | ((try simp only [Exit.inBlock, Exit.then]); refine bodyPost_ret (results_none rfl _ _ _) rfl ⟨rfl, HR.out⟩) | (go_ret; exact ⟨rfl, HR.out⟩)
theorem chan_1 (h : c.P n st w) (ok : st.r.Ok) (hk : st.k = 1) : Calls Tryz.prog 117 #[.pointer (some ⟨c.p, 0, none⟩)] w fun e w' => e = .returned (.int .u16 (st.chan c.v)) ∧ c.P (n) (st) w' := by
 have HR := Aside0.mk h
 clear h
 have x21 := HR.out.c21
 have x1 := HR.out.c1
 have y1 : (st.k == 1) = true := by rw [hk]; rfl
 have y2 : (st.k == 2) = false := by rw [hk]; rfl
 have y7 : (st.k == 7) = false := by rw [hk]; rfl
 have e3 : IntKind.i64.wrap (st.r.su * 16) = 16 * st.r.su := by { have := ok.s0; have := ok.s1; rw [wraps64 _ (by omega) (by omega)]; omega }
 have e4 : IntKind.u16.wrap (16 * st.r.su) = 16 * st.r.su := u16w (by have := ok.s0; omega) (by have := ok.s1; omega)
 have e5 : wrap64 (st.r.su * 16) = 16 * st.r.su := by { have := ok.s0; have := ok.s1; unfold wrap64; omega }
 unfold St.chan
 rw [hk]
 have hu0 := Tryz.underlying97
 have hu1 := Tryz.underlying26
 have hu2 := Tryz.underlying48
 have hu3 := Tryz.underlying64
 have hu4 := Tryz.underlying29
 go_enter Tryz.func117, Tryz.ntmps117
 rw [hk] at x21
 go_wp2
 go_ret
 exact ⟨rfl, HR.out⟩
theorem chan_2 (h : c.P n st w) (ok : st.r.Ok) (hk : st.k = 2) : Calls Tryz.prog 117 #[.pointer (some ⟨c.p, 0, none⟩)] w fun e w' => e = .returned (.int .u16 (st.chan c.v)) ∧ c.P (n) (st) w' := by
 have HR := Aside0.mk h
 clear h
 have x21 := HR.out.c21
 have x2 := HR.out.c2
 have y1 : (st.k == 1) = false := by rw [hk]; rfl
 have y2 : (st.k == 2) = true := by rw [hk]; rfl
 have y7 : (st.k == 7) = false := by rw [hk]; rfl
 have e3 : IntKind.i64.wrap (st.r.su * 16) = 16 * st.r.su := by { have := ok.s0; have := ok.s1; rw [wraps64 _ (by omega) (by omega)]; omega }
 have e4 : IntKind.u16.wrap (16 * st.r.su) = 16 * st.r.su := u16w (by have := ok.s0; omega) (by have := ok.s1; omega)
 have e5 : wrap64 (st.r.su * 16) = 16 * st.r.su := by { have := ok.s0; have := ok.s1; unfold wrap64; omega }
 unfold St.chan
 rw [hk]
 have hu0 := Tryz.underlying97
 have hu1 := Tryz.underlying26
 have hu2 := Tryz.underlying48
 have hu3 := Tryz.underlying64
 have hu4 := Tryz.underlying29
 go_enter Tryz.func117, Tryz.ntmps117
 rw [hk] at x21
 go_wp2
 go_ret
 exact ⟨rfl, HR.out⟩
theorem chan_7 (h : c.P n st w) (ok : st.r.Ok) (hk : st.k = 7) : Calls Tryz.prog 117 #[.pointer (some ⟨c.p, 0, none⟩)] w fun e w' => e = .returned (.int .u16 (st.chan c.v)) ∧ c.P (n) (st) w' := by
 have HR := Aside0.mk h
 clear h
 have x21 := HR.out.c21
 have x6 := HR.out.c6
 have y1 : (st.k == 1) = false := by rw [hk]; rfl
 have y2 : (st.k == 2) = false := by rw [hk]; rfl
 have y7 : (st.k == 7) = true := by rw [hk]; rfl
 have e3 : IntKind.i64.wrap (st.r.su * 16) = 16 * st.r.su := by { have := ok.s0; have := ok.s1; rw [wraps64 _ (by omega) (by omega)]; omega }
 have e4 : IntKind.u16.wrap (16 * st.r.su) = 16 * st.r.su := u16w (by have := ok.s0; omega) (by have := ok.s1; omega)
 have e5 : wrap64 (st.r.su * 16) = 16 * st.r.su := by { have := ok.s0; have := ok.s1; unfold wrap64; omega }
 unfold St.chan
 rw [hk]
 have hu0 := Tryz.underlying97
 have hu1 := Tryz.underlying26
 have hu2 := Tryz.underlying48
 have hu3 := Tryz.underlying64
 have hu4 := Tryz.underlying29
 go_enter Tryz.func117, Tryz.ntmps117
 rw [hk] at x21
 go_wp2
 go_ret
 exact ⟨rfl, HR.out⟩
theorem chan_d (h : c.P n st w) (ok : st.r.Ok) (k0 : 0 ≤ st.k) (h1 : st.k ≠ 1) (h2 : st.k ≠ 2) (h7 : st.k ≠ 7) : Calls Tryz.prog 117 #[.pointer (some ⟨c.p, 0, none⟩)] w fun e w' => e = .returned (.int .u16 (st.chan c.v)) ∧ c.P (n) (st) w' := by
 have HR := Aside0.mk h
 clear h
 have x21 := HR.out.c21
 have x20 := HR.out.c20
 have x19 := HR.out.c19
 have x18 := HR.out.c18
 have y1 : (st.k == 1) = false := by simpa using h1
 have y2 : (st.k == 2) = false := by simpa using h2
 have y7 : (st.k == 7) = false := by simpa using h7
 unfold St.chan
 rw [if_neg h1, if_neg h2, if_neg h7]
 have hu0 := Tryz.underlying97
 have hu1 := Tryz.underlying26
 have hu2 := Tryz.underlying48
 have hu3 := Tryz.underlying64
 have hu4 := Tryz.underlying29
 go_enter Tryz.func117, Tryz.ntmps117
 go_upto_region 8 with (fail)
 go_quiet ((go_at_call 71; exact dq_ (element_c _ (HR.out.view.below (pw_below_drewN (Below.refl _ _) _)).cc HR.out.view.bc HR.out.ok.h2 k0)))
 go_wp2
 go_ret
 exact ⟨rfl, HR.out.drawn ⟨⟨_, rfl⟩⟩⟩
theorem channel_c (h : c.P n st w) (ok : st.r.Ok) (k0 : 0 ≤ st.k) : Calls Tryz.prog 117 #[.pointer (some ⟨c.p, 0, none⟩)] w fun e w' => e = .returned (.int .u16 (st.chan c.v)) ∧ c.P n st w' := by
 by_cases h1 : st.k = 1
 · exact chan_1 h ok h1
 · by_cases h2 : st.k = 2
   · exact chan_2 h ok h2
   · by_cases h7 : st.k = 7
     · exact chan_7 h ok h7
     · exact chan_d h ok k0 h1 h2 h7
theorem next_1 (h : c.P n st w) (h0 : 0 ≤ st.sp.f1) (h1 : st.sp.f1 < 40000) (a : st.sp.f0 = 1) (b : st.sp.f1 + 1 = 2048) : Calls Tryz.prog 170 #[.pointer (some ⟨c.p, 0, none⟩)] w fun e w' => e = .returned (.agg #[.int .u8 st.sp.f0, .int .i64 (0)]) ∧ c.P (n) (st) w' := by
 have HR := Aside0.mk h
 clear h
 have HB := Aside0.mk (Below.refl w.heap.size w)
 have e0 : wrap64 (st.sp.f1 + 1) = st.sp.f1 + 1 := by unfold wrap64; omega
 have y0 : (st.sp.f0 == 1) = true := by simpa using a
 have y1 : (st.sp.f1 + 1 == 2048) = true := by simpa using b
 clear a b
 have hu0 := Tryz.underlying97
 have hu1 := Tryz.underlying26
 have hu2 := Tryz.underlying48
 have hu3 := Tryz.underlying64
 have hu4 := Tryz.underlying29
 go_enter Tryz.func170, Tryz.ntmps170
 go_upto_region 2 with (first | (refine boxq_ 2 #[.int .u8 0, .int .i64 0] 64 ?_; intro g2 hg wb K hb; (try have NE2_2 := nkb_ K2 hg); (try have NE3_2 := nkb_ K3 hg); have L2 := lkb_ HB hg; (try replace K2 := kbb_ K2 hb); (try replace K3 := kbb_ K3 hb); replace HB := hbs_ HB hb; have K2 := Aside0.mk K; clear K hb hg; (try have x22 := (HR.out.below HB.out).c22); (try have x23 := (HR.out.below HB.out).c23)) | (refine boxq_ 3 #[.int .u8 0, .int .i64 0] 64 ?_; intro g3 hg wb K hb; (try have NE2_3 := nkb_ K2 hg); (try have NE3_3 := nkb_ K3 hg); have L3 := lkb_ HB hg; (try replace K2 := kbb_ K2 hb); (try replace K3 := kbb_ K3 hb); replace HB := hbs_ HB hb; have K3 := Aside0.mk K; clear K hb hg; (try have x22 := (HR.out.below HB.out).c22); (try have x23 := (HR.out.below HB.out).c23)) | (refine strq_ 64 3 7 g3 #[.int .u8 st.sp.f0, .int .i64 st.sp.f1] K3 ?_; intro ws hk hfar hbel hkp; replace HB := Aside0.mk (hbel _ _ HB.out L3.out); (try replace K2 := hfr_ hfar K2 (by first | exact NE2_3.out | exact NE3_2.out.symm)); (try replace K3 := hfr_ hfar K3 (by first | exact NE3_3.out | exact NE3_3.out.symm)); replace K3 := Aside0.mk hk; clear hk hfar hbel hkp))
 have z0 := (blk_cell K3.out 0).trans (show _ = some (.int .u8 st.sp.f0) from rfl)
 have z1 := (blk_cell K3.out 1).trans (show _ = some (.int .i64 st.sp.f1) from rfl)
 go_upto_region 3 with (first | (refine store_cell_ rfl _ _ _ rfl g3 1 rfl (.int .i64 (st.sp.f1 + 1)) rfl _ ((blk_cell K3.out 1).trans rfl) (blk_frozen K3.out 1) rfl rfl ?hi ?_; (case hi => kernel_rfl); replace HB := Aside0.mk (below_set (j := 1) (v := .int .i64 (st.sp.f1 + 1)) HB.out L3.out); replace K2 := Aside0.mk (blk_far (p := ⟨g3, 1, none⟩) K2.out NE2_3.out (.int .i64 (st.sp.f1 + 1))); replace K3 := Aside0.mk (blk_set K3.out 1 (.int .i64 (st.sp.f1 + 1))); generalize World.setCell _ _ _ = ws at HB K2 K3 ⊢))
 clear z0 z1
 have z0 := (blk_cell K3.out 0).trans (show _ = some (.int .u8 st.sp.f0) from rfl)
 have z1 := (blk_cell K3.out 1).trans (show _ = some (.int .i64 (st.sp.f1 + 1)) from rfl)
 go_upto_region 5 with (first | (refine store_cell_ rfl _ _ _ rfl g3 1 rfl (.int .i64 (0)) rfl _ ((blk_cell K3.out 1).trans rfl) (blk_frozen K3.out 1) rfl rfl ?hi ?_; (case hi => kernel_rfl); replace HB := Aside0.mk (below_set (j := 1) (v := .int .i64 (0)) HB.out L3.out); replace K2 := Aside0.mk (blk_far (p := ⟨g3, 1, none⟩) K2.out NE2_3.out (.int .i64 (0))); replace K3 := Aside0.mk (blk_set K3.out 1 (.int .i64 (0))); generalize World.setCell _ _ _ = ws at HB K2 K3 ⊢))
 clear z0 z1
 have z0 := (blk_cell K3.out 0).trans (show _ = some (.int .u8 st.sp.f0) from rfl)
 have z1 := (blk_cell K3.out 1).trans (show _ = some (.int .i64 0) from rfl)
 go_wp2_with (first | (refine strq_ 64 2 26 g2 #[.int .u8 st.sp.f0, .int .i64 (0)] K2 ?_; intro ws hk hfar hbel hkp; replace HB := Aside0.mk (hbel _ _ HB.out L2.out); (try replace K2 := hfr_ hfar K2 (by first | exact NE2_2.out | exact NE2_2.out.symm)); (try replace K3 := hfr_ hfar K3 (by first | exact NE3_2.out | exact NE2_3.out.symm)); replace K2 := Aside0.mk hk; clear hk hfar hbel hkp))
 refine bodyPost_ret (results_cell_row rfl _ _ g2 64 #[.int .u8 st.sp.f0, .int .i64 (0)] (0, 0) _ rfl K2.out Tryz.underlying64 rfl (by kernel_rfl)) rfl ⟨rfl, HR.out.below HB.out⟩
theorem next_2 (h : c.P n st w) (h0 : 0 ≤ st.sp.f1) (h1 : st.sp.f1 < 40000) (a : st.sp.f0 = 1) (b : st.sp.f1 + 1 ≠ 2048) (d : st.sp.f1 + 1 = 36864) : Calls Tryz.prog 170 #[.pointer (some ⟨c.p, 0, none⟩)] w fun e w' => e = .returned (.agg #[.int .u8 st.sp.f0, .int .i64 (0)]) ∧ c.P (n) (st) w' := by
 have HR := Aside0.mk h
 clear h
 have HB := Aside0.mk (Below.refl w.heap.size w)
 have e0 : wrap64 (st.sp.f1 + 1) = st.sp.f1 + 1 := by unfold wrap64; omega
 have y0 : (st.sp.f0 == 1) = true := by simpa using a
 have y1 : (st.sp.f1 + 1 == 2048) = false := by simpa using b
 have y2 : (st.sp.f1 + 1 == 36864) = true := by simpa using d
 clear a b d
 have hu0 := Tryz.underlying97
 have hu1 := Tryz.underlying26
 have hu2 := Tryz.underlying48
 have hu3 := Tryz.underlying64
 have hu4 := Tryz.underlying29
 go_enter Tryz.func170, Tryz.ntmps170
 go_upto_region 2 with (first | (refine boxq_ 2 #[.int .u8 0, .int .i64 0] 64 ?_; intro g2 hg wb K hb; (try have NE2_2 := nkb_ K2 hg); (try have NE3_2 := nkb_ K3 hg); have L2 := lkb_ HB hg; (try replace K2 := kbb_ K2 hb); (try replace K3 := kbb_ K3 hb); replace HB := hbs_ HB hb; have K2 := Aside0.mk K; clear K hb hg; (try have x22 := (HR.out.below HB.out).c22); (try have x23 := (HR.out.below HB.out).c23)) | (refine boxq_ 3 #[.int .u8 0, .int .i64 0] 64 ?_; intro g3 hg wb K hb; (try have NE2_3 := nkb_ K2 hg); (try have NE3_3 := nkb_ K3 hg); have L3 := lkb_ HB hg; (try replace K2 := kbb_ K2 hb); (try replace K3 := kbb_ K3 hb); replace HB := hbs_ HB hb; have K3 := Aside0.mk K; clear K hb hg; (try have x22 := (HR.out.below HB.out).c22); (try have x23 := (HR.out.below HB.out).c23)) | (refine strq_ 64 3 7 g3 #[.int .u8 st.sp.f0, .int .i64 st.sp.f1] K3 ?_; intro ws hk hfar hbel hkp; replace HB := Aside0.mk (hbel _ _ HB.out L3.out); (try replace K2 := hfr_ hfar K2 (by first | exact NE2_3.out | exact NE3_2.out.symm)); (try replace K3 := hfr_ hfar K3 (by first | exact NE3_3.out | exact NE3_3.out.symm)); replace K3 := Aside0.mk hk; clear hk hfar hbel hkp))
 have z0 := (blk_cell K3.out 0).trans (show _ = some (.int .u8 st.sp.f0) from rfl)
 have z1 := (blk_cell K3.out 1).trans (show _ = some (.int .i64 st.sp.f1) from rfl)
 go_upto_region 3 with (first | (refine store_cell_ rfl _ _ _ rfl g3 1 rfl (.int .i64 (st.sp.f1 + 1)) rfl _ ((blk_cell K3.out 1).trans rfl) (blk_frozen K3.out 1) rfl rfl ?hi ?_; (case hi => kernel_rfl); replace HB := Aside0.mk (below_set (j := 1) (v := .int .i64 (st.sp.f1 + 1)) HB.out L3.out); replace K2 := Aside0.mk (blk_far (p := ⟨g3, 1, none⟩) K2.out NE2_3.out (.int .i64 (st.sp.f1 + 1))); replace K3 := Aside0.mk (blk_set K3.out 1 (.int .i64 (st.sp.f1 + 1))); generalize World.setCell _ _ _ = ws at HB K2 K3 ⊢))
 clear z0 z1
 have z0 := (blk_cell K3.out 0).trans (show _ = some (.int .u8 st.sp.f0) from rfl)
 have z1 := (blk_cell K3.out 1).trans (show _ = some (.int .i64 (st.sp.f1 + 1)) from rfl)
 go_upto_region 5 with (first | (refine store_cell_ rfl _ _ _ rfl g3 1 rfl (.int .i64 (0)) rfl _ ((blk_cell K3.out 1).trans rfl) (blk_frozen K3.out 1) rfl rfl ?hi ?_; (case hi => kernel_rfl); replace HB := Aside0.mk (below_set (j := 1) (v := .int .i64 (0)) HB.out L3.out); replace K2 := Aside0.mk (blk_far (p := ⟨g3, 1, none⟩) K2.out NE2_3.out (.int .i64 (0))); replace K3 := Aside0.mk (blk_set K3.out 1 (.int .i64 (0))); generalize World.setCell _ _ _ = ws at HB K2 K3 ⊢))
 clear z0 z1
 have z0 := (blk_cell K3.out 0).trans (show _ = some (.int .u8 st.sp.f0) from rfl)
 have z1 := (blk_cell K3.out 1).trans (show _ = some (.int .i64 0) from rfl)
 go_wp2_with (first | (refine strq_ 64 2 26 g2 #[.int .u8 st.sp.f0, .int .i64 (0)] K2 ?_; intro ws hk hfar hbel hkp; replace HB := Aside0.mk (hbel _ _ HB.out L2.out); (try replace K2 := hfr_ hfar K2 (by first | exact NE2_2.out | exact NE2_2.out.symm)); (try replace K3 := hfr_ hfar K3 (by first | exact NE3_2.out | exact NE2_3.out.symm)); replace K2 := Aside0.mk hk; clear hk hfar hbel hkp))
 refine bodyPost_ret (results_cell_row rfl _ _ g2 64 #[.int .u8 st.sp.f0, .int .i64 (0)] (0, 0) _ rfl K2.out Tryz.underlying64 rfl (by kernel_rfl)) rfl ⟨rfl, HR.out.below HB.out⟩
theorem next_3 (h : c.P n st w) (h0 : 0 ≤ st.sp.f1) (h1 : st.sp.f1 < 40000) (a : st.sp.f0 = 1) (b : st.sp.f1 + 1 ≠ 2048) (d : st.sp.f1 + 1 ≠ 36864) : Calls Tryz.prog 170 #[.pointer (some ⟨c.p, 0, none⟩)] w fun e w' => e = .returned (.agg #[.int .u8 st.sp.f0, .int .i64 (st.sp.f1 + 1)]) ∧ c.P (n) (st) w' := by
 have HR := Aside0.mk h
 clear h
 have HB := Aside0.mk (Below.refl w.heap.size w)
 have e0 : wrap64 (st.sp.f1 + 1) = st.sp.f1 + 1 := by unfold wrap64; omega
 have y0 : (st.sp.f0 == 1) = true := by simpa using a
 have y1 : (st.sp.f1 + 1 == 2048) = false := by simpa using b
 have y2 : (st.sp.f1 + 1 == 36864) = false := by simpa using d
 clear a b d
 have hu0 := Tryz.underlying97
 have hu1 := Tryz.underlying26
 have hu2 := Tryz.underlying48
 have hu3 := Tryz.underlying64
 have hu4 := Tryz.underlying29
 go_enter Tryz.func170, Tryz.ntmps170
 go_upto_region 2 with (first | (refine boxq_ 2 #[.int .u8 0, .int .i64 0] 64 ?_; intro g2 hg wb K hb; (try have NE2_2 := nkb_ K2 hg); (try have NE3_2 := nkb_ K3 hg); have L2 := lkb_ HB hg; (try replace K2 := kbb_ K2 hb); (try replace K3 := kbb_ K3 hb); replace HB := hbs_ HB hb; have K2 := Aside0.mk K; clear K hb hg; (try have x22 := (HR.out.below HB.out).c22); (try have x23 := (HR.out.below HB.out).c23)) | (refine boxq_ 3 #[.int .u8 0, .int .i64 0] 64 ?_; intro g3 hg wb K hb; (try have NE2_3 := nkb_ K2 hg); (try have NE3_3 := nkb_ K3 hg); have L3 := lkb_ HB hg; (try replace K2 := kbb_ K2 hb); (try replace K3 := kbb_ K3 hb); replace HB := hbs_ HB hb; have K3 := Aside0.mk K; clear K hb hg; (try have x22 := (HR.out.below HB.out).c22); (try have x23 := (HR.out.below HB.out).c23)) | (refine strq_ 64 3 7 g3 #[.int .u8 st.sp.f0, .int .i64 st.sp.f1] K3 ?_; intro ws hk hfar hbel hkp; replace HB := Aside0.mk (hbel _ _ HB.out L3.out); (try replace K2 := hfr_ hfar K2 (by first | exact NE2_3.out | exact NE3_2.out.symm)); (try replace K3 := hfr_ hfar K3 (by first | exact NE3_3.out | exact NE3_3.out.symm)); replace K3 := Aside0.mk hk; clear hk hfar hbel hkp))
 have z0 := (blk_cell K3.out 0).trans (show _ = some (.int .u8 st.sp.f0) from rfl)
 have z1 := (blk_cell K3.out 1).trans (show _ = some (.int .i64 st.sp.f1) from rfl)
 go_upto_region 3 with (first | (refine store_cell_ rfl _ _ _ rfl g3 1 rfl (.int .i64 (st.sp.f1 + 1)) rfl _ ((blk_cell K3.out 1).trans rfl) (blk_frozen K3.out 1) rfl rfl ?hi ?_; (case hi => kernel_rfl); replace HB := Aside0.mk (below_set (j := 1) (v := .int .i64 (st.sp.f1 + 1)) HB.out L3.out); replace K2 := Aside0.mk (blk_far (p := ⟨g3, 1, none⟩) K2.out NE2_3.out (.int .i64 (st.sp.f1 + 1))); replace K3 := Aside0.mk (blk_set K3.out 1 (.int .i64 (st.sp.f1 + 1))); generalize World.setCell _ _ _ = ws at HB K2 K3 ⊢))
 clear z0 z1
 have z0 := (blk_cell K3.out 0).trans (show _ = some (.int .u8 st.sp.f0) from rfl)
 have z1 := (blk_cell K3.out 1).trans (show _ = some (.int .i64 (st.sp.f1 + 1)) from rfl)
 go_wp2_with (first | (refine strq_ 64 2 26 g2 #[.int .u8 st.sp.f0, .int .i64 (st.sp.f1 + 1)] K2 ?_; intro ws hk hfar hbel hkp; replace HB := Aside0.mk (hbel _ _ HB.out L2.out); (try replace K2 := hfr_ hfar K2 (by first | exact NE2_2.out | exact NE2_2.out.symm)); (try replace K3 := hfr_ hfar K3 (by first | exact NE3_2.out | exact NE2_3.out.symm)); replace K2 := Aside0.mk hk; clear hk hfar hbel hkp))
 refine bodyPost_ret (results_cell_row rfl _ _ g2 64 #[.int .u8 st.sp.f0, .int .i64 (st.sp.f1 + 1)] (0, 0) _ rfl K2.out Tryz.underlying64 rfl (by kernel_rfl)) rfl ⟨rfl, HR.out.below HB.out⟩
theorem next_4 (h : c.P n st w) (h0 : 0 ≤ st.sp.f1) (h1 : st.sp.f1 < 40000) (a : st.sp.f0 ≠ 1) (d : st.sp.f1 + 1 = 36864) : Calls Tryz.prog 170 #[.pointer (some ⟨c.p, 0, none⟩)] w fun e w' => e = .returned (.agg #[.int .u8 st.sp.f0, .int .i64 (0)]) ∧ c.P (n) (st) w' := by
 have HR := Aside0.mk h
 clear h
 have HB := Aside0.mk (Below.refl w.heap.size w)
 have e0 : wrap64 (st.sp.f1 + 1) = st.sp.f1 + 1 := by unfold wrap64; omega
 have y0 : (st.sp.f0 == 1) = false := by simpa using a
 have y1 : (st.sp.f1 + 1 == 36864) = true := by simpa using d
 clear a d
 have hu0 := Tryz.underlying97
 have hu1 := Tryz.underlying26
 have hu2 := Tryz.underlying48
 have hu3 := Tryz.underlying64
 have hu4 := Tryz.underlying29
 go_enter Tryz.func170, Tryz.ntmps170
 go_upto_region 2 with (first | (refine boxq_ 2 #[.int .u8 0, .int .i64 0] 64 ?_; intro g2 hg wb K hb; (try have NE2_2 := nkb_ K2 hg); (try have NE3_2 := nkb_ K3 hg); have L2 := lkb_ HB hg; (try replace K2 := kbb_ K2 hb); (try replace K3 := kbb_ K3 hb); replace HB := hbs_ HB hb; have K2 := Aside0.mk K; clear K hb hg; (try have x22 := (HR.out.below HB.out).c22); (try have x23 := (HR.out.below HB.out).c23)) | (refine boxq_ 3 #[.int .u8 0, .int .i64 0] 64 ?_; intro g3 hg wb K hb; (try have NE2_3 := nkb_ K2 hg); (try have NE3_3 := nkb_ K3 hg); have L3 := lkb_ HB hg; (try replace K2 := kbb_ K2 hb); (try replace K3 := kbb_ K3 hb); replace HB := hbs_ HB hb; have K3 := Aside0.mk K; clear K hb hg; (try have x22 := (HR.out.below HB.out).c22); (try have x23 := (HR.out.below HB.out).c23)) | (refine strq_ 64 3 7 g3 #[.int .u8 st.sp.f0, .int .i64 st.sp.f1] K3 ?_; intro ws hk hfar hbel hkp; replace HB := Aside0.mk (hbel _ _ HB.out L3.out); (try replace K2 := hfr_ hfar K2 (by first | exact NE2_3.out | exact NE3_2.out.symm)); (try replace K3 := hfr_ hfar K3 (by first | exact NE3_3.out | exact NE3_3.out.symm)); replace K3 := Aside0.mk hk; clear hk hfar hbel hkp))
 have z0 := (blk_cell K3.out 0).trans (show _ = some (.int .u8 st.sp.f0) from rfl)
 have z1 := (blk_cell K3.out 1).trans (show _ = some (.int .i64 st.sp.f1) from rfl)
 go_upto_region 3 with (first | (refine store_cell_ rfl _ _ _ rfl g3 1 rfl (.int .i64 (st.sp.f1 + 1)) rfl _ ((blk_cell K3.out 1).trans rfl) (blk_frozen K3.out 1) rfl rfl ?hi ?_; (case hi => kernel_rfl); replace HB := Aside0.mk (below_set (j := 1) (v := .int .i64 (st.sp.f1 + 1)) HB.out L3.out); replace K2 := Aside0.mk (blk_far (p := ⟨g3, 1, none⟩) K2.out NE2_3.out (.int .i64 (st.sp.f1 + 1))); replace K3 := Aside0.mk (blk_set K3.out 1 (.int .i64 (st.sp.f1 + 1))); generalize World.setCell _ _ _ = ws at HB K2 K3 ⊢))
 clear z0 z1
 have z0 := (blk_cell K3.out 0).trans (show _ = some (.int .u8 st.sp.f0) from rfl)
 have z1 := (blk_cell K3.out 1).trans (show _ = some (.int .i64 (st.sp.f1 + 1)) from rfl)
 go_upto_region 5 with (first | (refine store_cell_ rfl _ _ _ rfl g3 1 rfl (.int .i64 (0)) rfl _ ((blk_cell K3.out 1).trans rfl) (blk_frozen K3.out 1) rfl rfl ?hi ?_; (case hi => kernel_rfl); replace HB := Aside0.mk (below_set (j := 1) (v := .int .i64 (0)) HB.out L3.out); replace K2 := Aside0.mk (blk_far (p := ⟨g3, 1, none⟩) K2.out NE2_3.out (.int .i64 (0))); replace K3 := Aside0.mk (blk_set K3.out 1 (.int .i64 (0))); generalize World.setCell _ _ _ = ws at HB K2 K3 ⊢))
 clear z0 z1
 have z0 := (blk_cell K3.out 0).trans (show _ = some (.int .u8 st.sp.f0) from rfl)
 have z1 := (blk_cell K3.out 1).trans (show _ = some (.int .i64 0) from rfl)
 go_wp2_with (first | (refine strq_ 64 2 26 g2 #[.int .u8 st.sp.f0, .int .i64 (0)] K2 ?_; intro ws hk hfar hbel hkp; replace HB := Aside0.mk (hbel _ _ HB.out L2.out); (try replace K2 := hfr_ hfar K2 (by first | exact NE2_2.out | exact NE2_2.out.symm)); (try replace K3 := hfr_ hfar K3 (by first | exact NE3_2.out | exact NE2_3.out.symm)); replace K2 := Aside0.mk hk; clear hk hfar hbel hkp))
 refine bodyPost_ret (results_cell_row rfl _ _ g2 64 #[.int .u8 st.sp.f0, .int .i64 (0)] (0, 0) _ rfl K2.out Tryz.underlying64 rfl (by kernel_rfl)) rfl ⟨rfl, HR.out.below HB.out⟩
theorem next_5 (h : c.P n st w) (h0 : 0 ≤ st.sp.f1) (h1 : st.sp.f1 < 40000) (a : st.sp.f0 ≠ 1) (d : st.sp.f1 + 1 ≠ 36864) : Calls Tryz.prog 170 #[.pointer (some ⟨c.p, 0, none⟩)] w fun e w' => e = .returned (.agg #[.int .u8 st.sp.f0, .int .i64 (st.sp.f1 + 1)]) ∧ c.P (n) (st) w' := by
 have HR := Aside0.mk h
 clear h
 have HB := Aside0.mk (Below.refl w.heap.size w)
 have e0 : wrap64 (st.sp.f1 + 1) = st.sp.f1 + 1 := by unfold wrap64; omega
 have y0 : (st.sp.f0 == 1) = false := by simpa using a
 have y1 : (st.sp.f1 + 1 == 36864) = false := by simpa using d
 clear a d
 have hu0 := Tryz.underlying97
 have hu1 := Tryz.underlying26
 have hu2 := Tryz.underlying48
 have hu3 := Tryz.underlying64
 have hu4 := Tryz.underlying29
 go_enter Tryz.func170, Tryz.ntmps170
 go_upto_region 2 with (first | (refine boxq_ 2 #[.int .u8 0, .int .i64 0] 64 ?_; intro g2 hg wb K hb; (try have NE2_2 := nkb_ K2 hg); (try have NE3_2 := nkb_ K3 hg); have L2 := lkb_ HB hg; (try replace K2 := kbb_ K2 hb); (try replace K3 := kbb_ K3 hb); replace HB := hbs_ HB hb; have K2 := Aside0.mk K; clear K hb hg; (try have x22 := (HR.out.below HB.out).c22); (try have x23 := (HR.out.below HB.out).c23)) | (refine boxq_ 3 #[.int .u8 0, .int .i64 0] 64 ?_; intro g3 hg wb K hb; (try have NE2_3 := nkb_ K2 hg); (try have NE3_3 := nkb_ K3 hg); have L3 := lkb_ HB hg; (try replace K2 := kbb_ K2 hb); (try replace K3 := kbb_ K3 hb); replace HB := hbs_ HB hb; have K3 := Aside0.mk K; clear K hb hg; (try have x22 := (HR.out.below HB.out).c22); (try have x23 := (HR.out.below HB.out).c23)) | (refine strq_ 64 3 7 g3 #[.int .u8 st.sp.f0, .int .i64 st.sp.f1] K3 ?_; intro ws hk hfar hbel hkp; replace HB := Aside0.mk (hbel _ _ HB.out L3.out); (try replace K2 := hfr_ hfar K2 (by first | exact NE2_3.out | exact NE3_2.out.symm)); (try replace K3 := hfr_ hfar K3 (by first | exact NE3_3.out | exact NE3_3.out.symm)); replace K3 := Aside0.mk hk; clear hk hfar hbel hkp))
 have z0 := (blk_cell K3.out 0).trans (show _ = some (.int .u8 st.sp.f0) from rfl)
 have z1 := (blk_cell K3.out 1).trans (show _ = some (.int .i64 st.sp.f1) from rfl)
 go_upto_region 3 with (first | (refine store_cell_ rfl _ _ _ rfl g3 1 rfl (.int .i64 (st.sp.f1 + 1)) rfl _ ((blk_cell K3.out 1).trans rfl) (blk_frozen K3.out 1) rfl rfl ?hi ?_; (case hi => kernel_rfl); replace HB := Aside0.mk (below_set (j := 1) (v := .int .i64 (st.sp.f1 + 1)) HB.out L3.out); replace K2 := Aside0.mk (blk_far (p := ⟨g3, 1, none⟩) K2.out NE2_3.out (.int .i64 (st.sp.f1 + 1))); replace K3 := Aside0.mk (blk_set K3.out 1 (.int .i64 (st.sp.f1 + 1))); generalize World.setCell _ _ _ = ws at HB K2 K3 ⊢))
 clear z0 z1
 have z0 := (blk_cell K3.out 0).trans (show _ = some (.int .u8 st.sp.f0) from rfl)
 have z1 := (blk_cell K3.out 1).trans (show _ = some (.int .i64 (st.sp.f1 + 1)) from rfl)
 go_wp2_with (first | (refine strq_ 64 2 26 g2 #[.int .u8 st.sp.f0, .int .i64 (st.sp.f1 + 1)] K2 ?_; intro ws hk hfar hbel hkp; replace HB := Aside0.mk (hbel _ _ HB.out L2.out); (try replace K2 := hfr_ hfar K2 (by first | exact NE2_2.out | exact NE2_2.out.symm)); (try replace K3 := hfr_ hfar K3 (by first | exact NE3_2.out | exact NE2_3.out.symm)); replace K2 := Aside0.mk hk; clear hk hfar hbel hkp))
 refine bodyPost_ret (results_cell_row rfl _ _ g2 64 #[.int .u8 st.sp.f0, .int .i64 (st.sp.f1 + 1)] (0, 0) _ rfl K2.out Tryz.underlying64 rfl (by kernel_rfl)) rfl ⟨rfl, HR.out.below HB.out⟩
theorem next_c (h : c.P n st w) (h0 : 0 ≤ st.sp.f1) (h1 : st.sp.f1 < 40000) : Calls Tryz.prog 170 #[.pointer (some ⟨c.p, 0, none⟩)] w fun e w' => e = .returned (.agg #[.int .u8 (nextSp st.sp).f0, .int .i64 (nextSp st.sp).f1]) ∧ c.P n st w' := by
 unfold nextSp
 by_cases a : st.sp.f0 = 1
 · by_cases b : st.sp.f1 + 1 = 2048
   · simp only [if_pos (show st.sp.f0 = 1 ∧ st.sp.f1 + 1 = 2048 ∨ st.sp.f1 + 1 = 36864 from Or.inl ⟨a, b⟩)]; exact next_1 h h0 h1 a b
   · by_cases d : st.sp.f1 + 1 = 36864
     · simp only [if_pos (show st.sp.f0 = 1 ∧ st.sp.f1 + 1 = 2048 ∨ st.sp.f1 + 1 = 36864 from Or.inr d)]; exact next_2 h h0 h1 a b d
     · simp only [if_neg (show ¬ (st.sp.f0 = 1 ∧ st.sp.f1 + 1 = 2048 ∨ st.sp.f1 + 1 = 36864) from fun x => x.elim (fun y => b y.2) d)]; exact next_3 h h0 h1 a b d
 · by_cases d : st.sp.f1 + 1 = 36864
   · simp only [if_pos (show st.sp.f0 = 1 ∧ st.sp.f1 + 1 = 2048 ∨ st.sp.f1 + 1 = 36864 from Or.inr d)]; exact next_4 h h0 h1 a d
   · simp only [if_neg (show ¬ (st.sp.f0 = 1 ∧ st.sp.f1 + 1 = 2048 ∨ st.sp.f1 + 1 = 36864) from fun x => x.elim (fun y => a y.1) d)]; exact next_5 h h0 h1 a d
end
end Go.Proofs.YthfobpkdloejfaaGreat.Cpu
end
